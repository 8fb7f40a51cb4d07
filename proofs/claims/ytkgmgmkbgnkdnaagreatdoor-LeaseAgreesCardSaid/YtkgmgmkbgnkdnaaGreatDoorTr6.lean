/- digest.left, Proof. -/
/- digest.Verify. -/
/- Rows encoded; the orders of a state, its summaries and its root. -/
/- All orders; the summaries; the root of a state. -/
import Derived.Test.YtkgmgmkbgnkdnaaGreatDoorEz
import Derived.Test.YtkgmgmkbgnkdnaaGreatDoorTr2
import Derived.Test.YtkgmgmkbgnkdnaaGreatDoorEx25

namespace Go.Proofs.YtkgmgmkbgnkdnaaGreatDoor
open Go.Proofs.Tryz
open Go Go.RowKit Gw
set_option linter.unusedVariables false
set_option linter.unusedSimpArgs false
set_option maxRecDepth 100000
attribute [local irreducible] Gw.At Gw.Nx Gw.Ops
theorem bitLen_log : ∀ (f x : Nat), 0 < x → x < 2 ^ f → Lib.bitLenAux f x = Nat.log2 x + 1
  | 0, x, h0, h1 => by simp at h1; omega
  | f + 1, x, h0, h1 => by
    unfold Lib.bitLenAux
    rw [if_neg (by omega)]
    rw [Nat.pow_succ] at h1
    rcases Nat.lt_or_ge x 2 with h | h
    · have e : x = 1 := by omega
      subst e
      cases f <;> rfl
    · rw [bitLen_log f (x / 2) (by omega) (by omega)]
      conv => rhs; rw [Nat.log2_def, if_pos h]
      omega
theorem left_bits (n : Nat) (h1 : 2 ≤ n) (h2 : n ≤ 1000000000000) : Lib.bitLen (n - 1) = Nat.log2 (n - 1) + 1 := bitLen_log 64 (n - 1) (by omega) (by omega)
def proofT (l : List Bs) (i : Nat) : List Bs :=
  if h : 2 ≤ l.length then
    if i < leftN l.length then proofT (l.take (leftN l.length)) i ++ [rootT (l.drop (leftN l.length))]
    else proofT (l.drop (leftN l.length)) (i - leftN l.length) ++ [rootT (l.take (leftN l.length))]
  else []
termination_by l.length
decreasing_by
  · have := left_lt h; rw [List.length_take]; omega
  · have := left_pos l.length; rw [List.length_drop]; omega
theorem proof_one {l : List Bs} (h : l.length ≤ 1) (i : Nat) : proofT l i = [] := by rw [proofT, dif_neg (by omega)]
theorem proof_first {l : List Bs} {i : Nat} (h : 2 ≤ l.length) (hi : i < leftN l.length) : proofT l i = proofT (l.take (leftN l.length)) i ++ [rootT (l.drop (leftN l.length))] := by rw [proofT, dif_pos h, if_pos hi]
theorem proof_second {l : List Bs} {i : Nat} (h : 2 ≤ l.length) (hi : ¬ i < leftN l.length) : proofT l i = proofT (l.drop (leftN l.length)) (i - leftN l.length) ++ [rootT (l.take (leftN l.length))] := by rw [proofT, dif_pos h, if_neg hi]
theorem StrsU.take {M : List Chunk} {p : Option Addr} {cap : Nat} {ls : List Bs} (h : StrsU M (.slice p ls.length cap) ls) (n : Nat) (hn : n ≤ ls.length) : StrsU M (.slice p n cap) (ls.take n) := by
  obtain ⟨p', cap', e, hl, hg⟩ := h
  injection e with e1 e2 e3
  subst e1 e3
  have hlen : (ls.take n).length = n := by rw [List.length_take]; omega
  refine ⟨p, cap, by rw [hlen], by rw [hlen]; omega, fun i z hz => hg i z ?_⟩
  rw [List.getElem?_take] at hz
  split at hz
  · exact hz
  · cases hz
theorem StrsU.drop {M : List Chunk} {g0 off0 cap : Nat} {ls : List Bs} (h : StrsU M (.slice (some ⟨g0, off0, none⟩) ls.length cap) ls) (n : Nat) (hn : n < ls.length) : StrsU M (.slice (some ⟨g0, off0 + n, none⟩) (ls.length - n) (cap - n)) (ls.drop n) := by
  obtain ⟨p', cap', e, hl, hg⟩ := h
  injection e with e1 e2 e3
  subst e1 e3
  refine ⟨_, _, by rw [List.length_drop], by rw [List.length_drop]; omega, fun i z hz => ?_⟩
  rw [List.getElem?_drop] at hz
  obtain ⟨g2, off2, cur2, T2, zz2, e2, hm2, hc2⟩ := hg (n + i) z hz
  injection e2 with e2; injection e2 with e3 e4
  subst e3 e4
  exact ⟨g0, off0 + n, cur2, T2, zz2, rfl, hm2, by rw [Nat.add_assoc]; exact hc2⟩
theorem holds_enc {w : World} {g : Nat} {cur : Array Value} {e : TypeId} {z : Nat × Nat} (enc : Bs → Value) {zs : List Bs} (hb : w.heap[g]? = some (.cells cur e z)) (hle : zs.length ≤ cur.size) (hfr : Free z cur.size) (ht : cur.toList.take zs.length = zs.map enc) : Go.Sort.Holds enc w g 0 zs.toArray := by
  intro j hj
  have hj' : j < zs.length := by simpa using hj
  have hf := hfr j (by omega)
  have h1 : (cur.toList.take zs.length)[j]? = (zs.map enc)[j]? := by rw [ht]
  rw [List.getElem?_take_of_lt hj'] at h1
  refine ⟨?_, ?_⟩
  · simp only [World.cell?, hb, Nat.zero_add]
    simp only [Option.isSome_none, Bool.false_eq_true, if_false]
    rw [← Array.getElem?_toList, h1]
    simp [hj']
  · simp only [World.frozen?, hb, Nat.zero_add]
    simp; omega
theorem put_take_enc (enc : Bs → Value) (cur : Array Value) (ts : List Bs) (h : ts.length ≤ cur.size) : (Go.Sort.putCells enc 0 ts.toArray cur).toList.take ts.length = ts.map enc := by
  apply List.ext_getElem?
  intro j
  rw [List.getElem?_take]
  by_cases hj : j < ts.length
  · rw [if_pos hj, Array.getElem?_toList]
    unfold Go.Sort.putCells
    rw [Array.getElem?_mapIdx, Array.getElem?_eq_getElem (by omega)]
    simp [hj]
  · rw [if_neg hj, List.getElem?_eq_none (by simp; omega)]
theorem Sat.sorted_enc {u w : World} {g n : Nat} {cur : Array Value} {e : TypeId} {z : Nat × Nat} {R : Hp} (enc : Bs → Value) (d : Array Bs) (h : Sat u ([(g, .cells cur e z)] :: R) w) : Sat u ([(g, .cells (Go.Sort.putCells enc 0 d cur) e z)] :: R) (Go.Sort.putRow enc (Go.Sort.ahead w n) g 0 d) := by
  have hb := h.get (g, .cells cur e z) (by simp)
  refine h.upd (.here _) rfl rfl rfl ?_ fun k hk => ?_
  · simp [Go.Sort.putRow, Go.Sort.mapBlock, Go.Sort.ahead, Array.getElem?_modify, hb, Go.Sort.onCells]
  · have : g ≠ k := fun e => hk e.symm
    simp [Go.Sort.putRow, Go.Sort.mapBlock, Go.Sort.ahead, Array.getElem?_modify, this]
theorem reverse_spec {v : Value} {ls : List Bs} {s : List Chunk} (h : RowS 1 9 v ls.length (ls.map strV) s) (hn : ls.length ≤ 1000000000000) : Does Tryz.prog 103 #[v] [s] (fun r H' => r = .tuple #[] ∧ ∃ s', RowS 1 9 v ls.length (ls.reverse.map strV) s' ∧ H' = [s']) := by
  obtain ⟨hlen, ⟨rfl, h0, rfl⟩ | ⟨g, cap, cur, z, rfl, rfl, hle, hcm, hcs, htk, hfr⟩⟩ := h
  · intro u R w hs
    have e : ls = [] := List.eq_nil_of_length_eq_zero h0
    subst e
    exact (Tryz.slices_Reverse_string_empty none 0 w).mono (by
      rintro e w' ⟨rfl, rfl⟩
      exact .inl ⟨_, _, rfl, ⟨rfl, [], rowS_nil 1 _, rfl⟩, hs⟩)
  · intro u R w hs
    rw [Nat.mul_one] at hcs htk
    have hb := hs.get (g, .cells cur 9 z) (by simp)
    have hH := holds_enc (w := w) (g := g) (e := 9) (z := z) strV (zs := ls) hb (by omega) hfr htk
    refine (Tryz.slices_Reverse_string g 0 cap ls w hH (by omega)).mono ?_
    rintro e w' ⟨rfl, n, rfl⟩
    refine .inl ⟨_, _, rfl, ⟨rfl, _, ⟨by simp, .inr ⟨g, cap, _, z, rfl, rfl, hle, hcm, ?_, ?_, ?_⟩⟩, rfl⟩, Sat.sorted_enc (n := n) strV ls.reverse.toArray hs⟩
    · rw [Nat.mul_one]; simp [Go.Sort.putCells, hcs]
    · rw [Nat.mul_one]
      have := put_take_enc strV cur ls.reverse (by rw [List.length_reverse]; omega)
      rw [List.length_reverse] at this
      exact this
    · simpa [Go.Sort.putCells] using hfr

theorem left_spec (n : Nat) (h1 : 2 ≤ n) (h2 : n ≤ 1000000000000) : DoesR Tryz.prog 102 #[.int .i64 (n : Int)] [] (.int .i64 ((leftN n : Nat) : Int)) := by
 have hb := left_bits n h1 h2
 have hl := left_lt h1
 unfold leftN at hl
 have hl2 : (n - 1).log2 < 64 := (Nat.log2_lt (by omega)).2 (by omega)
 refine spec_enter func102 rfl ntmps102 rfl ?_
 intro u R
 refine Zb [0] ?_
 refine Zq <| Zg <| Za Y <| Z0 <| Zx <| Zq <| Zg <| Zm Y ?_
 (refine op_v (p_sub_nat (n := 1) Y Y ?_ ?_) ?_; (focus (first | omega | (rw [Nat.add_sub_cancel]; omega))); (focus (first | omega | (rw [Nat.add_sub_cancel]; omega))))
 (refine op_v (p_conv_nat_u64 underlying3 underlying162 Y ?_) ?_; (focus (first | omega | (rw [Nat.add_sub_cancel]; omega))))
 refine Xr [_] Y call93 Y rfl (spec_below (H := []) (Rl := fun v => v = .int .i64 ((Lib.bitLen (n - 1) : Nat) : Int)) (fun w _ => (Tryz.bits_Len ((n - 1 : Nat) : Int) w (by omega) (by omega)).mono (by rintro e w1 ⟨rfl, rfl⟩; exact ⟨_, rfl, by rw [Int.toNat_natCast], Below.refl _ _⟩)) (fun v h => ⟨h, rfl⟩)) ?_
 rw [hb]
 (refine op_v (p_sub_nat (n := 1) Y Y ?_ ?_) ?_; (focus (first | omega | (rw [Nat.add_sub_cancel]; omega))); (focus (first | omega | (rw [Nat.add_sub_cancel]; omega))))
 (refine op_v (p_shl_nat_i64 (m := 1) Y Y ?_ ?_) ?_; (focus (omega)); (focus (first | omega | (rw [Nat.add_sub_cancel]; omega))))
 refine Za Y <| Z0 <| Zx <| at_ret ?_
 refine nx_end1 rfl results102 Y (by exact ⟨by rw [Nat.add_sub_cancel, Nat.one_mul]; rfl, rfl⟩)

theorem proof_spec {M : List Chunk} {v : Value} {ls : List Bs} (hv : StrsU M v ls) (hn : ls.length ≤ 1000000) (hs : ∀ s ∈ ls, s.length ≤ 140737488354000) (i : Nat) (hi : i < ls.length) (Tg : TypeId) (zg : Nat × Nat) :
    Does Tryz.prog 60 #[v, .int .i64 (i : Int)] [[(1, .cells (kTab.map u32v).toArray Tg zg)], M] (fun r H' => ∃ vp sp, r = .tuple #[vp, .int .i64 0] ∧ RowS 1 9 vp (proofT ls i).length ((proofT ls i).map strV) sp ∧ H' = [sp, [(1, .cells (kTab.map u32v).toArray Tg zg)], M]) := by
 have hml : maxLen = 9223372036854775807 := rfl
 obtain ⟨p, cap, rfl, hl, hg⟩ := id hv
 refine spec_enter func60 rfl ntmps60 rfl ?_
 intro u R
 refine Zb [0, 1] ?_
 refine Zq <| Zg <| Za Y <| Za Y <| Z0 <| Zx <| at_scope ?_
 refine Zq <| Zq <| Zg <| Zm Y <| Zv (p_lss_nat (n := 0) Y Y) <| Zm Y ?_
 refine ops_split (t := 12) Y rfl (fun h1 => ?_) (fun h1 => ?_)
 ·
  exfalso; omega
 refine Zf Y Y <| Zf Y Y <| Yg (p_len_slice underlying61 Y) <| Yg (p_geq_nat Y Y) <| Zv (p_pick_f Y Y) <| Z0 <| Zx ?_
 refine at_if Y (fun h2 => ?_) (fun h2 => ?_)
 ·
  exfalso; omega
 refine at_skip <| Zx <| Zq <| Zg <| Za Y <| Z0 <| Zx <| Zq <| at_label <| Zx <| Zq <| at_block <| at_nil ?_
 refine Zb [0, 1, 6] ?_
 refine at_loopB (e0 := [(0, _), (1, _), (6, _)]) (H0 := _) (n := _) (fun m e H => ∃ (l2 : List Bs) (i2 : Nat) (p2 : Option Addr) (cap2 : Nat) (o : List Bs) (vo : Value) (so : List Chunk), m = 0 + l2.length ∧ (StrsU M (.slice p2 l2.length cap2) l2 ∧ i2 < l2.length ∧ (∀ s ∈ l2, s.length ≤ 140737488354000) ∧ proofT ls i = proofT l2 i2 ++ o.reverse ∧ RowS 1 9 vo o.length (o.map strV) so ∧ o.length + l2.length ≤ ls.length) ∧ e = [(0, .slice p2 l2.length cap2), (1, .int .i64 (i2 : Int)), (6, vo)] ∧ H = [so]) (by exact ⟨ls, i, p, cap, [], .slice none 0 0, [], rfl, ⟨hv, hi, hs, by simp, rowS_nil 1 _, by simp⟩, rfl, rfl⟩) Wp ?_
 rintro _ _ _ ⟨l2, i2, p2, cap2, o, vo, so, rfl, ⟨hv2, hi2, hs2, hpr, hro, hol⟩, rfl, rfl⟩
 obtain ⟨qo, co, rfl⟩ := hro.form
 refine at_block <| Zq <| Zq <| Zg <| Zm Y <| Zv (p_len_slice underlying61 Y) <| Zv (p_eql_nat (n := 1) Y Y) <| Z0 <| Zx ?_
 refine at_if Y (fun h1 => ?_) (fun h1 => ?_)
 ·
  rw [proof_one (l := l2) (by omega), List.nil_append] at hpr
  refine at_exit <| Zt <| nx_block_other rfl <| Zt <| nx_block_exit <| Zx <| Zq <| Zg <| Zm Y <| Zc [_] Y call103 Y rfl (reverse_spec hro (by omega)) ?_
  rintro _ _ ⟨_, ⟨rfl, so2, hro2, rfl⟩, rfl⟩
  refine Z0 <| Zx <| Zq <| Zg <| Zm Y <| Za Y <| Za Y <| Z0 <| Zx <| at_ret <| nx_scope_ret ?_
  refine nx_end2 rfl results60 Y Y (by exact ⟨_, so2, rfl, rowS_eq hro2 (by rw [hpr, List.length_reverse]) (by rw [hpr]), rfl⟩)
 have h9 : 2 ≤ l2.length := by omega
 have hk1 := left_lt h9
 have hk2 := left_pos l2.length
 have hlt2 : (l2.take (leftN l2.length)).length = leftN l2.length := by rw [List.length_take]; omega
 obtain ⟨p8, cap8, e8, hl8, hg8⟩ := id hv2
 injection e8 with e81 e82 e83
 subst e81 e83
 obtain ⟨g8, off8, cur8, T8, zz8, rfl, hm8, hc8⟩ := hg8 0 _ (List.getElem?_eq_getElem (by omega))
 have hvt := hv2.take (leftN l2.length) (by omega)
 have hvd := hv2.drop (leftN l2.length) hk1
 refine at_skip <| Zx <| Zq <| Zg <| Zm Y <| Zv (p_len_slice underlying61 Y) <| Xr [_] Y call102 Y rfl (left_spec l2.length h9 (by omega)) ?_
 refine Za Y <| Z0 <| Zx <| Zq <| at_draw (n := 8) (0 :: 0 :: 3 :: 0 :: 0 :: 24 :: 7 :: 127 :: []) 0 (by kernel_rfl) (by kernel_rfl) rfl ?_
 refine Zi 1 0 rfl (p_move Y) <| Zi 3 1 rfl (p_move Y) ?_
 (refine lin_v (D' := 7) 2 (p_slice_slice_to underlying61 sizeOf9 Y Y ?_) ?_; (focus (first | omega | (simp; omega))))
 refine Zi 15 3 rfl (p_move Y) <| Zi 31 4 rfl (p_move Y) ?_
 (refine lin_v (D' := 63) 5 (p_slice_slice_from1 underlying61 sizeOf9 Y Y ?_ ?_) ?_; (focus (first | omega | (simp; omega))); (focus (first | omega | (simp; omega))))
 refine Zi 127 6 rfl (p_assign Y) <| Zi 255 7 rfl (p_assign Y) <| lin_nil ?_
 refine Zn [1, 6, 7, 8, 9] ?_
 refine Zx <| Zq <| Zq <| Zg <| Zm Y <| Zm Y <| Zv (p_geq_nat Y Y) <| Z0 <| Zx ?_
 refine at_if Y (fun hge => ?_) (fun hge => ?_)
 ·
  have hge : ¬ i2 < leftN l2.length := by omega
  refine Zg <| Zm Y <| Zm Y <| Zm Y <| Zm Y <| Yb Y Y <| Za Y <| Za Y <| Za Y <| Z0 <| Zx <| Zq <| Zg <| Zm Y <| Zm Y <| Xr [_] Y call101 Y rfl (root_spec hvt (by rw [hlt2]; omega) (fun s h => hs2 s (List.mem_of_mem_take h)) Tg zg) ?_
  refine Ze (w_buildSlice (vs := [_]) (cs := [_]) underlying61 sizeOf9 zeroValue9 Y rfl rfl rfl rfl rfl) ?_
  rintro _ _ ⟨b1, rfl, rfl⟩
  refine Ze (w_appendS (by_ := 16) (sz := 1) (news := [_]) underlying61 (rfl : Tryz.prog.info? 9 = some Tryz.t9) rfl rfl rfl rfl Y hro Y Wo Wh (by rfl) rfl (by simp [Value.oneCell']) (by decide) (by omega) (by omega)) ?_
  rintro _ _ ⟨sw, hrw, rfl⟩
  obtain ⟨gw, cw, rfl⟩ := hrw.form
  refine Za Y <| Z0 <| Zn [1, 6, 8] ?_
  refine Zx <| Zg <| Zm Y <| Za Y <| Z0 <| nx_block_normal <| Zn [0, 1, 6] ?_
  refine nx_againB (e' := [(0, _), (1, _), (6, _)]) (m := _) (H' := _) (by exact ⟨l2.drop (leftN l2.length), i2 - leftN l2.length, _, _, o ++ [rootT (l2.take (leftN l2.length))], _, _, (by rw [List.length_drop]), ⟨(by rw [List.length_drop]; exact hvd), by rw [List.length_drop]; omega, fun s h => hs2 s (List.mem_of_mem_drop h), by rw [hpr, proof_second h9 hge, List.reverse_append, List.append_assoc]; rfl, rowS_eq hrw (by simp) (by simp; rfl), by rw [List.length_append, List.length_drop]; simp; omega⟩, (by rw [List.length_drop]), rfl⟩)
 refine at_skip <| Zx <| Zq <| Zg <| Zm Y <| Zm Y <| Xr [_] Y call101 Y rfl (root_spec hvd (by rw [List.length_drop]; omega) (fun s h => hs2 s (List.mem_of_mem_drop h)) Tg zg) ?_
 refine Ze (w_buildSlice (vs := [_]) (cs := [_]) underlying61 sizeOf9 zeroValue9 Y rfl rfl rfl rfl rfl) ?_
 rintro _ _ ⟨b3, rfl, rfl⟩
 refine Ze (w_appendS (by_ := 16) (sz := 1) (news := [_]) underlying61 (rfl : Tryz.prog.info? 9 = some Tryz.t9) rfl rfl rfl rfl Y hro Y Wo Wh (by rfl) rfl (by simp [Value.oneCell']) (by decide) (by omega) (by omega)) ?_
 rintro _ _ ⟨sw, hrw, rfl⟩
 obtain ⟨gw, cw, rfl⟩ := hrw.form
 refine Za Y <| Z0 <| Zx <| Zg <| Zm Y <| Za Y <| Z0 <| nx_block_normal <| Zn [0, 1, 6] ?_
 refine nx_againB (e' := [(0, _), (1, _), (6, _)]) (m := _) (H' := _) (by exact ⟨l2.take (leftN l2.length), i2, _, _, o ++ [rootT (l2.drop (leftN l2.length))], _, _, (by rw [hlt2]), ⟨(by rw [hlt2]; exact hvt), by rw [hlt2]; omega, fun s h => hs2 s (List.mem_of_mem_take h), by rw [hpr, proof_first h9 (by omega), List.reverse_append, List.append_assoc]; rfl, rowS_eq hrw (by simp) (by simp; rfl), by rw [List.length_append, hlt2]; simp; omega⟩, (by rw [hlt2]), rfl⟩)

end Go.Proofs.YtkgmgmkbgnkdnaaGreatDoor


namespace Go.Proofs.YtkgmgmkbgnkdnaaGreatDoor
open Go.Proofs.Tryz
open Go Go.RowKit Gw
set_option linter.unusedVariables false
set_option linter.unusedSimpArgs false
set_option maxRecDepth 100000
attribute [local irreducible] Gw.At Gw.Nx Gw.Ops
def oddS (s : Bs) : Bool := !decide (s.length = 32)
def valR (s : Bs) : Nat → Nat → List Bs → Option Bs
  | n, _, [] => if n ≤ 1 then some (leafS s) else none
  | n, i, x :: rp => if n ≤ 1 then none else if i < leftN n then (valR s (leftN n) i rp).map (fun v => nodeS v x) else (valR s (n - leftN n) (i - leftN n) rp).map (fun v => nodeS x v)
def verT (root : Bs) (n i : Nat) (s : Bs) (pf : List Bs) : Bool := !(pf.any oddS) && decide (valR s n i pf.reverse = some root)
end Go.Proofs.YtkgmgmkbgnkdnaaGreatDoor


namespace Go.Proofs.YtkgmgmkbgnkdnaaGreatDoor
open Go.Proofs.Tryz
open Go Go.RowKit Gw
set_option linter.unusedVariables false
set_option linter.unusedSimpArgs false
set_option maxRecDepth 100000
attribute [local irreducible] Gw.At Gw.Nx Gw.Ops
def encRow (r : RowM) : Bs := putAll [r.t, r.k] ++ putAll [r.v.a, r.v.b, r.v.c]
theorem row_num {r : RowM} (h : r.ok) : (∀ n ∈ [r.t, r.k], -4611686018427387903 ≤ n ∧ n ≤ 4611686018427387903) ∧ (∀ n ∈ [r.v.a, r.v.b, r.v.c], -4611686018427387903 ≤ n ∧ n ≤ 4611686018427387903) := by
  obtain ⟨⟨h1, h2, h3⟩, h4, h5⟩ := h
  unfold inV at h1 h2 h3
  constructor
  · intro n hn
    simp only [List.mem_cons, List.not_mem_nil, or_false] at hn
    rcases hn with rfl | rfl <;> omega
  · intro n hn
    simp only [List.mem_cons, List.not_mem_nil, or_false] at hn
    rcases hn with rfl | rfl | rfl <;> omega
theorem encRow_len {r : RowM} (h : r.ok) : (encRow r).length ≤ 45 := by
  have h1 := putAll_len _ (row_num h).1
  have h2 := putAll_len _ (row_num h).2
  unfold encRow
  rw [List.length_append]
  simp only [List.length_cons, List.length_nil] at h1 h2
  omega
theorem ints_two (a b : Int) : IntsAt #[.int .i64 a, .int .i64 b] 0 [a, b] := by
  intro i n h
  rcases i with _ | _ | i
  · simp at h; subst h; rfl
  · simp at h; subst h; rfl
  · simp at h
theorem ints_v3 (r : RowM) : IntsAt #[.int .i64 r.t, .int .i64 r.k, .int .i64 r.v.a, .int .i64 r.v.b, .int .i64 r.v.c] 2 [r.v.a, r.v.b, r.v.c] := by
  intro i n h
  rcases i with _ | _ | _ | i
  · simp at h; subst h; rfl
  · simp at h; subst h; rfl
  · simp at h; subst h; rfl
  · simp at h

theorem rw_encode (r : RowM) (hr : r.ok) : DoesR Tryz.prog 98 #[.agg #[.int .i64 r.t, .int .i64 r.k, .int .i64 r.v.a, .int .i64 r.v.b, .int .i64 r.v.c]] [] (.tuple #[.string (str (encRow r)), .int .i64 0]) := by
 have hn := row_num hr
 have hl1 := putAll_len _ hn.1
 have hl2 := putAll_len _ hn.2
 simp only [List.length_cons, List.length_nil] at hl1 hl2
 refine spec_enter func98 rfl ntmps98 rfl ?_
 intro u R
 refine Zb [0] ?_
 refine Zq <| Zg <| Ze (w_box Y (cs := #[_, _, _, _, _]) rfl) ?_
 rintro _ _ ⟨xb, rfl, rfl⟩
 refine Za Y <| Za Y <| Z0 <| Zx <| Zq <| Zq <| Zg <| Zo Wh (p_load_agg (cs := #[_, _, _, _, _]) isAgg67 sizeOf67 Y Wn (by rfl)) ?_
 refine Xr [_] Y call112 Y rfl (rw_valid r) ?_
 rw [decide_eq_true hr]
 refine Zv (p_not Y) <| Z0 <| Zx ?_
 refine at_if_bool Y (fun hv => ?_) (fun hv => ?_)
 ·
  cases hv
 refine at_skip <| Zx <| Zq <| at_draw (n := 12) (0 :: 1 :: 0 :: 4 :: 15 :: 31 :: 0 :: 64 :: 255 :: 511 :: 1023 :: 2047 :: []) 304 (by kernel_rfl) (by kernel_rfl) rfl ?_
 refine Zi 1 0 rfl (p_fieldAddr0 (off := 0) underlying67 rfl rfl sizeOf3 Y) <| Zj 3 1 rfl isAgg3 Y ?_
 refine Zi 7 2 rfl (p_fieldAddr0 (off := 1) underlying67 rfl rfl sizeOf3 Y) <| Zj 15 3 rfl isAgg3 Y ?_
 refine Zi 79 6 rfl (p_fieldAddr0 (off := 2) underlying67 rfl rfl sizeOf53 Y) <| Zi 207 7 rfl (p_slice_arr_all underlying53 sizeOf3 Y) <| Zz (l := [4]) ?_
 refine Zy 15 223 [3, 1] [false, false] [] rfl Y rfl rfl rfl rfl (w_buildSlice (vs := [_, _]) (cs := [_, _]) underlying28 sizeOf3 zeroValue3 Y rfl rfl rfl rfl rfl) ?hk_1 (fun _ _ h => h.elim) ?hl_1
 case hk_1 =>
  rintro _ _ ⟨gb, rfl, rfl⟩
  refine ⟨keep_nil, ?_⟩
  refine Yz 5 31 255 [] [] [] rfl Y rfl rfl rfl rfl (Zu [_] Y call133 Y rfl (rw_put gb 0 2 _ _ _ [r.t, r.k] (ints_two r.t r.k) (by simp) hn.1)) ?_
  rintro _ _ ⟨rfl, rfl⟩
  refine ⟨keep_nil, ?_⟩
  refine Yz 8 255 511 [] [] [] rfl Y rfl rfl rfl rfl (Zu [_] Y call133 Y rfl (rw_put xb 2 3 _ _ _ [r.v.a, r.v.b, r.v.c] (ints_v3 r) (by simp) hn.2)) ?_
  rintro _ _ ⟨rfl, rfl⟩
  refine ⟨keep_nil, ?_⟩
  (refine lin_v (D' := 1023) 9 (p_add_str Y Y ?_) ?_; (focus (rw [str_size, str_size]; omega)))
  refine Zi 2047 10 rfl (p_assign Y) <| Zi 4095 11 rfl (p_assign Y) <| lin_nil ?_
  refine Zn [2, 3] ?_
  refine Zx <| at_ret ?_
  refine nx_end2 rfl results98 Y Y (by exact ⟨by rw [str_app]; rfl, rfl⟩)
 exact each_nil

def ordL (rs : List RowM) (t : Int) (c : Nat) : List RowM := rangeL rs t c (-1000000000) 1000000000
theorem ordL_len {rs : List RowM} (hs : SortedR rs) (t : Int) (c : Nat) : (ordL rs t c).length ≤ rs.length := by
  unfold ordL
  rw [(rangeL_perm rs t c _ _).length_eq]
  exact List.length_filter_le _ _
theorem range_mem {rs : List RowM} {t : Int} {c : Nat} {lo hi : Int} {r : RowM} (h : r ∈ rangeL rs t c lo hi) : r ∈ rs := (List.mem_filter.1 ((rangeL_perm rs t c lo hi).mem_iff.1 h)).1
def encL (l : List RowM) : List Bs := l.map encRow
theorem encL_len (l : List RowM) : (encL l).length = l.length := List.length_map ..
theorem enc_snoc {l : List RowM} {i : Nat} {x : RowM} (h : l[i]? = some x) : (encL (l.take (i + 1))).map strV = (encL (l.take i)).map strV ++ [.string (str (encRow x))] := by
  rw [take_snoc h]; unfold encL; rw [List.map_append, List.map_append]; rfl
def OrdIs (l : List RowM) (vr ve : Value) (sr se : List Chunk) : Prop := RowS 5 67 vr (l).length (rowCells (l)) sr ∧ RowS 1 9 ve l.length ((encL l).map strV) se

theorem order_spec (v : Value) (p : Int) (rs : List RowM) (s : List Chunk) (hv : StIs v p rs s) (hs : SortedR rs) (hn : rs.length ≤ 2000) (hok : ∀ r ∈ rs, r.ok) (t : Int) (c : Nat) (hc : c ≤ 3) :
    Does Tryz.prog 52 #[v, .int .i64 t, .int .i64 (c : Int)] [s] (fun r H' => ∃ vr ve sr se, r = .agg #[vr, ve] ∧ OrdIs (ordL rs t c) vr ve sr se ∧ H' = [sr, se, s]) := by
 have hml : maxLen = 9223372036854775807 := rfl
 have hll := ordL_len hs t c
 refine spec_enter func52 rfl ntmps52 rfl ?_
 intro u R
 refine Zb [0, 1, 2] ?_
 refine Zq <| Zg <| Ze (w_alloc zeroValue130 (cs := #[_, _]) rfl) ?_
 rintro _ _ ⟨qb, rfl, rfl⟩
 refine Z0 <| Zx <| Zq <| Zg <| Zm Y <| Zm Y <| Zm Y <| Zc [_, _, _, _, _] Y call28 Y rfl (st_range v p rs s hv t c (-1000000000) 1000000000 hc) ?_
 rintro _ _ ⟨_, ⟨sr, hrr, rfl⟩, rfl⟩
 change RowS 5 67 _ (ordL rs t c).length (rowCells (ordL rs t c)) sr at hrr
 obtain ⟨qr, cr, rfl⟩ := hrr.form
 have hRU := rowsU_row hrr (by omega)
 obtain ⟨p9, cap9, e9, hol, hg⟩ := id hRU
 injection e9 with e91 e92 e93
 subst e91 e93
 refine Zv (p_build (vs := [(0, _)]) (cs := #[_, _]) Y (run_build_struct (pl := #[(0, 1), (1, 1)]) zeroValue130 underlying130 (fun _ => by kernel_rfl) rfl)) ?_
 refine Ze (w_alloc zeroValue130 (cs := #[_, _]) rfl) ?_
 rintro _ _ ⟨ob, rfl, rfl⟩
 refine Xe (w_store_agg sizeOf130 Y Y (by (simp [Value.oneCell', Value.cells]; done)) Wu (by exact (rfl : _ = (#[.slice qr (ordL rs t c).length cr, .slice none 0 0] : Array Value))) (by first | rfl | (simp; done)) Wb (by exact free_zero _)) ?_
 refine Z0 <| Zx <| Zq <| Zq <| Zg <| Zh 0 underlying130 rfl rfl sizeOf38 Y <| Zl isAgg38 Y ?_
 refine Zv (p_len_slice underlying38 Y) <| Zm Y <| Z0 <| Zx <| at_block <| at_nil ?_
 refine Zb [20, 6, 7, 18, 19] ?_
 refine at_loopB (e0 := [(20, _)]) (H0 := _) (n := _) (fun m e H => ∃ (i : Nat) (ve : Value) (se : List Chunk), m = (ordL rs t c).length - i ∧ (i ≤ (ordL rs t c).length ∧ RowS 1 9 ve i ((encL ((ordL rs t c).take i)).map strV) se) ∧ e = [(20, .int .i64 (i : Int))] ∧ H = [[(ob, .cells #[.slice qr (ordL rs t c).length cr, ve] 130 (0, 0))], se]) (by exact ⟨0, .slice none 0 0, [], rfl, ⟨Nat.zero_le _, rowS_nil 1 _⟩, rfl, rfl⟩) Wp ?_
 rintro _ _ _ ⟨i, ve, se, rfl, ⟨hi, hre⟩, rfl, rfl⟩
 obtain ⟨qe, ce, rfl⟩ := hre.form
 refine Zq <| Zg <| Zv (p_lss_nat Y Y) <| Z0 <| Zx <| Zq ?_
 refine at_if Y (fun hlt => ?_) (fun hlt => ?_)
 ·
  obtain ⟨x, hx⟩ : ∃ x, (ordL rs t c)[i]? = some x := ⟨_, List.getElem?_eq_getElem hlt⟩
  obtain ⟨g, off, cur, T, zz, rfl, hm9, hsz9, hex9⟩ := hg i x hx
  have hxo := hok x (range_mem (List.mem_of_getElem? hx))
  refine at_skip <| Zx <| Zq <| at_block <| Zq <| Zg ?_
  (refine op_v (p_indexAddr_nat underlying38 sizeOf67 Y Y ?_) ?_; (focus (first | omega | decide | (simp; done))))
  refine op_rm (cs := [(g, .cells cur T zz)]) (by simp [hm9]) (p_load_agg (cs := #[.int .i64 x.t, .int .i64 x.k, .int .i64 x.v.a, .int .i64 x.v.b, .int .i64 x.v.c]) isAgg67 sizeOf67 Y (by omega) hex9) rfl rfl ?_
  refine Ze (w_alloc zeroValue67 (cs := #[_, _, _, _, _]) rfl) ?_
  rintro _ _ ⟨xb, rfl, rfl⟩
  refine Xe (w_store_agg sizeOf67 Y Y (by (simp [Value.oneCell']; done)) Wu (by exact (rfl : _ = (#[.int .i64 x.t, .int .i64 x.k, .int .i64 x.v.a, .int .i64 x.v.b, .int .i64 x.v.c] : Array Value))) (by first | rfl | (simp; done)) Wb (by exact free_zero _)) ?_
  refine Z0 <| Zx <| Zq <| Zg <| Zo Wh (p_load_agg (cs := #[_, _, _, _, _]) isAgg67 sizeOf67 Y Wn (by rfl)) ?_
  refine Xr [_] Y call98 Y rfl (rw_encode x hxo) ?_
  refine Zm Y <| Zd Y rfl <| Zd Y rfl <| Za Y <| Za Y <| Z0 <| Zx <| Zg <| Zh 1 underlying130 rfl rfl sizeOf61 Y <| Zl isAgg61 Y ?_
  refine Zm Y <| Ze (w_buildSlice (vs := [_]) (cs := [_]) underlying61 sizeOf9 zeroValue9 Y rfl rfl rfl rfl rfl) ?_
  rintro _ _ ⟨b4, rfl, rfl⟩
  refine Ze (w_appendS (by_ := 16) (sz := 1) (news := [_]) underlying61 (rfl : Tryz.prog.info? 9 = some Tryz.t9) rfl rfl rfl rfl Y hre Y Wo Wh (by rfl) rfl (by simp [Value.oneCell']) (by decide) (by omega) (by omega)) ?_
  rintro _ _ ⟨sw5, hrw5, rfl⟩
  obtain ⟨gw5, cw5, rfl⟩ := hrw5.form
  refine Zh 1 underlying130 rfl rfl sizeOf61 Y <| Xe (Zs sizeOf61 Y Y rfl (hc := by exact (rfl : _ = (#[.slice _ (ordL rs t c).length cr, _] : Array Value))) (hi := by first | omega | decide | (simp; done))) ?_
  refine Z0 <| Zn [6, 7, 18, 19, 20] ?_
  refine nx_block_normal <| Zx <| Zg <| Ya (n := 1) Y Y <| Zm Y <| Z0 <| Zn [20, 6, 7, 18, 19] ?_
  refine nx_againB (e' := [(20, _)]) (m := _) (H' := _) (by exact ⟨i + 1, _, _, rfl, ⟨by omega, rowS_eq hrw5 rfl (by rw [enc_snoc hx])⟩, rfl, rfl⟩)
 have ei : i = (ordL rs t c).length := by omega
 subst ei
 rw [List.take_length] at hre
 refine at_exit <| Zt <| Zt <| nx_block_exit <| Zx <| Zq <| Zg <| Zo Wh (p_load_agg (cs := #[_, _]) isAgg130 sizeOf130 Y Wb (by rfl)) ?_
 refine Xe (w_store_agg sizeOf130 Y Y (by (simp [Value.oneCell', Value.cells]; done)) Wu (by exact (rfl : _ = (#[.slice qr (ordL rs t c).length cr, .slice qe _ ce] : Array Value))) (by first | rfl | (simp; done)) Wb (by exact free_zero _)) ?_
 refine Z0 <| Zx <| at_ret ?_
 refine nx_endc1 rfl results52 Y Wh (loadVar_agg isAgg130 sizeOf130 Wn (rfl)) (by exact ⟨.slice qr _ cr, .slice qe _ ce, sr, se, rfl, ⟨hrr, hre⟩, rfl⟩)

theorem order_specJ (v : Value) (p : Int) (rs : List RowM) (s : List Chunk) (hv : StIs v p rs s) (hs : SortedR rs) (hn : rs.length ≤ 2000) (hok : ∀ r ∈ rs, r.ok) (t : Int) (c : Nat) (hc : c ≤ 3) :
    Does Tryz.prog 52 #[v, .int .i64 t, .int .i64 (c : Int)] [s] (fun r H' => ∃ vr ve sr se, r = .agg #[vr, ve] ∧ OrdIs (ordL rs t c) vr ve sr se ∧ H' = [sr ++ se, s]) := by
  refine does_re (order_spec v p rs s hv hs hn hok t c hc) rfl ?_
  rintro r H' ⟨vr, ve, sr, se, rfl, h, rfl⟩
  exact ⟨_, ⟨vr, ve, sr, se, rfl, h, rfl⟩, by simp⟩
def tcs : List (Nat × Nat) := (List.range 4).flatMap fun t => (List.range 4).map fun c => (t, c)
theorem tc_at : ∀ t, t < 4 → ∀ c, c < 4 → tcs[4 * t + c]? = some (t, c) := by decide
def summ (rs : List RowM) (x : Nat × Nat) : Bs := encI ((ordL rs (x.1 : Int) x.2).length : Int) ++ rootT (encL (ordL rs (x.1 : Int) x.2))
def sumL (rs : List RowM) : List Bs := tcs.map (summ rs)
def EncO (rs : List RowM) (x : Nat × Nat) (vs : Array Value) (sx : List Chunk) : Prop := ∃ vr ve sr se, vs = #[.agg #[vr, ve]] ∧ OrdIs (ordL rs (x.1 : Int) x.2) vr ve sr se ∧ sx = sr ++ se
theorem encL_ok {l : List RowM} (h : ∀ r ∈ l, r.ok) : ∀ s ∈ encL l, s.length ≤ 45 := by
  intro s hs
  obtain ⟨r, hr, rfl⟩ := List.mem_map.1 hs
  exact encRow_len (h r hr)
end Go.Proofs.YtkgmgmkbgnkdnaaGreatDoor

namespace Go.Proofs.YtkgmgmkbgnkdnaaGreatDoor
open Go.Proofs.Tryz
open Go Go.RowKit Gw
set_option linter.unusedVariables false
set_option linter.unusedSimpArgs false
set_option maxRecDepth 100000
attribute [local irreducible] Gw.At Gw.Nx Gw.Ops
theorem orders_spec (q : Option Addr) : Does Tryz.prog 99 #[.pointer q] [] (fun r H' => ∃ b, r = .func (.func 134) #[] #[.pointer (some ⟨b, 0, none⟩)] ∧ H' = [[(b, .cells #[.pointer q] 31 (0, 0))]]) := by
 refine spec_enter func99 rfl ntmps99 rfl ?_
 intro u R
 refine Zb [0] ?_
 refine Zq <| Zg <| Ze (w_box Y (cs := #[_]) rfl) ?_
 rintro _ _ ⟨b, rfl, rfl⟩
 refine Za Y <| Z0 <| Zx <| Zq <| Zg <| Zv (p_makeFunc (vs := []) (us := [_]) Y Y) ?_
 refine Za Y <| Z0 <| Zx <| at_ret ?_
 refine nx_end1 rfl results99 Y (by exact ⟨_, rfl, rfl⟩)

theorem orders_iter (v : Value) (p : Int) (rs : List RowM) (s : List Chunk) (hv : StIs v p rs s) (hs : SortedR rs) (hn : rs.length ≤ 2000) (hok : ∀ r ∈ rs, r.ok) (b : Nat) :
    IterSpecE Tryz.prog 134 #[.pointer (some ⟨b, 0, none⟩)] [[(b, .cells #[v] 31 (0, 0))]] [s] (EncO rs) tcs := by
 have hml : maxLen = 9223372036854775807 := rfl
 intro l J hy s0 hJ
 refine spec_enter func134 rfl ntmps134 rfl ?_
 intro u R
 refine Zb [0, 1] ?_
 refine Zq <| Zg <| Zm Y <| Z0 <| Zx <| at_block <| Zb [5, 0, 1] ?_
 refine at_loopB (e0 := [(5, _)]) (H0 := _) (n := _) (fun m e H => ∃ (t : Nat) (s2 : List Chunk), m = 4 - t ∧ (t ≤ 4 ∧ J (tcs.take (4 * t)) s2) ∧ e = [(5, .int .i64 (t : Int))] ∧ H = [s2]) (by exact ⟨0, s0, rfl, ⟨by omega, hJ⟩, rfl, rfl⟩) Wp ?_
 rintro _ _ _ ⟨t, s2, rfl, ⟨ht, hJ2⟩, rfl, rfl⟩
 refine Zq <| Zg <| Zv (p_lss_nat (n := 4) Y Y) <| Z0 <| Zx <| Zq ?_
 refine at_if Y (fun ht4 => ?_) (fun ht4 => ?_)
 ·
  refine at_skip <| Zx <| Zq <| at_block <| Zq <| Zg <| Zm Y <| Za Y <| Z0 <| Zx <| Zq <| Zg <| Zm Y <| Z0 <| Zx <| at_block <| Zb [8, 0, 1, 3, 5] ?_
  refine at_loopB (e0 := [(8, _)]) (H0 := _) (n := _) (fun m e H => ∃ (c : Nat) (s3 : List Chunk), m = 4 - c ∧ (c ≤ 4 ∧ J (tcs.take (4 * t + c)) s3) ∧ e = [(8, .int .i64 (c : Int))] ∧ H = [s3]) (by exact ⟨0, s2, rfl, ⟨by omega, hJ2⟩, rfl, rfl⟩) Wp ?_
  rintro _ _ _ ⟨c, s3, rfl, ⟨hc, hJ3⟩, rfl, rfl⟩
  refine Zq <| Zg <| Zv (p_lss_nat (n := 4) Y Y) <| Z0 <| Zx <| Zq ?_
  refine at_if Y (fun hc4 => ?_) (fun hc4 => ?_)
  ·
   have hx := tc_at t ht4 c hc4
   refine at_skip <| Zx <| Zq <| at_block <| Zq <| Zg <| Zm Y <| Za Y <| Z0 <| Zx <| Zq <| Zg <| Zm Y <| Zl isAgg31 Y ?_
   refine Zm Y <| Zm Y <| Zc [_, _, _] Y call52 Y rfl (order_specJ v p rs s hv hs hn hok (t : Int) c (by omega)) ?_
   rintro _ _ ⟨_, ⟨vr, ve, sr, se, rfl, hO, rfl⟩, rfl⟩
   have hyk := hy _ _ _ s3 #[.agg #[vr, ve]] (sr ++ se) (split_at hx) hJ3 ⟨vr, ve, sr, se, rfl, hO, rfl⟩
   refine Ze (w_yield (vs := [_]) Y Y (hyk) Wp) ?_
   rintro _ _ ⟨_, ⟨s4, rfl, rfl, hJ4⟩, rfl⟩
   refine Zv (p_not Y) <| Z0 <| Zx ?_
   refine at_if_bool Y (fun hb => ?_) (fun hb => ?_)
   ·
    cases hb
   refine at_skip <| nx_block_normal <| Zx <| Zg <| Ya (n := 1) Y Y <| Zm Y <| Z0 <| Zn [8, 0, 1, 3, 5] ?_
   refine nx_againB (e' := [(8, _)]) (m := _) (H' := _) (by exact ⟨c + 1, s4, rfl, ⟨by omega, by rw [← Nat.add_assoc, take_snoc hx]; exact hJ4⟩, rfl, rfl⟩)
  refine at_exit <| Zt <| Zt <| nx_block_exit <| nx_block_normal <| Zx <| Zg <| Ya (n := 1) Y Y <| Zm Y <| Z0 <| Zn [5, 0, 1] ?_
  refine nx_againB (e' := [(5, _)]) (m := _) (H' := _) (by exact ⟨t + 1, s3, rfl, ⟨by omega, by rw [Nat.mul_add, Nat.mul_one]; have e4 : c = 4 := (by omega); subst e4; exact hJ3⟩, rfl, rfl⟩)
 have e4 : t = 4 := by omega
 subst e4
 refine at_exit <| Zt <| Zt <| nx_block_exit ?_
 refine nx_end0 rfl results134 (by exact ⟨s2, rfl, hJ2⟩)

theorem summ_spec (v : Value) (p : Int) (rs : List RowM) (s : List Chunk) (hv : StIs v p rs s) (hs : SortedR rs) (hn : rs.length ≤ 2000) (hok : ∀ r ∈ rs, r.ok) (Tg : TypeId) (zg : Nat × Nat) :
    Does Tryz.prog 59 #[v] [[(1, .cells (kTab.map u32v).toArray Tg zg)], s] (fun r H' => ∃ so, RowS 1 9 r 16 ((sumL rs).map strV) so ∧ H' = [so, [(1, .cells (kTab.map u32v).toArray Tg zg)], s]) := by
 have hml : maxLen = 9223372036854775807 := rfl
 obtain ⟨sp9, mb9, es9, ck9, lm9, rfl, hst9⟩ := id hv
 refine spec_enterM func59 rfl ntmps59 rfl ?_
 intro u R
 refine Zb [0] ?_
 refine Zq <| Zg <| Za Y <| Z0 <| Zx <| Zq <| Zg <| Ze (w_alloc zeroValue61 (cs := #[_]) rfl) ?_
 rintro _ _ ⟨ob, rfl, rfl⟩
 refine Z0 <| Zx <| Zq <| Zq <| Zg <| Zm Y <| Zc [_] Y call99 Y rfl (orders_spec _) ?_
 rintro _ _ ⟨_, ⟨bb, rfl, rfl⟩, rfl⟩
 refine Z0 <| Zx <| at_block <| Zb [3, 8] ?_
 refine at_nil ?_
 refine at_rangeAllE (H0 := _) (R := _) (I := (fun pre H => ∃ v2 s2, H = [[(ob, .cells #[v2] 61 (0, 0))], s2, [(1, .cells (kTab.map u32v).toArray Tg zg)]] ∧ RowS 1 9 v2 pre.length ((pre.map (summ rs)).map strV) s2)) (E := fun x vs sx e Hn => ∃ bx vr ve, vs = #[.agg #[vr, ve]] ∧ e = [(4, .pointer (some ⟨bx, 0, none⟩)), (9, .agg #[vr, ve])] ∧ Hn = [[(bx, .cells #[vr, ve] 130 (0, 0))]]) rfl Y call134 (orders_iter _ p rs s hv hs hn hok bb) (fun x vs sx h => by obtain ⟨vr, ve, sr, se, rfl, _⟩ := h; rfl) rfl Wp (⟨_, [], rfl, rowS_nil 1 _⟩) ?ha_2 ?hbd_2 ?hk_2
 case ha_2 =>
  intro _ x vs sx _ _ hEnc
  obtain ⟨vr, ve, sr, se, rfl, hO, rfl⟩ := hEnc
  refine Zg <| Ze (w_alloc zeroValue130 (cs := #[_, _]) rfl) ?_
  rintro _ _ ⟨bx, rfl, rfl⟩
  refine Xe (w_store_agg sizeOf130 Y Y (by obtain ⟨q1, c1, rfl⟩ := hO.1.form; obtain ⟨q2, c2, rfl⟩ := hO.2.form; simp [Value.oneCell', Value.cells]) Wu (by exact (rfl : _ = (#[vr, ve] : Array Value))) (by first | rfl | (simp; done)) Wb (by exact free_zero _)) ?_
  refine Z0 <| nx_isX (e := [(4, _), (9, _)]) (Hn := [[(_, _)]]) ?_
  exact ⟨_, _, _, rfl, rfl, rfl⟩
 case hbd_2 =>
  intro l pre x post u vs sx e9 Hn9 H1 R1 hxs hI hEnc hE9
  obtain ⟨vr, ve, sr, se, rfl, hO, rfl⟩ := hEnc
  obtain ⟨bx, vr2, ve2, hvv, rfl, rfl⟩ := hE9
  simp at hvv
  obtain ⟨rfl, rfl⟩ := hvv
  obtain ⟨v2, s2, rfl, hr2⟩ := hI
  obtain ⟨qe, ce, rfl⟩ := hO.2.form
  obtain ⟨q2, c2, rfl⟩ := hr2.form
  have hpl := congrArg List.length hxs
  rw [List.length_append, List.length_cons, show tcs.length = 16 from rfl] at hpl
  have hol := ordL_len hs (x.1 : Int) x.2
  have hou : StrsU (sr ++ se) (.slice qe (ordL rs (x.1 : Int) x.2).length ce) (encL (ordL rs (x.1 : Int) x.2)) := (strsU_row (rowS_eq hO.2 (encL_len _).symm rfl) (by rw [encL_len]; omega)).mono (fun c h => List.mem_append_right _ h)
  refine at_block <| Zq <| Zg <| Zh 1 underlying130 rfl rfl sizeOf61 Y <| Zl isAgg61 Y ?_
  refine Zv (p_len_slice underlying61 Y) <| Xr [_] Y call100 Y rfl (putInt_spec _ (by omega) (by omega)) ?_
  refine Zm Y <| Zd Y rfl <| Zd Y rfl <| Za Y <| Za Y <| Z0 <| Zx <| at_draw (n := 9) (0 :: 0 :: 0 :: 4 :: 12 :: 30 :: 62 :: 127 :: 255 :: []) 464 (by kernel_rfl) (by kernel_rfl) rfl ?_
  refine Zj 1 0 rfl isAgg61 Y ?_
  refine Zi 3 1 rfl (p_move Y) <| Zi 7 2 rfl (p_fieldAddr0 (off := 1) underlying130 rfl rfl sizeOf61 Y) <| Zj 15 3 rfl isAgg61 Y ?_
  refine Yz 4 12 31 [3, 0] [false, true] [(0, (_, _))] rfl Y rfl rfl rfl rfl (Zu [_] Y call101 Y rfl (root_spec hou (by rw [encL_len]; omega) (fun s h => by have := encL_ok (fun r hr => hok r (range_mem hr)) s h; omega) Tg zg)) ?_
  rintro _ _ ⟨rfl, rfl⟩
  refine ⟨Zk (keep_nil), ?_⟩
  (refine lin_v (D' := 63) 5 (p_add_str Y Y ?_) ?_; (focus (rw [str_size, str_size, root_len]; have := encI_len ((ordL rs (x.1 : Int) x.2).length : Int) (by omega) (by omega); omega)))
  refine Yz 6 62 127 [0] [true] [(0, (_, _))] rfl Y rfl rfl rfl rfl (w_buildSlice (vs := [_]) (cs := [_]) underlying61 sizeOf9 zeroValue9 Y rfl rfl rfl rfl rfl) ?_
  rintro _ _ ⟨b3, rfl, rfl⟩
  refine ⟨Zk (keep_nil), ?_⟩
  refine Yz 7 127 255 [0] [false] [] rfl Y rfl rfl rfl rfl (w_appendS (by_ := 16) (sz := 1) (news := [_]) underlying61 (rfl : Tryz.prog.info? 9 = some Tryz.t9) rfl rfl rfl rfl Y hr2 Y Wo Wh (by rfl) rfl (by simp [Value.oneCell']) (by decide) (by omega) (by omega)) ?_
  rintro _ _ ⟨sw5, hrw5, rfl⟩
  refine ⟨keep_nil, ?_⟩
  obtain ⟨gw5, cw5, rfl⟩ := hrw5.form
  refine Yz 8 255 511 [] [] [] rfl Y rfl rfl rfl rfl (Zs sizeOf61 Y Y rfl (hi := by first | omega | decide | (simp; done))) ?_
  rintro _ _ ⟨rfl, rfl⟩
  refine ⟨keep_nil, ?_⟩
  refine lin_nil ?_
  refine Zn [] ?_
  refine nx_block_normal ?_
  refine nx_round (H' := _) rfl (by exact ⟨_, _, rfl, rowS_eq hrw5 (by simp) (by simp [summ, strV, str_app])⟩)
 intro D1 H2 hI2
 obtain ⟨v2, s2, rfl, hr2⟩ := hI2
 refine Zn [3] ?_
 refine nx_block_normal <| Zx <| Zq <| Zg <| Zl isAgg61 Y ?_
 refine Za Y <| Z0 <| Zx <| at_ret ?_
 refine nx_endM1 rfl (res1 results59 Y) Wo (by exact ⟨s2, hr2, rfl⟩)

end Go.Proofs.YtkgmgmkbgnkdnaaGreatDoor
