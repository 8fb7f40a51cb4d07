/- digest.left, Proof. -/
import Derived.Test.YtjeepldonhgohaaGreatDoorEz
import Derived.Test.YtjeepldonhgohaaGreatDoorTr2
import Derived.Test.YtjeepldonhgohaaGreatDoorEx23

namespace Go.Proofs.YtjeepldonhgohaaGreatDoor
open Go.Proofs.Tryz
open Go Go.RowKit Gw
set_option linter.unusedVariables false
set_option linter.unusedSimpArgs false
set_option maxRecDepth 100000
attribute [local irreducible] Gw.At Gw.Nx Gw.Ops
theorem bitLen_log : ∀ (f x : Nat), 0 < x → x < 2 ^ f → Lib.bitLenAux f x = Nat.log2 x + 1
  | 0, x, h0, h1 => by simp at h1; omega
  | f + 1, x, h0, h1 => by
    unfold Lib.bitLenAux
    rw [if_neg (by omega)]
    rw [Nat.pow_succ] at h1
    rcases Nat.lt_or_ge x 2 with h | h
    · have e : x = 1 := by omega
      subst e
      cases f <;> rfl
    · rw [bitLen_log f (x / 2) (by omega) (by omega)]
      conv => rhs; rw [Nat.log2_def, if_pos h]
      omega
theorem left_bits (n : Nat) (h1 : 2 ≤ n) (h2 : n ≤ 1000000000000) : Lib.bitLen (n - 1) = Nat.log2 (n - 1) + 1 := bitLen_log 64 (n - 1) (by omega) (by omega)
/-- The proof of entry i of a list. -/
def proofT (l : List Bs) (i : Nat) : List Bs :=
  if h : 2 ≤ l.length then
    if i < leftN l.length then proofT (l.take (leftN l.length)) i ++ [rootT (l.drop (leftN l.length))]
    else proofT (l.drop (leftN l.length)) (i - leftN l.length) ++ [rootT (l.take (leftN l.length))]
  else []
termination_by l.length
decreasing_by
  · have := left_lt h; rw [List.length_take]; omega
  · have := left_pos l.length; rw [List.length_drop]; omega
theorem proof_one {l : List Bs} (h : l.length ≤ 1) (i : Nat) : proofT l i = [] := by rw [proofT, dif_neg (by omega)]
theorem proof_first {l : List Bs} {i : Nat} (h : 2 ≤ l.length) (hi : i < leftN l.length) : proofT l i = proofT (l.take (leftN l.length)) i ++ [rootT (l.drop (leftN l.length))] := by rw [proofT, dif_pos h, if_pos hi]
theorem proof_second {l : List Bs} {i : Nat} (h : 2 ≤ l.length) (hi : ¬ i < leftN l.length) : proofT l i = proofT (l.drop (leftN l.length)) (i - leftN l.length) ++ [rootT (l.take (leftN l.length))] := by rw [proofT, dif_pos h, if_neg hi]
theorem proof_digests : ∀ (n : Nat) (l : List Bs) (i : Nat), l.length ≤ n → ∀ x ∈ proofT l i, x.length = 32
  | n, l, i, hn, x, hx => by
    rcases Nat.lt_or_ge l.length 2 with h | h
    · rw [proof_one (by omega)] at hx; simp at hx
    · have h1 := left_lt h
      have h2 := left_pos l.length
      match n, hn with
      | 0, hn => omega
      | n + 1, hn =>
      by_cases hi : i < leftN l.length
      · rw [proof_first h hi] at hx
        rcases List.mem_append.1 hx with hx | hx
        · exact proof_digests n _ i (by rw [List.length_take]; omega) x hx
        · rw [List.mem_singleton] at hx
          rw [hx]; exact root_len _
      · rw [proof_second h hi] at hx
        rcases List.mem_append.1 hx with hx | hx
        · exact proof_digests n _ _ (by rw [List.length_drop]; omega) x hx
        · rw [List.mem_singleton] at hx
          rw [hx]; exact root_len _
theorem StrsU.take {M : List Chunk} {p : Option Addr} {cap : Nat} {ls : List Bs} (h : StrsU M (.slice p ls.length cap) ls) (n : Nat) (hn : n ≤ ls.length) : StrsU M (.slice p n cap) (ls.take n) := by
  obtain ⟨p', cap', e, hl, hg⟩ := h
  injection e with e1 e2 e3
  subst e1 e3
  have hlen : (ls.take n).length = n := by rw [List.length_take]; omega
  refine ⟨p, cap, by rw [hlen], by rw [hlen]; omega, fun i z hz => hg i z ?_⟩
  rw [List.getElem?_take] at hz
  split at hz
  · exact hz
  · cases hz
theorem StrsU.drop {M : List Chunk} {g0 off0 cap : Nat} {ls : List Bs} (h : StrsU M (.slice (some ⟨g0, off0, none⟩) ls.length cap) ls) (n : Nat) (hn : n < ls.length) : StrsU M (.slice (some ⟨g0, off0 + n, none⟩) (ls.length - n) (cap - n)) (ls.drop n) := by
  obtain ⟨p', cap', e, hl, hg⟩ := h
  injection e with e1 e2 e3
  subst e1 e3
  refine ⟨_, _, by rw [List.length_drop], by rw [List.length_drop]; omega, fun i z hz => ?_⟩
  rw [List.getElem?_drop] at hz
  obtain ⟨g2, off2, cur2, T2, zz2, e2, hm2, hc2⟩ := hg (n + i) z hz
  injection e2 with e2; injection e2 with e3 e4
  subst e3 e4
  exact ⟨g0, off0 + n, cur2, T2, zz2, rfl, hm2, by rw [Nat.add_assoc]; exact hc2⟩
theorem holds_enc {w : World} {g : Nat} {cur : Array Value} {e : TypeId} {z : Nat × Nat} (enc : Bs → Value) {zs : List Bs} (hb : w.heap[g]? = some (.cells cur e z)) (hle : zs.length ≤ cur.size) (hfr : Free z cur.size) (ht : cur.toList.take zs.length = zs.map enc) : Go.Sort.Holds enc w g 0 zs.toArray := by
  intro j hj
  have hj' : j < zs.length := by simpa using hj
  have hf := hfr j (by omega)
  have h1 : (cur.toList.take zs.length)[j]? = (zs.map enc)[j]? := by rw [ht]
  rw [List.getElem?_take_of_lt hj'] at h1
  refine ⟨?_, ?_⟩
  · simp only [World.cell?, hb, Nat.zero_add]
    simp only [Option.isSome_none, Bool.false_eq_true, if_false]
    rw [← Array.getElem?_toList, h1]
    simp [hj']
  · simp only [World.frozen?, hb, Nat.zero_add]
    simp; omega
theorem put_take_enc (enc : Bs → Value) (cur : Array Value) (ts : List Bs) (h : ts.length ≤ cur.size) : (Go.Sort.putCells enc 0 ts.toArray cur).toList.take ts.length = ts.map enc := by
  apply List.ext_getElem?
  intro j
  rw [List.getElem?_take]
  by_cases hj : j < ts.length
  · rw [if_pos hj, Array.getElem?_toList]
    unfold Go.Sort.putCells
    rw [Array.getElem?_mapIdx, Array.getElem?_eq_getElem (by omega)]
    simp [hj]
  · rw [if_neg hj, List.getElem?_eq_none (by simp; omega)]
theorem Sat.sorted_enc {u w : World} {g n : Nat} {cur : Array Value} {e : TypeId} {z : Nat × Nat} {R : Hp} (enc : Bs → Value) (d : Array Bs) (h : Sat u ([(g, .cells cur e z)] :: R) w) : Sat u ([(g, .cells (Go.Sort.putCells enc 0 d cur) e z)] :: R) (Go.Sort.putRow enc (Go.Sort.ahead w n) g 0 d) := by
  have hb := h.get (g, .cells cur e z) (by simp)
  refine h.upd (.here _) rfl rfl rfl ?_ fun k hk => ?_
  · simp [Go.Sort.putRow, Go.Sort.mapBlock, Go.Sort.ahead, Array.getElem?_modify, hb, Go.Sort.onCells]
  · have : g ≠ k := fun e => hk e.symm
    simp [Go.Sort.putRow, Go.Sort.mapBlock, Go.Sort.ahead, Array.getElem?_modify, this]
theorem reverse_spec {v : Value} {ls : List Bs} {s : List Chunk} (h : RowS 1 9 v ls.length (ls.map strV) s) (hn : ls.length ≤ 1000000000000) : Does Tryz.prog 85 #[v] [s] (fun r H' => r = .tuple #[] ∧ ∃ s', RowS 1 9 v ls.length (ls.reverse.map strV) s' ∧ H' = [s']) := by
  obtain ⟨hlen, ⟨rfl, h0, rfl⟩ | ⟨g, cap, cur, z, rfl, rfl, hle, hcm, hcs, htk, hfr⟩⟩ := h
  · intro u R w hs
    have e : ls = [] := List.eq_nil_of_length_eq_zero h0
    subst e
    exact (Tryz.slices_Reverse_string_empty none 0 w).mono (by
      rintro e w' ⟨rfl, rfl⟩
      exact .inl ⟨_, _, rfl, ⟨rfl, [], rowS_nil 1 _, rfl⟩, hs⟩)
  · intro u R w hs
    rw [Nat.mul_one] at hcs htk
    have hb := hs.get (g, .cells cur 9 z) (by simp)
    have hH := holds_enc (w := w) (g := g) (e := 9) (z := z) strV (zs := ls) hb (by omega) hfr htk
    refine (Tryz.slices_Reverse_string g 0 cap ls w hH (by omega)).mono ?_
    rintro e w' ⟨rfl, n, rfl⟩
    refine .inl ⟨_, _, rfl, ⟨rfl, _, ⟨by simp, .inr ⟨g, cap, _, z, rfl, rfl, hle, hcm, ?_, ?_, ?_⟩⟩, rfl⟩, Sat.sorted_enc (n := n) strV ls.reverse.toArray hs⟩
    · rw [Nat.mul_one]; simp [Go.Sort.putCells, hcs]
    · rw [Nat.mul_one]
      have := put_take_enc strV cur ls.reverse (by rw [List.length_reverse]; omega)
      rw [List.length_reverse] at this
      exact this
    · simpa [Go.Sort.putCells] using hfr

theorem left_spec (n : Nat) (h1 : 2 ≤ n) (h2 : n ≤ 1000000000000) : DoesR Tryz.prog 84 #[.int .i64 (n : Int)] [] (.int .i64 ((leftN n : Nat) : Int)) := by
 have hb := left_bits n h1 h2
 have hl := left_lt h1
 unfold leftN at hl
 have hl2 : (n - 1).log2 < 64 := (Nat.log2_lt (by omega)).2 (by omega)
 refine spec_enter func84 rfl ntmps84 rfl ?_
 intro u R
 refine Zb [0] ?_
 refine Zq <| Zg <| Za Y <| Z0 <| Zx <| Zq <| Zg <| Zm Y ?_
 (refine op_v (p_sub_nat (n := 1) Y Y ?_ ?_) ?_; (focus (first | omega | (rw [Nat.add_sub_cancel]; omega))); (focus (first | omega | (rw [Nat.add_sub_cancel]; omega))))
 (refine op_v (p_conv_nat_u64 underlying3 underlying135 Y ?_) ?_; (focus (first | omega | (rw [Nat.add_sub_cancel]; omega))))
 refine Zr [_] Y call119 Y rfl (spec_below (H := []) (Rl := fun v => v = .int .i64 ((Lib.bitLen (n - 1) : Nat) : Int)) (fun w _ => (Tryz.bits_Len ((n - 1 : Nat) : Int) w (by omega) (by omega)).mono (by rintro e w1 ⟨rfl, rfl⟩; exact ⟨_, rfl, by rw [Int.toNat_natCast], Below.refl _ _⟩)) (fun v h => ⟨h, rfl⟩)) ?_
 rintro _ _ ⟨rfl, rfl⟩
 rw [hb]
 (refine op_v (p_sub_nat (n := 1) Y Y ?_ ?_) ?_; (focus (first | omega | (rw [Nat.add_sub_cancel]; omega))); (focus (first | omega | (rw [Nat.add_sub_cancel]; omega))))
 (refine op_v (p_shl_nat_i64 (m := 1) Y Y ?_ ?_) ?_; (focus (omega)); (focus (first | omega | (rw [Nat.add_sub_cancel]; omega))))
 refine Za Y <| Z0 <| Zx <| at_ret ?_
 refine nx_end1 rfl results84 Y (by exact ⟨by rw [Nat.add_sub_cancel, Nat.one_mul]; rfl, rfl⟩)

theorem proof_spec {M : List Chunk} {v : Value} {ls : List Bs} (hv : StrsU M v ls) (hn : ls.length ≤ 1000000) (hs : ∀ s ∈ ls, s.length ≤ 140737488354000) (i : Nat) (hi : i < ls.length) (Tg : TypeId) (zg : Nat × Nat) :
    Does Tryz.prog 45 #[v, .int .i64 (i : Int)] [[(0, .cells (kTab.map u32v).toArray Tg zg)], M] (fun r H' => ∃ vp sp, r = .tuple #[vp, .int .i64 0] ∧ RowS 1 9 vp (proofT ls i).length ((proofT ls i).map strV) sp ∧ H' = [sp, [(0, .cells (kTab.map u32v).toArray Tg zg)], M]) := by
 have hml : maxLen = 9223372036854775807 := rfl
 obtain ⟨p, cap, rfl, hl, hg⟩ := id hv
 refine spec_enter func45 rfl ntmps45 rfl ?_
 intro u R
 refine Zb [0, 1] ?_
 refine Zq <| Zg <| Za Y <| Za Y <| Z0 <| Zx <| at_scope ?_
 refine Zq <| Zq <| Zg <| Zm Y <| Zv (p_lss_nat (n := 0) Y Y) <| Zm Y ?_
 refine ops_split (t := 12) Y rfl (fun h1 => ?_) (fun h1 => ?_)
 ·
  exfalso; omega
 ·
  refine Zf Y Y <| Zf Y Y <| Yg (p_len_slice underlying35 Y) <| Yg (p_geq_nat Y Y) <| Zv (p_pick_f Y Y) <| Z0 <| Zx ?_
  refine at_if Y (fun h2 => ?_) (fun h2 => ?_)
  ·
   exfalso; omega
  ·
   refine at_skip <| Zx <| Zq <| Zg <| Za Y <| Z0 <| Zx <| Zq <| at_label <| Zx <| Zq <| at_block <| at_nil ?_
   refine Zb [0, 1, 6] ?_
   refine at_loopB (e0 := [(0, _), (1, _), (6, _)]) (H0 := _) (n := _) (fun m e H => ∃ (l2 : List Bs) (i2 : Nat) (p2 : Option Addr) (cap2 : Nat) (o : List Bs) (vo : Value) (so : List Chunk), m = 0 + l2.length ∧ (StrsU M (.slice p2 l2.length cap2) l2 ∧ i2 < l2.length ∧ (∀ s ∈ l2, s.length ≤ 140737488354000) ∧ proofT ls i = proofT l2 i2 ++ o.reverse ∧ RowS 1 9 vo o.length (o.map strV) so ∧ o.length + l2.length ≤ ls.length) ∧ e = [(0, .slice p2 l2.length cap2), (1, .int .i64 (i2 : Int)), (6, vo)] ∧ H = [so]) (by exact ⟨ls, i, p, cap, [], .slice none 0 0, [], rfl, ⟨hv, hi, hs, by simp, rowS_nil 1 _, by simp⟩, rfl, rfl⟩) (by repeat (first | exact Pull.nil _ | (apply Pull.cons; (focus (repeat (first | exact One.here _ _ | apply One.there)))))) ?_
   rintro _ _ _ ⟨l2, i2, p2, cap2, o, vo, so, rfl, ⟨hv2, hi2, hs2, hpr, hro, hol⟩, rfl, rfl⟩
   obtain ⟨qo, co, rfl⟩ := hro.form
   refine at_block <| Zq <| Zq <| Zg <| Zm Y <| Zv (p_len_slice underlying35 Y) <| Zv (p_eql_nat (n := 1) Y Y) <| Z0 <| Zx ?_
   refine at_if Y (fun h1 => ?_) (fun h1 => ?_)
   ·
    rw [proof_one (l := l2) (by omega), List.nil_append] at hpr
    refine at_exit <| Zt <| nx_block_other rfl <| Zt <| nx_block_exit <| Zx <| Zq <| Zg <| Zm Y <| Zc [_] Y call85 Y rfl (reverse_spec hro (by omega)) ?_
    rintro _ _ ⟨_, ⟨rfl, so2, hro2, rfl⟩, rfl⟩
    refine Z0 <| Zx <| Zq <| Zg <| Zm Y <| Za Y <| Za Y <| Z0 <| Zx <| at_ret <| nx_scope_ret ?_
    refine nx_end2 rfl results45 Y Y (by exact ⟨_, so2, rfl, rowS_eq hro2 (by rw [hpr, List.length_reverse]) (by rw [hpr]), rfl⟩)
   ·
    have h9 : 2 ≤ l2.length := by omega
    have hk1 := left_lt h9
    have hk2 := left_pos l2.length
    have hlt2 : (l2.take (leftN l2.length)).length = leftN l2.length := by rw [List.length_take]; omega
    obtain ⟨p8, cap8, e8, hl8, hg8⟩ := id hv2
    injection e8 with e81 e82 e83
    subst e81 e83
    obtain ⟨g8, off8, cur8, T8, zz8, rfl, hm8, hc8⟩ := hg8 0 _ (List.getElem?_eq_getElem (by omega))
    have hvt := hv2.take (leftN l2.length) (by omega)
    have hvd := hv2.drop (leftN l2.length) hk1
    refine at_skip <| Zx <| Zq <| Zg <| Zm Y <| Zv (p_len_slice underlying35 Y) <| Zr [_] Y call84 Y rfl (left_spec l2.length h9 (by omega)) ?_
    rintro _ _ ⟨rfl, rfl⟩
    refine Za Y <| Z0 <| Zx <| Zq <| at_draw (n := 8) (0 :: 0 :: 3 :: 0 :: 0 :: 24 :: 7 :: 127 :: []) 0 (by kernel_rfl) (by kernel_rfl) rfl ?_
    refine Zi 1 0 rfl (p_move Y) <| Zi 3 1 rfl (p_move Y) ?_
    (refine lin_v (D' := 7) 2 (p_slice_slice_to underlying35 sizeOf9 Y Y ?_) ?_; (focus (first | omega | (simp; omega))))
    refine Zi 15 3 rfl (p_move Y) <| Zi 31 4 rfl (p_move Y) ?_
    (refine lin_v (D' := 63) 5 (p_slice_slice_from1 underlying35 sizeOf9 Y Y ?_ ?_) ?_; (focus (first | omega | (simp; omega))); (focus (first | omega | (simp; omega))))
    refine Zi 127 6 rfl (p_assign Y) <| Zi 255 7 rfl (p_assign Y) <| lin_nil ?_
    refine Zn [1, 6, 7, 8, 9] ?_
    refine Zx <| Zq <| Zq <| Zg <| Zm Y <| Zm Y <| Zv (p_geq_nat Y Y) <| Z0 <| Zx ?_
    refine at_if Y (fun hge => ?_) (fun hge => ?_)
    ·
     have hge : ¬ i2 < leftN l2.length := by omega
     refine Zg <| Zm Y <| Zm Y <| Zm Y <| Zm Y <| Yb Y Y <| Za Y <| Za Y <| Za Y <| Z0 <| Zx <| Zq <| Zg <| Zm Y <| Zm Y <| Zr [_] Y call22 Y rfl (root_spec hvt (by rw [hlt2]; omega) (fun s h => hs2 s (List.mem_of_mem_take h)) Tg zg) ?_
     rintro _ _ ⟨rfl, rfl⟩
     refine Ze (w_buildSlice (vs := [_]) (cs := [_]) underlying35 sizeOf9 zeroValue9 Y rfl rfl rfl rfl rfl) ?_
     rintro _ _ ⟨b1, rfl, rfl⟩
     refine Ze (w_appendS (by_ := 16) (sz := 1) (news := [_]) underlying35 (rfl : Tryz.prog.info? 9 = some Tryz.t9) rfl rfl rfl rfl Y hro Y (by repeat (first | exact One.here _ _ | apply One.there)) (by repeat (first | exact Has.here _ | apply Has.there)) (by rfl) rfl (by simp [Value.oneCell']) (by decide) (by omega) (by omega)) ?_
     rintro _ _ ⟨sw, hrw, rfl⟩
     obtain ⟨gw, cw, rfl⟩ := hrw.form
     refine Za Y <| Z0 <| Zn [1, 6, 8] ?_
     refine Zx <| Zg <| Zm Y <| Za Y <| Z0 <| nx_block_normal <| Zn [0, 1, 6] ?_
     refine nx_againB (e' := [(0, _), (1, _), (6, _)]) (m := _) (H' := _) (by exact ⟨l2.drop (leftN l2.length), i2 - leftN l2.length, _, _, o ++ [rootT (l2.take (leftN l2.length))], _, _, (by rw [List.length_drop]), ⟨(by rw [List.length_drop]; exact hvd), by rw [List.length_drop]; omega, fun s h => hs2 s (List.mem_of_mem_drop h), by rw [hpr, proof_second h9 hge, List.reverse_append, List.append_assoc]; rfl, rowS_eq hrw (by simp) (by simp; rfl), by rw [List.length_append, List.length_drop]; simp; omega⟩, (by rw [List.length_drop]), rfl⟩)
    ·
     refine at_skip <| Zx <| Zq <| Zg <| Zm Y <| Zm Y <| Zr [_] Y call22 Y rfl (root_spec hvd (by rw [List.length_drop]; omega) (fun s h => hs2 s (List.mem_of_mem_drop h)) Tg zg) ?_
     rintro _ _ ⟨rfl, rfl⟩
     refine Ze (w_buildSlice (vs := [_]) (cs := [_]) underlying35 sizeOf9 zeroValue9 Y rfl rfl rfl rfl rfl) ?_
     rintro _ _ ⟨b3, rfl, rfl⟩
     refine Ze (w_appendS (by_ := 16) (sz := 1) (news := [_]) underlying35 (rfl : Tryz.prog.info? 9 = some Tryz.t9) rfl rfl rfl rfl Y hro Y (by repeat (first | exact One.here _ _ | apply One.there)) (by repeat (first | exact Has.here _ | apply Has.there)) (by rfl) rfl (by simp [Value.oneCell']) (by decide) (by omega) (by omega)) ?_
     rintro _ _ ⟨sw, hrw, rfl⟩
     obtain ⟨gw, cw, rfl⟩ := hrw.form
     refine Za Y <| Z0 <| Zx <| Zg <| Zm Y <| Za Y <| Z0 <| nx_block_normal <| Zn [0, 1, 6] ?_
     refine nx_againB (e' := [(0, _), (1, _), (6, _)]) (m := _) (H' := _) (by exact ⟨l2.take (leftN l2.length), i2, _, _, o ++ [rootT (l2.drop (leftN l2.length))], _, _, (by rw [hlt2]), ⟨(by rw [hlt2]; exact hvt), by rw [hlt2]; omega, fun s h => hs2 s (List.mem_of_mem_take h), by rw [hpr, proof_first h9 (by omega), List.reverse_append, List.append_assoc]; rfl, rowS_eq hrw (by simp) (by simp; rfl), by rw [List.length_append, hlt2]; simp; omega⟩, (by rw [hlt2]), rfl⟩)

end Go.Proofs.YtjeepldonhgohaaGreatDoor
