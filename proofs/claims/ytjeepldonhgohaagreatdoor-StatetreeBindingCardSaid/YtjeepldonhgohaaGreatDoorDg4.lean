/- Contracts: digest.digest, slices.Chunk at 64 bytes. Contracts: slices.Chunk at 64 bytes, digest.Sum. -/
import Derived.Test.YtjeepldonhgohaaGreatDoorEz
import Derived.Test.YtjeepldonhgohaaGreatDoorDg2
import Derived.Test.YtjeepldonhgohaaGreatDoorEx6

namespace Go.Proofs.YtjeepldonhgohaaGreatDoor
open Go.Proofs.Tryz
open Go Go.RowKit Gw
set_option linter.unusedVariables false
set_option linter.unusedSimpArgs false
set_option maxRecDepth 100000
attribute [local irreducible] Gw.At Gw.Nx Gw.Ops
/-- n bytes of a row of N, zeros behind. -/
def padB (N : Nat) (l : List UInt8) : Array Value := (l.map u8v ++ List.replicate (N - l.length) (Value.int .u8 0)).toArray
theorem padB_set (N : Nat) (l : List UInt8) (x : UInt8) (k : Nat) (hk : k = l.length) (h : l.length < N) : (padB N l).setIfInBounds k (.int .u8 (x.toNat : Int)) = padB N (l ++ [x]) := by
  subst hk
  unfold padB
  rw [List.setIfInBounds_toArray]
  congr 1
  rw [List.set_append_right _ _ (by simp)]
  simp only [List.length_map, Nat.sub_self, List.length_append, List.length_cons, List.length_nil]
  obtain ⟨n, hn⟩ : ∃ n, N - l.length = n + 1 := ⟨N - 1 - l.length, by omega⟩
  rw [hn, show N - (l.length + (0 + 1)) = n by omega]
  simp [List.replicate_succ, u8v]
theorem padB_size (N : Nat) (l : List UInt8) (h : l.length ≤ N) : (padB N l).size = N := by simp [padB]; omega
theorem padB_full (N : Nat) (l : List UInt8) (h : l.length = N) : (padB N l).toList = l.map u8v := by simp [padB, h]
def outP (v : V8) (i k : Nat) : List UInt8 := (v.list.take i).flatMap out32 ++ (out32 (v.list.getD i 0)).take k
theorem outP_len (v : V8) (i k : Nat) (hi : i < 8) (hk : k ≤ 4) : (outP v i k).length = 4 * i + k := by
  have : i = 0 ∨ i = 1 ∨ i = 2 ∨ i = 3 ∨ i = 4 ∨ i = 5 ∨ i = 6 ∨ i = 7 := by omega
  rcases this with rfl | rfl | rfl | rfl | rfl | rfl | rfl | rfl <;> simp [outP, V8.list, out32] <;> omega
theorem outP_next (v : V8) (i : Nat) (hi : i < 8) : outP v (i + 1) 0 = outP v i 4 := by
  have : i = 0 ∨ i = 1 ∨ i = 2 ∨ i = 3 ∨ i = 4 ∨ i = 5 ∨ i = 6 ∨ i = 7 := by omega
  rcases this with rfl | rfl | rfl | rfl | rfl | rfl | rfl | rfl <;> rfl
theorem outP_step (v : V8) (i k : Nat) (hk : k < 4) : outP v i (k + 1) = outP v i k ++ [((v.list.getD i 0) >>> UInt32.ofNat (24 - 8 * k)).toUInt8] := by
  have : k = 0 ∨ k = 1 ∨ k = 2 ∨ k = 3 := by omega
  unfold outP
  generalize v.list.getD i 0 = x
  rcases this with rfl | rfl | rfl | rfl
  · simp [out32]
  · simp [out32]
  · simp [out32]
  · have e : x >>> UInt32.ofNat (24 - 8 * 3) = x := by
      apply UInt32.toNat_inj.1
      simp [UInt32.toNat_shiftRight]
    rw [e]; simp [out32]
theorem outS_eq (v : V8) : outP v 8 0 = outS v := rfl
theorem v8c_get1 (y : V8) (i : Nat) (h : i < 8) : (v8c y)[i * 1]? = some (u32v (y.list.getD i 0)) := by rw [Nat.mul_one]; exact v8_get y i h

theorem digest_spec (v : V8) : DoesR Tryz.prog 76 #[.agg (v8c v)] [] (.string (str (outS v))) := by
 refine spec_enter func76 rfl ntmps76 rfl ?_
 intro u R
 refine Zb [0] ?_
 refine Zq <| Zg <| Ze (w_box Y (cs := (v8c v)) (by kernel_rfl)) ?_
 rintro _ _ ⟨b1, rfl, rfl⟩
 refine Za Y <| Z0 <| Zx <| Zq <| Zg <| Ze (w_alloc zeroValue170 (cs := (padB 32 [])) (by kernel_rfl)) ?_
 rintro _ _ ⟨bo, rfl, rfl⟩
 refine Z0 <| Zx <| Zq <| Zq <| Zg <| Zo (by repeat (first | exact Has.here _ | apply Has.there)) (p_load_agg (cs := v8c v) isAgg110 sizeOf110 Y (by first | omega | exact Nat.le_refl _) (by exact extract_all _ _ rfl)) ?_
 refine Zm Y <| Z0 <| Zx <| at_block <| Zb [8, 3, 7] ?_
 refine at_loopB (e0 := [(8, _)]) (H0 := _) (n := _) (fun m e H => ∃ i : Nat, m = 8 - i ∧ (i ≤ 8) ∧ e = [(8, .int .i64 (i : Int))] ∧ H = [[(bo, .cells (padB 32 (outP v i 0)) 170 (0, 0))]]) (by exact ⟨0, rfl, Nat.zero_le _, rfl, rfl⟩) (by repeat (first | exact Pull.nil _ | (apply Pull.cons; (focus (repeat (first | exact One.here _ _ | apply One.there)))))) ?_
 rintro _ _ _ ⟨i, rfl, hi, rfl, rfl⟩
 refine Zq <| Zg <| Zv (p_lss_nat (n := 8) Y Y) <| Z0 <| Zx <| Zq ?_
 refine at_if Y (fun hc1 => ?_) (fun hc1 => ?_)
 ·
  refine at_skip <| Zx <| Zq <| at_block <| Zq <| Zg <| Zm Y <| Zv (p_index_arr underlying110 isAgg108 sizeOf108 Y Y (by first | omega | exact Nat.le_refl _) (by exact v8c_get1 v i (by omega))) ?_
  refine Za Y <| Za Y <| Z0 <| Zx <| Zq <| Zg <| Zm Y <| Z0 <| Zx <| at_block <| Zb [12, 3, 4, 5, 7, 8] ?_
  refine at_loopB (e0 := [(12, _)]) (H0 := _) (n := _) (fun m e H => ∃ k : Nat, m = 4 - k ∧ (k ≤ 4) ∧ e = [(12, .int .i64 (k : Int))] ∧ H = [[(bo, .cells (padB 32 (outP v i k)) 170 (0, 0))]]) (by exact ⟨0, rfl, Nat.zero_le _, rfl, rfl⟩) (by repeat (first | exact Pull.nil _ | (apply Pull.cons; (focus (repeat (first | exact One.here _ _ | apply One.there)))))) ?_
  rintro _ _ _ ⟨k, rfl, hk, rfl, rfl⟩
  refine Zq <| Zg <| Zv (p_lss_nat (n := 4) Y Y) <| Z0 <| Zx <| Zq ?_
  refine at_if Y (fun hc2 => ?_) (fun hc2 => ?_)
  ·
   refine at_skip <| Zx <| Zq <| at_block <| Zq <| Zg <| Zm Y <| Za Y <| Z0 <| Zx <| Zg <| Zm Y ?_
   (refine op_v (p_mul_nat (m := 4) Y Y ?_) ?_; (focus (omega)))
   refine Zm Y <| Ya Y Y <| Zm Y <| Zm Y ?_
   (refine op_v (p_mul_nat (m := 8) Y Y ?_) ?_; (focus (omega)))
   refine Yb (m := 24) Y Y ?_
   (refine op_v (p_shr_u32 Y Y ?_) ?_; (focus (omega)))
   refine Zv (p_conv_u32_u8 underlying108 underlying5 Y) ?_
   (refine op_v (p_indexAddr_arr0 underlying170 sizeOf5 Y Y ?_) ?_; (focus (first | omega | (rw [padB_size _ _ (by rw [outP_len _ _ _ (by omega) (by omega)]; omega)]; omega))))
   refine Ze (Zs sizeOf5 Y Y rfl (hc := by exact (padB_set 32 (outP v i k) _ _ (by rw [outP_len _ _ _ (by omega) (by omega)]) (by rw [outP_len _ _ _ (by omega) (by omega)]; omega)).trans (congrArg (padB 32) (outP_step v i k (by omega)).symm)) (hi := by (rw [padB_size _ _ (by rw [outP_len _ _ _ (by omega) (by omega)]; omega)]; omega))) ?_
   rintro _ _ ⟨rfl, rfl⟩
   refine Z0 <| Zn [3, 4, 5, 7, 8, 12] ?_
   refine nx_block_normal <| Zx <| Zg <| Ya (n := 1) Y Y <| Zm Y <| Z0 <| Zn [12, 3, 4, 5, 7, 8] ?_
   refine nx_againB (e' := [(12, _)]) (m := _) (H' := _) (by exact ⟨k + 1, rfl, by omega, rfl, rfl⟩)
  ·
   have ek : k = 4 := by omega
   subst ek
   refine at_exit <| Zt <| Zt <| nx_block_exit <| nx_block_normal <| Zx <| Zg <| Ya (n := 1) Y Y <| Zm Y <| Z0 <| Zn [8, 3, 7] ?_
   refine nx_againB (e' := [(8, _)]) (m := _) (H' := _) (by exact ⟨i + 1, rfl, by omega, rfl, by rw [outP_next v i (by omega)]⟩)
 ·
  have ei : i = 8 := by omega
  subst ei
  refine at_exit <| Zt <| Zt <| nx_block_exit <| Zx <| Zq <| Zg <| Zv (p_slice_arr_all underlying170 sizeOf5 Y) <| Zo (by repeat (first | exact Has.here _ | apply Has.there)) (p_conv_bytes_str underlying111 underlying5 underlying9 Y (by exact ⟨(by rw [padB_full 32 (outP v 8 0) (by rw [outS_eq]; rfl)]; exact List.take_of_length_le (by rw [List.drop_zero, List.length_map, outS_eq]; exact Nat.le_refl 32)), rfl⟩)) ?_
  refine Za Y <| Z0 <| Zx <| at_ret ?_
  refine nx_end1 rfl results76 Y (by exact ⟨rfl, rfl⟩)

/-- The j-th chunk of 64 bytes of block g. -/
def chunkV (g j : Nat) : Value := .slice (some ⟨g, 64 * j, none⟩) 64 64
theorem chunk_at (g k M : Nat) (h : k < M) : Value.slice (some ⟨g, 0 + 64 * k * 1, none⟩) (64 * k + min 64 (64 * M - 64 * k) - 64 * k) (64 * k + min 64 (64 * M - 64 * k) - 64 * k) = chunkV g k := by
  have h1 : 64 * k + min 64 (64 * M - 64 * k) - 64 * k = 64 := by omega
  have h2 : 0 + 64 * k * 1 = 64 * k := by omega
  rw [h1, h2]; rfl
theorem range_split (M k : Nat) (h : k < M) : List.range M = List.range k ++ k :: (List.range' (k + 1) (M - k - 1)) := by
  rw [List.range_eq_range', List.range_eq_range', ← List.range'_succ]
  rw [show M - k - 1 + 1 = M - k by omega]
  have := List.range'_append_1 (s := 0) (m := k) (n := M - k)
  rw [show 0 + k = k by omega, show k + (M - k) = M by omega] at this
  exact this.symm

theorem chunk_iter (g cap M : Nat) (bs bn : Nat) (hM : 64 * M ≤ cap) (hc : cap ≤ maxLen) :
    IterSpec Tryz.prog 112 #[.pointer (some ⟨bs, 0, none⟩), .pointer (some ⟨bn, 0, none⟩)] [[(bs, .cells #[.slice (some ⟨g, 0, none⟩) (64 * M) cap] 111 (0, 0))], [(bn, .cells #[.int .i64 64] 3 (0, 0))]] (fun j => #[chunkV g j]) (List.range M) := by
 have hml : maxLen = 9223372036854775807 := rfl
 intro l J hy s hJ
 refine spec_enter func112 rfl ntmps112 rfl ?_
 intro u R
 refine Zb [0, 1, 2] ?_
 refine Zq <| Zg <| Za Y <| Z0 <| Zx <| at_block <| Zb [4, 0, 1, 2] ?_
 refine at_loopB (e0 := [(4, _)]) (H0 := _) (n := _) (fun m e H => ∃ (k : Nat) (s : List Chunk), m = M - k ∧ (k ≤ M ∧ J (List.range k) s) ∧ e = [(4, .int .i64 ((64 * k : Nat) : Int))] ∧ H = [s]) (by exact ⟨0, s, rfl, ⟨Nat.zero_le _, hJ⟩, rfl, rfl⟩) (by repeat (first | exact Pull.nil _ | (apply Pull.cons; (focus (repeat (first | exact One.here _ _ | apply One.there)))))) ?_
 rintro _ _ _ ⟨k, s, rfl, ⟨hk, hJ⟩, rfl, rfl⟩
 refine Zq <| Zq <| Zg <| Zm Y <| Zl isAgg111 Y ?_
 refine Zv (p_len_slice underlying111 Y) <| Zv (p_lss_nat Y Y) <| Z0 <| Zx ?_
 refine at_if Y (fun hc1 => ?_) (fun hc1 => ?_)
 ·
  refine at_skip <| Zx <| Zq <| at_block <| Zq <| at_draw (n := 7) (0 :: 0 :: 0 :: 6 :: 14 :: 31 :: 63 :: []) 0 (by kernel_rfl) (by kernel_rfl) rfl ?_
  refine Zj 1 0 rfl isAgg3 Y ?_
  refine Zj 3 1 rfl isAgg111 Y ?_
  refine Zi 7 2 rfl (p_move Y) ?_
  (refine lin_v (D' := 15) 3 (p_slice_slice_from underlying111 sizeOf5 Y Y ?_) ?_; (focus (omega)))
  refine Zi 31 4 rfl (p_len_slice underlying111 Y) <| Zi 63 5 rfl (p_min_nat Y Y) <| Zi 127 6 rfl (p_assign Y) <| lin_nil ?_
  refine Zx <| Zq ?_
  have hyk := hy (List.range k) k _ s (range_split M k (by omega)) hJ
  rw [← List.range_succ] at hyk
  rw [show (fun j => #[chunkV g j]) k = #[chunkV g k] from rfl, ← chunk_at g k M (by omega)] at hyk
  refine Zg <| Zm Y <| Zl isAgg111 Y ?_
  refine Zm Y <| Zm Y <| Zm Y <| Ya Y Y <| Zm Y <| Zm Y <| Ya Y Y ?_
  (refine op_v (p_slice_slice3 underlying111 sizeOf5 Y Y Y Y ?_ ?_) ?_; (focus ((simp only [Nat.min_def]; split <;> omega))); (focus (omega)))
  refine Ze (w_yield (vs := [_]) Y Y (hyk) (by repeat (first | exact Pull.nil _ | (apply Pull.cons; (focus (repeat (first | exact One.here _ _ | apply One.there))))))) ?_
  rintro _ _ ⟨_, ⟨s', rfl, rfl, hJ'⟩, rfl⟩
  refine Zv (p_not Y) <| Z0 <| Zn [0, 1, 2, 4, 30] ?_
  refine Zx ?_
  refine at_if_bool Y (fun hb => ?_) (fun hb => ?_)
  ·
   cases hb
  ·
   refine at_skip <| nx_block_normal <| Zx <| Zg <| Zm Y <| Zl isAgg3 Y ?_
   refine Yi Y Y <| Za Y <| Z0 <| Zn [4, 0, 1, 2] ?_
   refine nx_againB (e' := [(4, _)]) (m := _) (H' := _) (by exact ⟨k + 1, s', rfl, ⟨by omega, hJ'⟩, rfl, rfl⟩)
 ·
  have ek : k = M := by omega
  subst ek
  refine at_exit <| Zt <| Zt <| nx_block_exit ?_
  refine nx_end0 rfl results112 (by exact ⟨s, rfl, hJ⟩)

theorem chunk_spec (p : Option Addr) (n cap : Nat) : Does Tryz.prog 74 #[.slice p n cap, .int .i64 64] [] (fun r H' => ∃ bs bn, r = .func (.func 112) #[] #[.pointer (some ⟨bs, 0, none⟩), .pointer (some ⟨bn, 0, none⟩)] ∧ H' = [[(bs, .cells #[.slice p n cap] 111 (0, 0))], [(bn, .cells #[.int .i64 64] 3 (0, 0))]]) := by
 refine spec_enter func74 rfl ntmps74 rfl ?_
 intro u R
 refine Zb [0, 1] ?_
 refine Zq <| Zg <| Ze (w_box Y (cs := #[_]) rfl) ?_
 rintro _ _ ⟨b1, rfl, rfl⟩
 refine Ze (w_box Y (cs := #[_]) rfl) ?_
 rintro _ _ ⟨b2, rfl, rfl⟩
 refine Za Y <| Z0 <| Zx <| Zq <| Zq <| Zg <| Zl isAgg3 Y ?_
 refine Zv (p_lss_nat (n := 1) Y Y) <| Z0 <| Zx ?_
 refine at_if Y (fun hc1 => ?_) (fun hc1 => ?_)
 ·
  exact absurd hc1 (by decide)
 ·
  refine at_skip <| Zx <| Zq <| Zg <| Zv (p_makeFunc (vs := []) (us := [_, _]) Y Y) ?_
  refine Za Y <| Z0 <| Zx <| at_ret ?_
  refine nx_end1 rfl results74 Y (by exact ⟨b1, b2, rfl, rfl⟩)

theorem blocks_snoc : ∀ (n : Nat) (h : V8) (b : List UInt8), blocks (n + 1) h b = blockS (blocks n h b) ((b.drop (64 * n)).take 64)
  | 0, h, b => by simp [blocks]
  | n + 1, h, b => by
    rw [blocks, blocks_snoc n, blocks, List.drop_drop]
    rw [show 64 + 64 * n = 64 * (n + 1) by omega]
def padZ (l : List UInt8) (k : Nat) : List UInt8 := l ++ [128] ++ List.replicate k 0
theorem padZ_len (l : List UInt8) (k : Nat) : (padZ l k).length = l.length + 1 + k := by simp [padZ]; omega
theorem padZ_step (l : List UInt8) (k : Nat) : (padZ l k).map u8v ++ [.int .u8 0] = (padZ l (k + 1)).map u8v := by
  unfold padZ
  rw [List.replicate_succ']
  simp [u8v]
def padL (l : List UInt8) (j : Nat) : List UInt8 := padZ l (zpad l.length) ++ (lenB l.length).take j
theorem padL_zero (l : List UInt8) : padL l 0 = padZ l (zpad l.length) := by simp [padL]
theorem padL_full (l : List UInt8) : padL l 8 = padded l := by
  have : (lenB l.length).take 8 = lenB l.length := List.take_of_length_le (by simp [lenB])
  simp [padL, padZ, padded, this]
theorem lenB_get (n j : Nat) (h : j < 8) : (lenB n).take (j + 1) = (lenB n).take j ++ [UInt8.ofNat (8 * n / 2 ^ (8 * (7 - j)))] := by
  rw [List.take_succ_eq_append_getElem (by simp [lenB]; omega)]
  simp [lenB]
theorem padL_step (l : List UInt8) (j q : Nat) (h : q + j = 7) : (padL l j).map u8v ++ [.int .u8 ((UInt8.ofNat (8 * l.length / 2 ^ (8 * q))).toNat : Int)] = (padL l (j + 1)).map u8v := by
  unfold padL
  rw [lenB_get _ _ (by omega), show 7 - j = q by omega]
  simp [u8v]
theorem padL_len (l : List UInt8) (j : Nat) (h : j ≤ 8) : (padL l j).length = l.length + 1 + zpad l.length + j := by
  have : (lenB l.length).length = 8 := by simp [lenB]
  simp [padL, padZ_len, this]; omega
theorem lenByte (m : Nat) : IntKind.u8.wrap (m : Int) = ((UInt8.ofNat m).toNat : Int) := by
  rw [IntKind.wrap_u8', UInt8.toNat_ofNat']; omega
theorem zpad_lt (n k : Nat) (hk : k ≤ zpad n) (h : (n + 1 + k) % 64 ≠ 56) : k < zpad n := by
  have := zpad_ok n
  rcases Nat.lt_or_ge k (zpad n) with h1 | h1
  · exact h1
  · have : k = zpad n := by omega
    subst this; contradiction
theorem zpad_eq (n k : Nat) (hk : k ≤ zpad n) (h : (n + 1 + k) % 64 = 56) : k = zpad n := by
  unfold zpad at hk ⊢; omega
theorem range_pre {M x : Nat} {pre post : List Nat} (h : List.range M = pre ++ x :: post) : x = pre.length ∧ x < M := by
  have h1 : (List.range M)[pre.length]? = some x := by rw [h]; simp
  have hlt : pre.length < M := by
    have := (List.getElem?_eq_some_iff.1 h1).1
    simpa using this
  rw [List.getElem?_range hlt] at h1
  have := Option.some.inj h1
  omega
theorem bytes_chunk {cur : Array Value} {p : List UInt8} (h : cur.toList.take (p.map u8v).length = p.map u8v) (k : Nat) (hk : 64 * k + 64 ≤ p.length) : BytesIn cur (64 * k) ((p.drop (64 * k)).take 64) := by
  unfold BytesIn
  have hl : ((p.drop (64 * k)).take 64).length = 64 := by simp; omega
  rw [hl, List.map_take, List.map_drop, ← h]
  rw [List.drop_take, List.take_take]
  congr 1
  simp; omega
theorem sha_def (l : List UInt8) (M : Nat) (h : (padded l).length = 64 * M) : sha l = outS (blocks M h0 (padded l)) := by
  unfold sha
  rw [h, Nat.mul_div_cancel_left _ (by omega)]

theorem sum_spec (s : ByteArray) (hs : s.size ≤ 1099511627776) (Tg : TypeId) (zg : Nat × Nat) :
    DoesR Tryz.prog 31 #[.string s] [[(0, .cells (kTab.map u32v).toArray Tg zg)]] (.string (str (sha s.data.toList))) := by
 have hml : maxLen = 9223372036854775807 := rfl
 obtain ⟨l, hl⟩ : ∃ l, l = s.data.toList := ⟨_, rfl⟩
 have hn : l.length = s.size := by rw [hl]; rfl
 have hz : zpad s.size < 64 := by unfold zpad; omega
 refine spec_enterM func31 rfl ntmps31 rfl ?_
 intro u R
 refine Zb [0] ?_
 refine Zq <| Zg <| Za Y <| Z0 <| Zx <| Zq <| Zg <| Zv (p_build (vs := [(0, _), (1, _), (2, _), (3, _), (4, _), (5, _), (6, _), (7, _)]) (cs := #[_, _, _, _, _, _, _, _]) Y (run_build_array zeroValue110 underlying110 sizeOf108 rfl)) ?_
 refine Ze (w_alloc zeroValue110 (cs := #[_, _, _, _, _, _, _, _]) rfl) ?_
 rintro _ _ ⟨bh, rfl, rfl⟩
 refine Ze (w_store_agg sizeOf110 Y Y (by exact v8_ones h0) (by repeat (first | exact Upd.here _ | apply Upd.there)) (by exact (rfl : _ = v8c (blocks 0 h0 (padded l)))) (by first | rfl | (simp; done)) (by first | decide | exact Nat.le_refl _ | (simp; done) | (simp; omega)) (by exact free_zero _)) ?_
 rintro _ _ ⟨rfl, rfl⟩
 refine Z0 <| Zx <| Zq <| Zg <| Zm Y <| Ze (w_bytes underlying9 underlying111 underlying5 Y (by omega)) ?_
 rintro _ _ ⟨sa, hra, rfl⟩
 obtain ⟨ga, ca, rfl⟩ := hra.form
 refine Ze (w_buildSlice (vs := [_]) (cs := [_]) underlying111 sizeOf5 zeroValue5 Y rfl rfl rfl rfl rfl) ?_
 rintro _ _ ⟨b3, rfl, rfl⟩
 refine Ze (w_append (by_ := 1) (news := [_]) underlying111 (rfl : Tryz.prog.info? 5 = some Tryz.t5) rfl rfl rfl rfl Y hra Y (by repeat (first | exact One.here _ _ | apply One.there)) (by repeat (first | exact Has.here _ | apply Has.there)) (by rfl) rfl (by simp [Value.oneCell']) (by decide) (by (simp only [List.length_map, ← hl, hn]; omega)) (by (simp only [List.length_map, ← hl, hn]; omega))) ?_
 rintro _ _ ⟨sb, hrb, rfl⟩
 obtain ⟨gb, cb, rfl⟩ := hrb.form
 refine Za Y <| Z0 <| Zx <| Zq <| at_block ?_
 have hr0 : Row 5 (.slice gb (List.map u8v s.data.toList ++ [Value.int IntKind.u8 128]).length cb) ((padZ l 0).map u8v) sb := by
   have e : (padZ l 0).map u8v = List.map u8v s.data.toList ++ [Value.int IntKind.u8 128] := by rw [← hl]; simp [padZ, u8v]
   rw [e]; exact hrb
 refine Zb [4, 0, 3] ?_
 refine at_loopB (e0 := [(4, _)]) (H0 := _) (n := _) (fun m e H => ∃ (k : Nat) (v : Value) (sv : List Chunk), m = zpad s.size - k ∧ (k ≤ zpad s.size ∧ Row 5 v ((padZ l k).map u8v) sv) ∧ e = [(4, v)] ∧ H = [sv]) (by exact ⟨0, _, _, rfl, ⟨Nat.zero_le _, hr0⟩, rfl, rfl⟩) (by repeat (first | exact Pull.nil _ | (apply Pull.cons; (focus (repeat (first | exact One.here _ _ | apply One.there)))))) ?_
 rintro _ _ _ ⟨k, v, sv, rfl, ⟨hk, hrv⟩, rfl, rfl⟩
 obtain ⟨gv, cv, rfl⟩ := hrv.form
 refine Zq <| Zq <| Zg <| Zm Y <| Zv (p_len_slice underlying111 Y) ?_
 (refine op_v (p_rem_nat (n := 64) Y Y ?_) ?_; (focus (omega)))
 refine Zv (p_neq_nat (n := 56) Y Y) <| Z0 <| Zx ?_
 refine at_if Y (fun hlen => ?_) (fun hlen => ?_)
 ·
  rw [List.length_map, padZ_len, hn] at hlen
  have hk2 := zpad_lt _ _ hk hlen
  refine at_skip <| Zx <| at_block <| Zg <| Zm Y <| Ze (w_buildSlice (vs := [_]) (cs := [_]) underlying111 sizeOf5 zeroValue5 Y rfl rfl rfl rfl rfl) ?_
  rintro _ _ ⟨b5, rfl, rfl⟩
  refine Ze (w_append (by_ := 1) (news := [_]) underlying111 (rfl : Tryz.prog.info? 5 = some Tryz.t5) rfl rfl rfl rfl Y hrv Y (by repeat (first | exact One.here _ _ | apply One.there)) (by repeat (first | exact Has.here _ | apply Has.there)) (by rfl) rfl (by simp [Value.oneCell']) (by decide) (by (simp only [List.length_map, padZ_len, hn]; omega)) (by (simp only [List.length_map, padZ_len, hn]; omega))) ?_
  rintro _ _ ⟨sc, hrc, rfl⟩
  obtain ⟨gc, cc, rfl⟩ := hrc.form
  refine Za Y <| Z0 <| nx_block_normal <| Zn [4, 0, 3] ?_
  refine nx_againB (e' := [(4, _)]) (m := _) (H' := _) (by exact ⟨k + 1, _, _, rfl, ⟨hk2, by rw [← padZ_step]; exact hrc⟩, rfl, rfl⟩)
 ·
  rw [List.length_map, padZ_len, hn] at hlen
  have ek := zpad_eq _ _ hk (by omega)
  subst ek
  refine at_exit <| Zt <| Zt <| nx_block_exit <| Zx <| Zq <| Zq <| Zg <| Za Y <| Z0 <| Zx <| at_block <| Zb [4, 5, 0, 3] ?_
  refine at_loopB (e0 := [(4, _), (5, _)]) (H0 := _) (n := _) (fun m e H => ∃ (j : Nat) (i : Int) (v : Value) (sv : List Chunk), m = 8 - j ∧ (j ≤ 8 ∧ i = 7 - (j : Int) ∧ Row 5 v ((padL l j).map u8v) sv) ∧ e = [(4, v), (5, .int .i64 i)] ∧ H = [sv]) (by exact ⟨0, _, _, _, rfl, ⟨Nat.zero_le _, rfl, by rw [padL_zero, hn]; exact hrv⟩, rfl, rfl⟩) (by repeat (first | exact Pull.nil _ | (apply Pull.cons; (focus (repeat (first | exact One.here _ _ | apply One.there)))))) ?_
  rintro _ _ _ ⟨j, i, v, sv, rfl, ⟨hj, hi, hrv⟩, rfl, rfl⟩
  obtain ⟨gv, cv, rfl⟩ := hrv.form
  refine Zq <| Zq <| Zg <| Zm Y <| Zv (p_geq Y Y) <| Z0 <| Zx ?_
  refine at_if Y (fun hi0 => ?_) (fun hi0 => ?_)
  ·
   obtain ⟨q, rfl⟩ := Int.eq_ofNat_of_zero_le hi0
   refine at_skip <| Zx <| Zq <| at_block <| Zg <| Zm Y <| Zm Y <| Zv (p_len_str underlying9 Y) ?_
   (refine op_v (p_mul_nat (m := 8) Y Y ?_) ?_; (focus (omega)))
   refine Zm Y ?_
   (refine op_v (p_mul_nat (m := 8) Y Y ?_) ?_; (focus (omega)))
   (refine op_v (p_shr_nat Y Y ?_) ?_; (focus (first | decide | (simp [IntKind.bits]; done) | (simp [IntKind.bits]; omega))))
   refine op_w (p_conv_int underlying3 underlying5 Y (lenByte _)) rfl rfl ?_
   refine Ze (w_buildSlice (vs := [_]) (cs := [_]) underlying111 sizeOf5 zeroValue5 Y rfl rfl rfl rfl rfl) ?_
   rintro _ _ ⟨b7, rfl, rfl⟩
   refine Ze (w_append (by_ := 1) (news := [_]) underlying111 (rfl : Tryz.prog.info? 5 = some Tryz.t5) rfl rfl rfl rfl Y hrv Y (by repeat (first | exact One.here _ _ | apply One.there)) (by repeat (first | exact Has.here _ | apply Has.there)) (by rfl) rfl (by simp [Value.oneCell']) (by decide) (by (simp only [List.length_map, padL_len l j hj, hn]; omega)) (by (simp only [List.length_map, padL_len l j hj, hn]; omega))) ?_
   rintro _ _ ⟨sd, hrd, rfl⟩
   obtain ⟨gd, cd, rfl⟩ := hrd.form
   refine Za Y <| Z0 <| Zn [0, 3, 4, 5] ?_
   refine nx_block_normal <| Zx <| Zg <| Zm Y ?_
   (refine op_v (p_sub Y Y (IntWalk.i64_in _ ?_)) ?_; (focus (omega)))
   refine Za Y <| Z0 <| Zn [4, 5, 0, 3] ?_
   refine nx_againB (e' := [(4, _), (5, _)]) (m := _) (H' := _) (by exact ⟨j + 1, _, _, _, rfl, ⟨by omega, by omega, by rw [← padL_step l j q (by omega), hn]; exact hrd⟩, rfl, rfl⟩)
  ·
   have ej : j = 8 := by omega
   subst ej
   refine at_exit <| Zt <| Zt <| nx_block_exit <| Zx <| Zq <| Zq ?_
   rw [padL_full] at hrv
   obtain ⟨M, hM⟩ : ∃ M, (padded l).length = 64 * M := ⟨(padded l).length / 64, by have := padded_mod l; omega⟩
   have hpl := padded_len l
   rw [hn] at hpl
   rw [padL_full]
   obtain ⟨g, cap, cur, z, hv, rfl, hle, hcm, hcs, htk, hfr⟩ := hrv.some (by rw [List.length_map]; omega)
   simp only [Value.slice.injEq] at hv
   obtain ⟨rfl, _, rfl⟩ := hv
   rw [List.length_map] at hle
   rw [List.length_map, hM]
   refine Zg <| Zm Y <| Zc [_, _] Y call74 Y rfl (chunk_spec _ _ _) ?_
   rintro _ _ ⟨_, ⟨bs, bn, rfl, rfl⟩, rfl⟩
   refine Z0 <| Zx <| at_block <| Zb [3, 34] ?_
   refine at_rangeAll (H0 := _) (R := _) (I := (fun pre H => H = [[(bh, .cells (v8c (blocks pre.length h0 (padded l))) 110 (0, 0))], [(g, .cells cur 5 z)], [(0, .cells (kTab.map u32v).toArray Tg zg)]])) (asg := fun x => [(6, chunkV g x), (35, chunkV g x)]) rfl Y call112 (chunk_iter g cv M bs bn (by omega) hcm) Y rfl (by repeat (first | exact Pull.nil _ | (apply Pull.cons; (focus (repeat (first | exact One.here _ _ | apply One.there)))))) (rfl) ?ha_6 ?hbd_6 ?hk_6
   case ha_6 =>
    intro _ x _ _
    refine Zg <| Za Y <| Z0 ?_
    exact nx_is
   case hbd_6 =>
    intro l pre x post u H1 R1 hxs hI
    subst hI
    obtain ⟨hx1, hx2⟩ := range_pre hxs
    subst hx1
    refine at_block <| Zg <| Zm Y <| Zc [_, _] Y call75 Y rfl (add_spec _ _ _ _ _ _ _ _ (by rw [List.length_take, List.length_drop]; omega) (bytes_chunk htk _ (by omega)) _ _ _ _) ?_
    rintro _ _ ⟨_, ⟨rfl, rfl⟩, rfl⟩
    refine Z0 <| nx_block_normal ?_
    refine nx_round (H' := _) rfl (by rw [List.length_append, List.length_singleton, blocks_snoc])
   case hk_6 =>
    intro D1 H2 hI2
    subst hI2
    refine Zn [3] ?_
    refine nx_block_normal <| Zx <| Zq <| Zg <| Zo (by repeat (first | exact Has.here _ | apply Has.there)) (p_load_agg (cs := v8c (blocks M h0 (padded l))) isAgg110 sizeOf110 Y (by first | decide | exact Nat.le_refl _ | (simp; done) | (simp; omega)) (by rw [List.length_range]; exact extract_all _ _ rfl)) ?_
    refine Zr [_] Y call76 Y rfl (digest_spec _) ?_
    rintro _ _ ⟨rfl, rfl⟩
    refine Za Y <| Z0 <| Zx <| at_ret ?_
    refine nx_endM1 rfl (res1 results31 Y) (by repeat (first | exact One.here _ _ | apply One.there)) (by exact ⟨by rw [← hl, sha_def l M hM], rfl⟩)

end Go.Proofs.YtjeepldonhgohaaGreatDoor
