/- Contracts: digest.digest, slices.Chunk at 64 bytes. Contracts: slices.Chunk at 64 bytes, digest.Sum. -/
/-
  DERIVED: THE SHELF's CONTRACTS AT THIS DUMP, IN PLAIN WORDS (tools/lay-plain.mjs out of 'TryzShelf.lean', which tools/lay-shelf.mjs wrote): THE SAME DECLARATIONS UNDER THE SAME NAMES: 'import', 'namespace', 'open', 'def', 'theorem' AND NOTHING ELSE: no command of the shelf's: FOR A HAND-IN. Each laying: the table of numbers ('.._ren') and one theorem, a field a fact of the dump's own or the kernel's comparison; each contract: ONE APPLICATION.
-/
/- Contracts: digest.marked, Chain. -/
/- Contracts: wire.groups, PutInt, PutString. Contracts: wire.PutString, Int, String. -/
import Derived.Test.YtkgmgmkbgnkdnaaGreatDoorEz
import Derived.Test.YtkgmgmkbgnkdnaaGreatDoorDg2
import Derived.Test.YtkgmgmkbgnkdnaaGreatDoorEx6
import Derived.Shelf.Strings.Builder1
import Derived.Shelf.Strings.Builder2
import Derived.Shelf.Strings.OnBuilder
import Derived.Shelf.Small.Bits
import Derived.Shelf.Small.Wraps
import Derived.Shelf.Strings.BuilderF
import Derived.Shelf.Strconv.Itoa0
import Derived.Shelf.Sort.Plain
import Derived.Ground.Names2Prog
import Derived.Shelf.Slices.ReverseS
import Derived.Shelf.Slices.SearchI
import Derived.Shelf.Slices.Cells
import Derived.Shelf.Slices.In.SortNone
import Derived.Test.YtkgmgmkbgnkdnaaGreatDoorProg

namespace Go.Proofs.YtkgmgmkbgnkdnaaGreatDoor
open Go.Proofs.Tryz
open Go Go.RowKit Gw
set_option linter.unusedVariables false
set_option linter.unusedSimpArgs false
set_option maxRecDepth 100000
attribute [local irreducible] Gw.At Gw.Nx Gw.Ops
def padB (N : Nat) (l : List UInt8) : Array Value := (l.map u8v ++ List.replicate (N - l.length) (Value.int .u8 0)).toArray
theorem padB_set (N : Nat) (l : List UInt8) (x : UInt8) (k : Nat) (hk : k = l.length) (h : l.length < N) : (padB N l).setIfInBounds k (.int .u8 (x.toNat : Int)) = padB N (l ++ [x]) := by
  subst hk
  unfold padB
  rw [List.setIfInBounds_toArray]
  congr 1
  rw [List.set_append_right _ _ (by simp)]
  simp only [List.length_map, Nat.sub_self, List.length_append, List.length_cons, List.length_nil]
  obtain ⟨n, hn⟩ : ∃ n, N - l.length = n + 1 := ⟨N - 1 - l.length, by omega⟩
  rw [hn, show N - (l.length + (0 + 1)) = n by omega]
  simp [List.replicate_succ, u8v]
theorem padB_size (N : Nat) (l : List UInt8) (h : l.length ≤ N) : (padB N l).size = N := by simp [padB]; omega
theorem padB_full (N : Nat) (l : List UInt8) (h : l.length = N) : (padB N l).toList = l.map u8v := by simp [padB, h]
def outP (v : V8) (i k : Nat) : List UInt8 := (v.list.take i).flatMap out32 ++ (out32 (v.list.getD i 0)).take k
theorem outP_len (v : V8) (i k : Nat) (hi : i < 8) (hk : k ≤ 4) : (outP v i k).length = 4 * i + k := by
  have : i = 0 ∨ i = 1 ∨ i = 2 ∨ i = 3 ∨ i = 4 ∨ i = 5 ∨ i = 6 ∨ i = 7 := by omega
  rcases this with rfl | rfl | rfl | rfl | rfl | rfl | rfl | rfl <;> simp [outP, V8.list, out32] <;> omega
theorem outP_next (v : V8) (i : Nat) (hi : i < 8) : outP v (i + 1) 0 = outP v i 4 := by
  have : i = 0 ∨ i = 1 ∨ i = 2 ∨ i = 3 ∨ i = 4 ∨ i = 5 ∨ i = 6 ∨ i = 7 := by omega
  rcases this with rfl | rfl | rfl | rfl | rfl | rfl | rfl | rfl <;> rfl
theorem outP_step (v : V8) (i k : Nat) (hk : k < 4) : outP v i (k + 1) = outP v i k ++ [((v.list.getD i 0) >>> UInt32.ofNat (24 - 8 * k)).toUInt8] := by
  have : k = 0 ∨ k = 1 ∨ k = 2 ∨ k = 3 := by omega
  unfold outP
  generalize v.list.getD i 0 = x
  rcases this with rfl | rfl | rfl | rfl
  · simp [out32]
  · simp [out32]
  · simp [out32]
  · have e : x >>> UInt32.ofNat (24 - 8 * 3) = x := by
      apply UInt32.toNat_inj.1
      simp [UInt32.toNat_shiftRight]
    rw [e]; simp [out32]
theorem outS_eq (v : V8) : outP v 8 0 = outS v := rfl
theorem v8c_get1 (y : V8) (i : Nat) (h : i < 8) : (v8c y)[i * 1]? = some (u32v (y.list.getD i 0)) := by rw [Nat.mul_one]; exact v8_get y i h

theorem digest_spec (v : V8) : DoesR Tryz.prog 165 #[.agg (v8c v)] [] (.string (str (outS v))) := by
 refine spec_enter func165 rfl ntmps165 rfl ?_
 intro u R
 refine Zb [0] ?_
 refine Zq <| Zg <| Ze (w_box Y (cs := (v8c v)) (by kernel_rfl)) ?_
 rintro _ _ ⟨b1, rfl, rfl⟩
 refine Za Y <| Z0 <| Zx <| Zq <| Zg <| Ze (w_alloc zeroValue269 (cs := (padB 32 [])) (by kernel_rfl)) ?_
 rintro _ _ ⟨bo, rfl, rfl⟩
 refine Z0 <| Zx <| Zq <| Zq <| Zg <| Zo Wh (p_load_agg (cs := v8c v) isAgg242 sizeOf242 Y (by first | omega | exact Nat.le_refl _) (by exact extract_all _ _ rfl)) ?_
 refine Zm Y <| Z0 <| Zx <| at_block <| Zb [8, 3, 7] ?_
 refine at_loopB (e0 := [(8, _)]) (H0 := _) (n := _) (fun m e H => ∃ i : Nat, m = 8 - i ∧ (i ≤ 8) ∧ e = [(8, .int .i64 (i : Int))] ∧ H = [[(bo, .cells (padB 32 (outP v i 0)) 269 (0, 0))]]) (by exact ⟨0, rfl, Nat.zero_le _, rfl, rfl⟩) Wp ?_
 rintro _ _ _ ⟨i, rfl, hi, rfl, rfl⟩
 refine Zq <| Zg <| Zv (p_lss_nat (n := 8) Y Y) <| Z0 <| Zx <| Zq ?_
 refine at_if Y (fun hc1 => ?_) (fun hc1 => ?_)
 ·
  refine at_skip <| Zx <| Zq <| at_block <| Zq <| Zg <| Zm Y <| Zv (p_index_arr underlying242 isAgg198 sizeOf198 Y Y (by first | omega | exact Nat.le_refl _) (by exact v8c_get1 v i (by omega))) ?_
  refine Za Y <| Za Y <| Z0 <| Zx <| Zq <| Zg <| Zm Y <| Z0 <| Zx <| at_block <| Zb [12, 3, 4, 5, 7, 8] ?_
  refine at_loopB (e0 := [(12, _)]) (H0 := _) (n := _) (fun m e H => ∃ k : Nat, m = 4 - k ∧ (k ≤ 4) ∧ e = [(12, .int .i64 (k : Int))] ∧ H = [[(bo, .cells (padB 32 (outP v i k)) 269 (0, 0))]]) (by exact ⟨0, rfl, Nat.zero_le _, rfl, rfl⟩) Wp ?_
  rintro _ _ _ ⟨k, rfl, hk, rfl, rfl⟩
  refine Zq <| Zg <| Zv (p_lss_nat (n := 4) Y Y) <| Z0 <| Zx <| Zq ?_
  refine at_if Y (fun hc2 => ?_) (fun hc2 => ?_)
  ·
   refine at_skip <| Zx <| Zq <| at_block <| Zq <| Zg <| Zm Y <| Za Y <| Z0 <| Zx <| Zg <| Zm Y ?_
   (refine op_v (p_mul_nat (m := 4) Y Y ?_) ?_; (focus (omega)))
   refine Zm Y <| Ya Y Y <| Zm Y <| Zm Y ?_
   (refine op_v (p_mul_nat (m := 8) Y Y ?_) ?_; (focus (omega)))
   refine Yb (m := 24) Y Y ?_
   (refine op_v (p_shr_u32 Y Y ?_) ?_; (focus (omega)))
   refine Zv (p_conv_u32_u8 underlying198 underlying5 Y) ?_
   (refine op_v (p_indexAddr_arr0 underlying269 sizeOf5 Y Y ?_) ?_; (focus (first | omega | (rw [padB_size _ _ (by rw [outP_len _ _ _ (by omega) (by omega)]; omega)]; omega))))
   refine Xe (Zs sizeOf5 Y Y rfl (hc := by exact (padB_set 32 (outP v i k) _ _ (by rw [outP_len _ _ _ (by omega) (by omega)]) (by rw [outP_len _ _ _ (by omega) (by omega)]; omega)).trans (congrArg (padB 32) (outP_step v i k (by omega)).symm)) (hi := by (rw [padB_size _ _ (by rw [outP_len _ _ _ (by omega) (by omega)]; omega)]; omega))) ?_
   refine Z0 <| Zn [3, 4, 5, 7, 8, 12] ?_
   refine nx_block_normal <| Zx <| Zg <| Ya (n := 1) Y Y <| Zm Y <| Z0 <| Zn [12, 3, 4, 5, 7, 8] ?_
   refine nx_againB (e' := [(12, _)]) (m := _) (H' := _) (by exact ⟨k + 1, rfl, by omega, rfl, rfl⟩)
  have ek : k = 4 := by omega
  subst ek
  refine at_exit <| Zt <| Zt <| nx_block_exit <| nx_block_normal <| Zx <| Zg <| Ya (n := 1) Y Y <| Zm Y <| Z0 <| Zn [8, 3, 7] ?_
  refine nx_againB (e' := [(8, _)]) (m := _) (H' := _) (by exact ⟨i + 1, rfl, by omega, rfl, by rw [outP_next v i (by omega)]⟩)
 have ei : i = 8 := by omega
 subst ei
 refine at_exit <| Zt <| Zt <| nx_block_exit <| Zx <| Zq <| Zg <| Zv (p_slice_arr_all underlying269 sizeOf5 Y) <| Zo Wh (p_conv_bytes_str underlying204 underlying5 underlying9 Y (by exact ⟨(by rw [padB_full 32 (outP v 8 0) (by rw [outS_eq]; rfl)]; exact List.take_of_length_le (by rw [List.drop_zero, List.length_map, outS_eq]; exact Nat.le_refl 32)), rfl⟩)) ?_
 refine Za Y <| Z0 <| Zx <| at_ret ?_
 refine nx_end1 rfl results165 Y (by exact ⟨rfl, rfl⟩)

def chunkV (g j : Nat) : Value := .slice (some ⟨g, 64 * j, none⟩) 64 64
theorem chunk_at (g k M : Nat) (h : k < M) : Value.slice (some ⟨g, 0 + 64 * k * 1, none⟩) (64 * k + min 64 (64 * M - 64 * k) - 64 * k) (64 * k + min 64 (64 * M - 64 * k) - 64 * k) = chunkV g k := by
  have h1 : 64 * k + min 64 (64 * M - 64 * k) - 64 * k = 64 := by omega
  have h2 : 0 + 64 * k * 1 = 64 * k := by omega
  rw [h1, h2]; rfl
theorem range_split (M k : Nat) (h : k < M) : List.range M = List.range k ++ k :: (List.range' (k + 1) (M - k - 1)) := by
  rw [List.range_eq_range', List.range_eq_range', ← List.range'_succ]
  rw [show M - k - 1 + 1 = M - k by omega]
  have := List.range'_append_1 (s := 0) (m := k) (n := M - k)
  rw [show 0 + k = k by omega, show k + (M - k) = M by omega] at this
  exact this.symm

theorem chunk_iter (g cap M : Nat) (bs bn : Nat) (hM : 64 * M ≤ cap) (hc : cap ≤ maxLen) :
    IterSpec Tryz.prog 184 #[.pointer (some ⟨bs, 0, none⟩), .pointer (some ⟨bn, 0, none⟩)] [[(bs, .cells #[.slice (some ⟨g, 0, none⟩) (64 * M) cap] 204 (0, 0))], [(bn, .cells #[.int .i64 64] 3 (0, 0))]] (fun j => #[chunkV g j]) (List.range M) := by
 have hml : maxLen = 9223372036854775807 := rfl
 intro l J hy s hJ
 refine spec_enter func184 rfl ntmps184 rfl ?_
 intro u R
 refine Zb [0, 1, 2] ?_
 refine Zq <| Zg <| Za Y <| Z0 <| Zx <| at_block <| Zb [4, 0, 1, 2] ?_
 refine at_loopB (e0 := [(4, _)]) (H0 := _) (n := _) (fun m e H => ∃ (k : Nat) (s : List Chunk), m = M - k ∧ (k ≤ M ∧ J (List.range k) s) ∧ e = [(4, .int .i64 ((64 * k : Nat) : Int))] ∧ H = [s]) (by exact ⟨0, s, rfl, ⟨Nat.zero_le _, hJ⟩, rfl, rfl⟩) Wp ?_
 rintro _ _ _ ⟨k, s, rfl, ⟨hk, hJ⟩, rfl, rfl⟩
 refine Zq <| Zq <| Zg <| Zm Y <| Zl isAgg204 Y ?_
 refine Zv (p_len_slice underlying204 Y) <| Zv (p_lss_nat Y Y) <| Z0 <| Zx ?_
 refine at_if Y (fun hc1 => ?_) (fun hc1 => ?_)
 ·
  refine at_skip <| Zx <| Zq <| at_block <| Zq <| at_draw (n := 7) (0 :: 0 :: 0 :: 6 :: 14 :: 31 :: 63 :: []) 0 (by kernel_rfl) (by kernel_rfl) rfl ?_
  refine Zj 1 0 rfl isAgg3 Y ?_
  refine Zj 3 1 rfl isAgg204 Y ?_
  refine Zi 7 2 rfl (p_move Y) ?_
  (refine lin_v (D' := 15) 3 (p_slice_slice_from underlying204 sizeOf5 Y Y ?_) ?_; (focus (omega)))
  refine Zi 31 4 rfl (p_len_slice underlying204 Y) <| Zi 63 5 rfl (p_min_nat Y Y) <| Zi 127 6 rfl (p_assign Y) <| lin_nil ?_
  refine Zx <| Zq ?_
  have hyk := hy (List.range k) k _ s (range_split M k (by omega)) hJ
  rw [← List.range_succ] at hyk
  rw [show (fun j => #[chunkV g j]) k = #[chunkV g k] from rfl, ← chunk_at g k M (by omega)] at hyk
  refine Zg <| Zm Y <| Zl isAgg204 Y ?_
  refine Zm Y <| Zm Y <| Zm Y <| Ya Y Y <| Zm Y <| Zm Y <| Ya Y Y ?_
  (refine op_v (p_slice_slice3 underlying204 sizeOf5 Y Y Y Y ?_ ?_) ?_; (focus ((simp only [Nat.min_def]; split <;> omega))); (focus (omega)))
  refine Ze (w_yield (vs := [_]) Y Y (hyk) Wp) ?_
  rintro _ _ ⟨_, ⟨s', rfl, rfl, hJ'⟩, rfl⟩
  refine Zv (p_not Y) <| Z0 <| Zn [0, 1, 2, 4, 30] ?_
  refine Zx ?_
  refine at_if_bool Y (fun hb => ?_) (fun hb => ?_)
  ·
   cases hb
  refine at_skip <| nx_block_normal <| Zx <| Zg <| Zm Y <| Zl isAgg3 Y ?_
  refine Yi Y Y <| Za Y <| Z0 <| Zn [4, 0, 1, 2] ?_
  refine nx_againB (e' := [(4, _)]) (m := _) (H' := _) (by exact ⟨k + 1, s', rfl, ⟨by omega, hJ'⟩, rfl, rfl⟩)
 have ek : k = M := by omega
 subst ek
 refine at_exit <| Zt <| Zt <| nx_block_exit ?_
 refine nx_end0 rfl results184 (by exact ⟨s, rfl, hJ⟩)

theorem chunk_spec (p : Option Addr) (n cap : Nat) : Does Tryz.prog 163 #[.slice p n cap, .int .i64 64] [] (fun r H' => ∃ bs bn, r = .func (.func 184) #[] #[.pointer (some ⟨bs, 0, none⟩), .pointer (some ⟨bn, 0, none⟩)] ∧ H' = [[(bs, .cells #[.slice p n cap] 204 (0, 0))], [(bn, .cells #[.int .i64 64] 3 (0, 0))]]) := by
 refine spec_enter func163 rfl ntmps163 rfl ?_
 intro u R
 refine Zb [0, 1] ?_
 refine Zq <| Zg <| Ze (w_box Y (cs := #[_]) rfl) ?_
 rintro _ _ ⟨b1, rfl, rfl⟩
 refine Ze (w_box Y (cs := #[_]) rfl) ?_
 rintro _ _ ⟨b2, rfl, rfl⟩
 refine Za Y <| Z0 <| Zx <| Zq <| Zq <| Zg <| Zl isAgg3 Y ?_
 refine Zv (p_lss_nat (n := 1) Y Y) <| Z0 <| Zx ?_
 refine at_if Y (fun hc1 => ?_) (fun hc1 => ?_)
 ·
  exact absurd hc1 (by decide)
 refine at_skip <| Zx <| Zq <| Zg <| Zv (p_makeFunc (vs := []) (us := [_, _]) Y Y) ?_
 refine Za Y <| Z0 <| Zx <| at_ret ?_
 refine nx_end1 rfl results163 Y (by exact ⟨b1, b2, rfl, rfl⟩)

theorem blocks_snoc : ∀ (n : Nat) (h : V8) (b : List UInt8), blocks (n + 1) h b = blockS (blocks n h b) ((b.drop (64 * n)).take 64)
  | 0, h, b => by simp [blocks]
  | n + 1, h, b => by
    rw [blocks, blocks_snoc n, blocks, List.drop_drop]
    rw [show 64 + 64 * n = 64 * (n + 1) by omega]
def padZ (l : List UInt8) (k : Nat) : List UInt8 := l ++ [128] ++ List.replicate k 0
theorem padZ_len (l : List UInt8) (k : Nat) : (padZ l k).length = l.length + 1 + k := by simp [padZ]; omega
theorem padZ_step (l : List UInt8) (k : Nat) : (padZ l k).map u8v ++ [.int .u8 0] = (padZ l (k + 1)).map u8v := by
  unfold padZ
  rw [List.replicate_succ']
  simp [u8v]
def padL (l : List UInt8) (j : Nat) : List UInt8 := padZ l (zpad l.length) ++ (lenB l.length).take j
theorem padL_zero (l : List UInt8) : padL l 0 = padZ l (zpad l.length) := by simp [padL]
theorem padL_full (l : List UInt8) : padL l 8 = padded l := by
  have : (lenB l.length).take 8 = lenB l.length := List.take_of_length_le (by simp [lenB])
  simp [padL, padZ, padded, this]
theorem lenB_get (n j : Nat) (h : j < 8) : (lenB n).take (j + 1) = (lenB n).take j ++ [UInt8.ofNat (8 * n / 2 ^ (8 * (7 - j)))] := by
  rw [List.take_succ_eq_append_getElem (by simp [lenB]; omega)]
  simp [lenB]
theorem padL_step (l : List UInt8) (j q : Nat) (h : q + j = 7) : (padL l j).map u8v ++ [.int .u8 ((UInt8.ofNat (8 * l.length / 2 ^ (8 * q))).toNat : Int)] = (padL l (j + 1)).map u8v := by
  unfold padL
  rw [lenB_get _ _ (by omega), show 7 - j = q by omega]
  simp [u8v]
theorem padL_len (l : List UInt8) (j : Nat) (h : j ≤ 8) : (padL l j).length = l.length + 1 + zpad l.length + j := by
  have : (lenB l.length).length = 8 := by simp [lenB]
  simp [padL, padZ_len, this]; omega
theorem lenByte (m : Nat) : IntKind.u8.wrap (m : Int) = ((UInt8.ofNat m).toNat : Int) := by
  rw [IntKind.wrap_u8', UInt8.toNat_ofNat']; omega
theorem zpad_lt (n k : Nat) (hk : k ≤ zpad n) (h : (n + 1 + k) % 64 ≠ 56) : k < zpad n := by
  have := zpad_ok n
  rcases Nat.lt_or_ge k (zpad n) with h1 | h1
  · exact h1
  · have : k = zpad n := by omega
    subst this; contradiction
theorem zpad_eq (n k : Nat) (hk : k ≤ zpad n) (h : (n + 1 + k) % 64 = 56) : k = zpad n := by
  unfold zpad at hk ⊢; omega
theorem range_pre {M x : Nat} {pre post : List Nat} (h : List.range M = pre ++ x :: post) : x = pre.length ∧ x < M := by
  have h1 : (List.range M)[pre.length]? = some x := by rw [h]; simp
  have hlt : pre.length < M := by
    have := (List.getElem?_eq_some_iff.1 h1).1
    simpa using this
  rw [List.getElem?_range hlt] at h1
  have := Option.some.inj h1
  omega
theorem bytes_chunk {cur : Array Value} {p : List UInt8} (h : cur.toList.take (p.map u8v).length = p.map u8v) (k : Nat) (hk : 64 * k + 64 ≤ p.length) : BytesIn cur (64 * k) ((p.drop (64 * k)).take 64) := by
  unfold BytesIn
  have hl : ((p.drop (64 * k)).take 64).length = 64 := by simp; omega
  rw [hl, List.map_take, List.map_drop, ← h]
  rw [List.drop_take, List.take_take]
  congr 1
  simp; omega
theorem sha_def (l : List UInt8) (M : Nat) (h : (padded l).length = 64 * M) : sha l = outS (blocks M h0 (padded l)) := by
  unfold sha
  rw [h, Nat.mul_div_cancel_left _ (by omega)]

theorem sum_spec (s : ByteArray) (hs : s.size ≤ 140737488355000) (Tg : TypeId) (zg : Nat × Nat) :
    DoesR Tryz.prog 138 #[.string s] [[(1, .cells (kTab.map u32v).toArray Tg zg)]] (.string (str (sha s.data.toList))) := by
 have hml : maxLen = 9223372036854775807 := rfl
 obtain ⟨l, hl⟩ : ∃ l, l = s.data.toList := ⟨_, rfl⟩
 have hn : l.length = s.size := by rw [hl]; rfl
 have hz : zpad s.size < 64 := by unfold zpad; omega
 refine spec_enterM func138 rfl ntmps138 rfl ?_
 intro u R
 refine Zb [0] ?_
 refine Zq <| Zg <| Za Y <| Z0 <| Zx <| Zq <| Zg <| Zv (p_build (vs := [(0, _), (1, _), (2, _), (3, _), (4, _), (5, _), (6, _), (7, _)]) (cs := #[_, _, _, _, _, _, _, _]) Y (run_build_array zeroValue242 underlying242 sizeOf198 rfl)) ?_
 refine Ze (w_alloc zeroValue242 (cs := #[_, _, _, _, _, _, _, _]) rfl) ?_
 rintro _ _ ⟨bh, rfl, rfl⟩
 refine Xe (w_store_agg sizeOf242 Y Y (by exact v8_ones h0) Wu (by exact (rfl : _ = v8c (blocks 0 h0 (padded l)))) (by first | rfl | (simp; done)) Wn (by exact free_zero _)) ?_
 refine Z0 <| Zx <| Zq <| Zg <| Zm Y <| Ze (w_bytes underlying9 underlying204 underlying5 Y (by omega)) ?_
 rintro _ _ ⟨sa, hra, rfl⟩
 obtain ⟨ga, ca, rfl⟩ := hra.form
 refine Ze (w_buildSlice (vs := [_]) (cs := [_]) underlying204 sizeOf5 zeroValue5 Y rfl rfl rfl rfl rfl) ?_
 rintro _ _ ⟨b3, rfl, rfl⟩
 refine Ze (w_append (by_ := 1) (news := [_]) underlying204 (rfl : Tryz.prog.info? 5 = some Tryz.t5) rfl rfl rfl rfl Y hra Y Wo Wh (by rfl) rfl (by simp [Value.oneCell']) (by decide) (by (simp only [List.length_map, ← hl, hn]; omega)) (by (simp only [List.length_map, ← hl, hn]; omega))) ?_
 rintro _ _ ⟨sb, hrb, rfl⟩
 obtain ⟨gb, cb, rfl⟩ := hrb.form
 refine Za Y <| Z0 <| Zx <| Zq <| at_block ?_
 have hr0 : Row 5 (.slice gb (List.map u8v s.data.toList ++ [Value.int IntKind.u8 128]).length cb) ((padZ l 0).map u8v) sb := by
   have e : (padZ l 0).map u8v = List.map u8v s.data.toList ++ [Value.int IntKind.u8 128] := by rw [← hl]; simp [padZ, u8v]
   rw [e]; exact hrb
 refine Zb [4, 0, 3] ?_
 refine at_loopB (e0 := [(4, _)]) (H0 := _) (n := _) (fun m e H => ∃ (k : Nat) (v : Value) (sv : List Chunk), m = zpad s.size - k ∧ (k ≤ zpad s.size ∧ Row 5 v ((padZ l k).map u8v) sv) ∧ e = [(4, v)] ∧ H = [sv]) (by exact ⟨0, _, _, rfl, ⟨Nat.zero_le _, hr0⟩, rfl, rfl⟩) Wp ?_
 rintro _ _ _ ⟨k, v, sv, rfl, ⟨hk, hrv⟩, rfl, rfl⟩
 obtain ⟨gv, cv, rfl⟩ := hrv.form
 refine Zq <| Zq <| Zg <| Zm Y <| Zv (p_len_slice underlying204 Y) ?_
 (refine op_v (p_rem_nat (n := 64) Y Y ?_) ?_; (focus (omega)))
 refine Zv (p_neq_nat (n := 56) Y Y) <| Z0 <| Zx ?_
 refine at_if Y (fun hlen => ?_) (fun hlen => ?_)
 ·
  rw [List.length_map, padZ_len, hn] at hlen
  have hk2 := zpad_lt _ _ hk hlen
  refine at_skip <| Zx <| at_block <| Zg <| Zm Y <| Ze (w_buildSlice (vs := [_]) (cs := [_]) underlying204 sizeOf5 zeroValue5 Y rfl rfl rfl rfl rfl) ?_
  rintro _ _ ⟨b5, rfl, rfl⟩
  refine Ze (w_append (by_ := 1) (news := [_]) underlying204 (rfl : Tryz.prog.info? 5 = some Tryz.t5) rfl rfl rfl rfl Y hrv Y Wo Wh (by rfl) rfl (by simp [Value.oneCell']) (by decide) (by (simp only [List.length_map, padZ_len, hn]; omega)) (by (simp only [List.length_map, padZ_len, hn]; omega))) ?_
  rintro _ _ ⟨sc, hrc, rfl⟩
  obtain ⟨gc, cc, rfl⟩ := hrc.form
  refine Za Y <| Z0 <| nx_block_normal <| Zn [4, 0, 3] ?_
  refine nx_againB (e' := [(4, _)]) (m := _) (H' := _) (by exact ⟨k + 1, _, _, rfl, ⟨hk2, by rw [← padZ_step]; exact hrc⟩, rfl, rfl⟩)
 rw [List.length_map, padZ_len, hn] at hlen
 have ek := zpad_eq _ _ hk (by omega)
 subst ek
 refine at_exit <| Zt <| Zt <| nx_block_exit <| Zx <| Zq <| Zq <| Zg <| Za Y <| Z0 <| Zx <| at_block <| Zb [4, 5, 0, 3] ?_
 refine at_loopB (e0 := [(4, _), (5, _)]) (H0 := _) (n := _) (fun m e H => ∃ (j : Nat) (i : Int) (v : Value) (sv : List Chunk), m = 8 - j ∧ (j ≤ 8 ∧ i = 7 - (j : Int) ∧ Row 5 v ((padL l j).map u8v) sv) ∧ e = [(4, v), (5, .int .i64 i)] ∧ H = [sv]) (by exact ⟨0, _, _, _, rfl, ⟨Nat.zero_le _, rfl, by rw [padL_zero, hn]; exact hrv⟩, rfl, rfl⟩) Wp ?_
 rintro _ _ _ ⟨j, i, v, sv, rfl, ⟨hj, hi, hrv⟩, rfl, rfl⟩
 obtain ⟨gv, cv, rfl⟩ := hrv.form
 refine Zq <| Zq <| Zg <| Zm Y <| Zv (p_geq Y Y) <| Z0 <| Zx ?_
 refine at_if Y (fun hi0 => ?_) (fun hi0 => ?_)
 ·
  obtain ⟨q, rfl⟩ := Int.eq_ofNat_of_zero_le hi0
  refine at_skip <| Zx <| Zq <| at_block <| Zg <| Zm Y <| Zm Y <| Zv (p_len_str underlying9 Y) ?_
  (refine op_v (p_mul_nat (m := 8) Y Y ?_) ?_; (focus (omega)))
  refine Zm Y ?_
  (refine op_v (p_mul_nat (m := 8) Y Y ?_) ?_; (focus (omega)))
  (refine op_v (p_shr_nat Y Y ?_) ?_; (focus (first | decide | (simp [IntKind.bits]; done) | (simp [IntKind.bits]; omega))))
  refine op_w (p_conv_int underlying3 underlying5 Y (lenByte _)) rfl rfl ?_
  refine Ze (w_buildSlice (vs := [_]) (cs := [_]) underlying204 sizeOf5 zeroValue5 Y rfl rfl rfl rfl rfl) ?_
  rintro _ _ ⟨b7, rfl, rfl⟩
  refine Ze (w_append (by_ := 1) (news := [_]) underlying204 (rfl : Tryz.prog.info? 5 = some Tryz.t5) rfl rfl rfl rfl Y hrv Y Wo Wh (by rfl) rfl (by simp [Value.oneCell']) (by decide) (by (simp only [List.length_map, padL_len l j hj, hn]; omega)) (by (simp only [List.length_map, padL_len l j hj, hn]; omega))) ?_
  rintro _ _ ⟨sd, hrd, rfl⟩
  obtain ⟨gd, cd, rfl⟩ := hrd.form
  refine Za Y <| Z0 <| Zn [0, 3, 4, 5] ?_
  refine nx_block_normal <| Zx <| Zg <| Zm Y ?_
  (refine op_v (p_sub Y Y (IntWalk.i64_in _ ?_)) ?_; (focus (omega)))
  refine Za Y <| Z0 <| Zn [4, 5, 0, 3] ?_
  refine nx_againB (e' := [(4, _), (5, _)]) (m := _) (H' := _) (by exact ⟨j + 1, _, _, _, rfl, ⟨by omega, by omega, by rw [← padL_step l j q (by omega), hn]; exact hrd⟩, rfl, rfl⟩)
 have ej : j = 8 := by omega
 subst ej
 refine at_exit <| Zt <| Zt <| nx_block_exit <| Zx <| Zq <| Zq ?_
 rw [padL_full] at hrv
 obtain ⟨M, hM⟩ : ∃ M, (padded l).length = 64 * M := ⟨(padded l).length / 64, by have := padded_mod l; omega⟩
 have hpl := padded_len l
 rw [hn] at hpl
 rw [padL_full]
 obtain ⟨g, cap, cur, z, hv, rfl, hle, hcm, hcs, htk, hfr⟩ := hrv.some (by rw [List.length_map]; omega)
 simp only [Value.slice.injEq] at hv
 obtain ⟨rfl, _, rfl⟩ := hv
 rw [List.length_map] at hle
 rw [List.length_map, hM]
 refine Zg <| Zm Y <| Zc [_, _] Y call163 Y rfl (chunk_spec _ _ _) ?_
 rintro _ _ ⟨_, ⟨bs, bn, rfl, rfl⟩, rfl⟩
 refine Z0 <| Zx <| at_block <| Zb [3, 34] ?_
 refine at_rangeAll (H0 := _) (R := _) (I := (fun pre H => H = [[(bh, .cells (v8c (blocks pre.length h0 (padded l))) 242 (0, 0))], [(g, .cells cur 5 z)], [(1, .cells (kTab.map u32v).toArray Tg zg)]])) (asg := fun x => [(6, chunkV g x), (35, chunkV g x)]) rfl Y call184 (chunk_iter g cv M bs bn (by omega) hcm) Y rfl Wp (rfl) ?ha_6 ?hbd_6 ?hk_6
 case ha_6 =>
  intro _ x _ _
  refine Zg <| Za Y <| Z0 ?_
  exact nx_is
 case hbd_6 =>
  intro l pre x post u H1 R1 hxs hI
  subst hI
  obtain ⟨hx1, hx2⟩ := range_pre hxs
  subst hx1
  refine at_block <| Zg <| Zm Y <| Zc [_, _] Y call164 Y rfl (add_spec _ _ _ _ _ _ _ _ (by rw [List.length_take, List.length_drop]; omega) (bytes_chunk htk _ (by omega)) _ _ _ _) ?_
  rintro _ _ ⟨_, ⟨rfl, rfl⟩, rfl⟩
  refine Z0 <| nx_block_normal ?_
  refine nx_round (H' := _) rfl (by rw [List.length_append, List.length_singleton, blocks_snoc])
 intro D1 H2 hI2
 subst hI2
 refine Zn [3] ?_
 refine nx_block_normal <| Zx <| Zq <| Zg <| Zo Wh (p_load_agg (cs := v8c (blocks M h0 (padded l))) isAgg242 sizeOf242 Y Wn (by rw [List.length_range]; exact extract_all _ _ rfl)) ?_
 refine Xr [_] Y call165 Y rfl (digest_spec _) ?_
 refine Za Y <| Z0 <| Zx <| at_ret ?_
 refine nx_endM1 rfl (res1 results138 Y) Wo (by exact ⟨by rw [← hl, sha_def l M hM], rfl⟩)

end Go.Proofs.YtkgmgmkbgnkdnaaGreatDoor


namespace Go.Proofs
open Go.Shelf
def Tryz.lays156_ren : Go.Shelf.Ren := ⟨fun | 156 => 183 | 165 => 193 | 166 => 194 | 169 => 195 | 240 => 200 | 241 => 201 | 276 => 203 | 277 => 204 | n => n, fun | 31 => 61 | 9 => 9 | 3 => 3 | 4 => 4 | 0 => 0 | 20 => 20 | 72 => 276 | 76 => 278 | 70 => 274 | 37 => 204 | 75 => 143 | 127 => 283 | 164 => 285 | 5 => 5 | 80 => 247 | n => n, fun | n => n⟩
theorem Tryz.lays156 : Go.Proofs.Lays.n156 Tryz.prog Tryz.lays156_ren := {
  mixed := by kernel_rfl
  f156 := func183.trans (congrArg some (by kernel_rfl))
  f165 := func193.trans (congrArg some (by kernel_rfl))
  f166 := func194.trans (congrArg some (by kernel_rfl))
  f169 := func195.trans (congrArg some (by kernel_rfl))
  f240 := func200.trans (congrArg some (by kernel_rfl))
  f241 := func201.trans (congrArg some (by kernel_rfl))
  f276 := func203.trans (congrArg some (by kernel_rfl))
  f277 := func204.trans (congrArg some (by kernel_rfl))
  t0 := underlying0
  a0 := isAgg0
  z0 := sizeOf0
  v0 := zeroValue0
  t3 := underlying3
  a3 := isAgg3
  z3 := sizeOf3
  v3 := zeroValue3
  t4 := underlying4
  a4 := isAgg4
  z4 := sizeOf4
  v4 := zeroValue4
  t9 := underlying9
  a9 := isAgg9
  z9 := sizeOf9
  v9 := zeroValue9
  t20 := underlying20
  a20 := isAgg20
  z20 := sizeOf20
  v20 := zeroValue20
  t31 := underlying61
  a31 := isAgg61
  z31 := sizeOf61
  v31 := zeroValue61
  t37 := underlying204
  a37 := isAgg204
  z37 := sizeOf204
  v37 := zeroValue204
  t70 := underlying274
  a70 := isAgg274
  z70 := sizeOf274
  v70 := zeroValue274
  t72 := underlying276
  a72 := isAgg276
  z72 := sizeOf276
  v72 := zeroValue276
  t75 := underlying143
  a75 := isAgg143
  z75 := sizeOf143
  v75 := zeroValue143
  t76 := underlying278
  a76 := isAgg278
  z76 := sizeOf278
  v76 := zeroValue278
  t127 := underlying283
  a127 := isAgg283
  z127 := sizeOf283
  v127 := zeroValue283
  t164 := underlying285
  a164 := isAgg285
  z164 := sizeOf285
  v164 := zeroValue285 }
theorem Tryz.Builder_Extra_156 : Builder.Extra Tryz.prog Tryz.lays156_ren := {
  sizeBuilder := by kernel_rfl
  liesBuilder := by kernel_rfl
  t5 := underlying5
  a5 := isAgg5
  z5 := sizeOf5
  v5 := zeroValue5
  infoByte := by kernel_rfl
  cellsByte := by kernel_rfl
  sizeByte := by kernel_rfl
  neB5 := by decide }
open Go.RowKit in
theorem Tryz.strings_Join (bk o c : Nat) (xs : List ByteArray) (sep : ByteArray) (w : World) (hcells : ∀ (j : Nat) x, xs[j]? = some x → w.cell? ⟨bk, o + j, none⟩ = some (.string x)) (hbk : bk < w.heap.size) (hN : xs.length ≤ 140737488355328) (hcap : xs.length ≤ c) (hlen : (Lib.join (xs.map (·.data.toList)) sep.data.toList).length ≤ 140737488355328) :
    Calls Tryz.prog 183 #[.slice (some ⟨bk, o, none⟩) xs.length c, .string sep] w fun e w' => e = .returned (.string ⟨(Lib.join (xs.map (·.data.toList)) sep.data.toList).toArray⟩) ∧ Below w.heap.size w w' := Any.strings_Join Tryz.lays156 Tryz.Builder_Extra_156 bk o c xs sep w hcells hbk hN hcap hlen
def Tryz.lays125_ren : Go.Shelf.Ren := ⟨fun | 125 => 93 | 128 => 128 | 129 => 129 | n => n, fun | 46 => 162 | 3 => 3 | 51 => 198 | 53 => 200 | 4 => 4 | 5 => 5 | 9 => 9 | n => n, fun | n => n⟩
theorem Tryz.lays125 : Go.Proofs.Lays.n125 Tryz.prog Tryz.lays125_ren := {
  mixed := by kernel_rfl
  f125 := func93.trans (congrArg some (by kernel_rfl))
  f128 := func128.trans (congrArg some (by kernel_rfl))
  f129 := func129.trans (congrArg some (by kernel_rfl))
  t3 := underlying3
  a3 := isAgg3
  z3 := sizeOf3
  v3 := zeroValue3
  t4 := underlying4
  a4 := isAgg4
  z4 := sizeOf4
  v4 := zeroValue4
  t5 := underlying5
  a5 := isAgg5
  z5 := sizeOf5
  v5 := zeroValue5
  t9 := underlying9
  a9 := isAgg9
  z9 := sizeOf9
  v9 := zeroValue9
  t46 := underlying162
  a46 := isAgg162
  z46 := sizeOf162
  v46 := zeroValue162
  t51 := underlying198
  a51 := isAgg198
  z51 := sizeOf198
  v51 := zeroValue198
  t53 := underlying200
  a53 := isAgg200
  z53 := sizeOf200
  v53 := zeroValue200 }
theorem Tryz.bits_Len (x : Int) (w : World) (h0 : 0 ≤ x) (h1 : x ≤ 18446744073709551615) :
    Calls Tryz.prog 93 #[.int .u64 x] w fun e w' => e = .returned (.int .i64 (Lib.bitLen x.toNat)) ∧ w' = w := Any.bits_Len Tryz.lays125 x w h0 h1
def Tryz.lays122_ren : Go.Shelf.Ren := ⟨fun | 122 => 107 | 215 => 141 | n => n, fun | 3 => 3 | 4 => 4 | n => n, fun | n => n⟩
theorem Tryz.lays122 : Go.Proofs.Lays.n122 Tryz.prog Tryz.lays122_ren := {
  mixed := by kernel_rfl
  f122 := func107.trans (congrArg some (by kernel_rfl))
  f215 := func141.trans (congrArg some (by kernel_rfl))
  t3 := underlying3
  a3 := isAgg3
  z3 := sizeOf3
  v3 := zeroValue3
  t4 := underlying4
  a4 := isAgg4
  z4 := sizeOf4
  v4 := zeroValue4 }
open Go.RowKit in
theorem Tryz.cmp_Compare_int (x y : Int) (w : World) :
    Calls Tryz.prog 107 #[.int .i64 x, .int .i64 y] w fun e w' => e = .returned (.int .i64 (Lib.compareInt x y)) ∧ w' = w := Any.cmp_Compare_int Tryz.lays122 x y w
def Tryz.lays190_ren : Go.Shelf.Ren := ⟨fun | 190 => 44 | 125 => 93 | 258 => 92 | 128 => 128 | 129 => 129 | 302 => 119 | 303 => 120 | 304 => 121 | 305 => 122 | 306 => 123 | 307 => 124 | 308 => 125 | 309 => 126 | 310 => 127 | 333 => 153 | 329 => 154 | 330 => 155 | 334 => 156 | 335 => 157 | 336 => 158 | 344 => 180 | n => n, fun | 31 => 61 | 9 => 9 | 3 => 3 | 46 => 162 | 0 => 0 | 51 => 198 | 53 => 200 | 4 => 4 | 183 => 191 | 182 => 190 | 131 => 47 | 5 => 5 | 218 => 230 | 222 => 234 | 228 => 258 | 229 => 259 | n => n, fun | n => n⟩
theorem Tryz.lays190 : Go.Proofs.Lays.n190 Tryz.prog Tryz.lays190_ren := {
  mixed := by kernel_rfl
  f125 := func93.trans (congrArg some (by kernel_rfl))
  f128 := func128.trans (congrArg some (by kernel_rfl))
  f129 := func129.trans (congrArg some (by kernel_rfl))
  f190 := func44.trans (congrArg some (by kernel_rfl))
  f258 := func92.trans (congrArg some (by kernel_rfl))
  f302 := func119.trans (congrArg some (by kernel_rfl))
  f303 := func120.trans (congrArg some (by kernel_rfl))
  f304 := func121.trans (congrArg some (by kernel_rfl))
  f305 := func122.trans (congrArg some (by kernel_rfl))
  f306 := func123.trans (congrArg some (by kernel_rfl))
  f307 := func124.trans (congrArg some (by kernel_rfl))
  f308 := func125.trans (congrArg some (by kernel_rfl))
  f309 := func126.trans (congrArg some (by kernel_rfl))
  f310 := func127.trans (congrArg some (by kernel_rfl))
  f329 := func154.trans (congrArg some (by kernel_rfl))
  f330 := func155.trans (congrArg some (by kernel_rfl))
  f333 := func153.trans (congrArg some (by kernel_rfl))
  f334 := func156.trans (congrArg some (by kernel_rfl))
  f335 := func157.trans (congrArg some (by kernel_rfl))
  f336 := func158.trans (congrArg some (by kernel_rfl))
  f344 := func180.trans (congrArg some (by kernel_rfl))
  t0 := underlying0
  a0 := isAgg0
  z0 := sizeOf0
  v0 := zeroValue0
  t3 := underlying3
  a3 := isAgg3
  z3 := sizeOf3
  v3 := zeroValue3
  t4 := underlying4
  a4 := isAgg4
  z4 := sizeOf4
  v4 := zeroValue4
  t5 := underlying5
  a5 := isAgg5
  z5 := sizeOf5
  v5 := zeroValue5
  t9 := underlying9
  a9 := isAgg9
  z9 := sizeOf9
  v9 := zeroValue9
  t31 := underlying61
  a31 := isAgg61
  z31 := sizeOf61
  v31 := zeroValue61
  t46 := underlying162
  a46 := isAgg162
  z46 := sizeOf162
  v46 := zeroValue162
  t51 := underlying198
  a51 := isAgg198
  z51 := sizeOf198
  v51 := zeroValue198
  t53 := underlying200
  a53 := isAgg200
  z53 := sizeOf200
  v53 := zeroValue200
  t131 := underlying47
  a131 := isAgg47
  z131 := sizeOf47
  v131 := zeroValue47
  t182 := underlying190
  a182 := isAgg190
  z182 := sizeOf190
  v182 := zeroValue190
  t183 := underlying191
  a183 := isAgg191
  z183 := sizeOf191
  v183 := zeroValue191
  t218 := underlying230
  a218 := isAgg230
  z218 := sizeOf230
  v218 := zeroValue230
  t222 := underlying234
  a222 := isAgg234
  z222 := sizeOf234
  v222 := zeroValue234
  t228 := underlying258
  a228 := isAgg258
  z228 := sizeOf258
  v228 := zeroValue258
  t229 := underlying259
  a229 := isAgg259
  z229 := sizeOf259
  v229 := zeroValue259 }
open Go.Sort Go.RowKit in
theorem Tryz.slices_Sort_string (blk off cap : Nat) (ss : List (List UInt8)) (w : World) (hH : Holds encStr w blk off ss.toArray) (hblk : blk < w.heap.size) (hsz : ss.length < 4611686018427387904) :
    Calls Tryz.prog 44 #[.slice (some ⟨blk, off, none⟩) ss.length cap] w fun e w' =>
      e = .returned (.tuple #[]) ∧ ∃ n os, w' = grow (putRow encStr (Sort.ahead w n) blk off (ss.mergeSort fun x y => decide (x ≤ y)).toArray) os := Any.slices_Sort_string Tryz.lays190 blk off cap ss w hH hblk hsz
def Tryz.laysNm217_ren : Go.Shelf.Ren := ⟨fun | 17 => 103 | n => n, fun | 24 => 61 | 9 => 9 | 3 => 3 | 4 => 4 | 0 => 0 | n => n, fun | n => n⟩
theorem Tryz.laysNm217 : Go.Proofs.Lays2.n17 Tryz.prog Tryz.laysNm217_ren := {
  mixed := by kernel_rfl
  f17 := func103.trans (congrArg some (by kernel_rfl))
  t0 := underlying0
  a0 := isAgg0
  z0 := sizeOf0
  v0 := zeroValue0
  t3 := underlying3
  a3 := isAgg3
  z3 := sizeOf3
  v3 := zeroValue3
  t4 := underlying4
  a4 := isAgg4
  z4 := sizeOf4
  v4 := zeroValue4
  t9 := underlying9
  a9 := isAgg9
  z9 := sizeOf9
  v9 := zeroValue9
  t24 := underlying61
  a24 := isAgg61
  z24 := sizeOf61
  v24 := zeroValue61 }
open Go.RowKit Go.Lib Go.Sort in
theorem Tryz.slices_Reverse_string (blk off cap : Nat) (zs : List (List UInt8)) (w : World) (hH : Holds encStr w blk off zs.toArray) (hsz : zs.length ≤ 9223372036854775807) :
    Calls Tryz.prog 103 #[.slice (some ⟨blk, off, none⟩) zs.length cap] w fun e w' => e = .returned (.tuple #[]) ∧ ∃ n, w' = putRow encStr (Sort.ahead w n) blk off zs.reverse.toArray := Any.slices_Reverse_string Tryz.laysNm217 blk off cap zs w hH hsz
open Go.RowKit Go.Lib Go.Sort in
theorem Tryz.slices_Reverse_string_empty (a : Option Addr) (cap : Nat) (w : World) :
    Calls Tryz.prog 103 #[.slice a 0 cap] w fun e w' => e = .returned (.tuple #[]) ∧ w' = w := Any.slices_Reverse_string_empty Tryz.laysNm217 a cap w
open Go.RowKit Go.Sort in
theorem Tryz.slices_Sort_string_none (p : Option Addr) (cap : Nat) (w : World) :
    Calls Tryz.prog 44 #[.slice p 0 cap] w fun e w' => e = .returned (.tuple #[]) ∧ w' = w := Any.slices_Sort_string_none Tryz.lays190 p cap w
end Go.Proofs


namespace Go.Proofs.YtkgmgmkbgnkdnaaGreatDoor
open Go.Proofs.Tryz
open Go Go.RowKit Gw
set_option linter.unusedVariables false
set_option linter.unusedSimpArgs false
set_option maxRecDepth 100000
attribute [local irreducible] Gw.At Gw.Nx Gw.Ops
def strV (l : List UInt8) : Value := .string (str l)
theorem str_app (a b : List UInt8) : str a ++ str b = str (a ++ b) := by
  apply ByteArray.ext
  simp [str]
theorem str_size (a : List UInt8) : (str a).size = a.length := by simp [str, ByteArray.size]
theorem str_list (a : List UInt8) : (str a).data.toList = a := by simp [str]
theorem join_nil (xs : List (List UInt8)) : Lib.join xs [] = xs.flatten := by
  unfold Lib.join
  induction xs with
  | nil => rfl
  | cons x r ih => cases r with
    | nil => simp
    | cons y r => rw [List.intercalate_cons_cons] ; rw [ih]; simp
theorem cell_in {w : World} {b o : Nat} {c : Array Value} {T : TypeId} {z : Nat × Nat} {cs : List Value} (hb : w.heap[b]? = some (.cells c T z)) (h : CellsIn c o cs) (j : Nat) (v : Value) (hj : cs[j]? = some v) : w.cell? ⟨b, o + j, none⟩ = some v := by
  have := cells_at hb h j v hj
  rcases Nat.eq_zero_or_pos j with rfl | h0
  · simpa [Addr.add] using this
  · simpa [Addr.add, Nat.ne_of_gt h0] using this
theorem join_spec (bk o cap : Nat) (cs : Array Value) (T : TypeId) (z : Nat × Nat) (xs : List (List UInt8)) (hc : CellsIn cs o (xs.map strV)) (hN : xs.length ≤ 140737488355328) (hcap : xs.length ≤ cap) (hlen : xs.flatten.length ≤ 140737488355328) :
    DoesR Tryz.prog 183 #[.slice (some ⟨bk, o, none⟩) xs.length cap, .string (str [])] [[(bk, .cells cs T z)]] (.string (str xs.flatten)) :=
  spec_below (Rl := fun v => v = .string (str xs.flatten)) (fun w hw => by
    have hb := hw (bk, .cells cs T z) (by simp)
    have h := Tryz.strings_Join bk o cap (xs.map str) (str []) w (fun j x hx => by
      refine cell_in hb hc j _ ?_
      rw [List.getElem?_map] at hx ⊢
      cases h1 : xs[j]? with
      | none => rw [h1] at hx; cases hx
      | some y => rw [h1] at hx; cases hx; rfl) (by
        rcases Nat.lt_or_ge bk w.heap.size with h1 | h1
        · exact h1
        · rw [Array.getElem?_eq_none h1] at hb; cases hb) (by simpa using hN) (by simpa using hcap) (by
        rw [List.map_map]
        have : (xs.map ((fun s : ByteArray => s.data.toList) ∘ str)) = xs := by simp [str, Function.comp_def]
        rw [this, str_list, join_nil]; exact hlen)
    rw [List.length_map] at h
    refine h.mono ?_
    rintro e w' ⟨rfl, hbw⟩
    refine ⟨_, rfl, ?_, hbw⟩
    rw [List.map_map]
    have : (xs.map ((fun s : ByteArray => s.data.toList) ∘ str)) = xs := by simp [str, Function.comp_def]
    rw [this, str_list, join_nil]; rfl) (fun v hv => ⟨hv, rfl⟩)
theorem sum_str (l : List UInt8) (hs : l.length ≤ 140737488355000) (Tg : TypeId) (zg : Nat × Nat) : DoesR Tryz.prog 138 #[.string (str l)] [[(1, .cells (kTab.map u32v).toArray Tg zg)]] (.string (str (sha l))) := by
  have := sum_spec (str l) (by rw [str_size]; exact hs) Tg zg
  rw [str_list] at this; exact this

theorem marked_in_spec (bk o cap bm : Nat) (cs : Array Value) (T Tm : TypeId) (z zm : Nat × Nat) (xs : List (List UInt8)) (m : List UInt8) (hc : CellsIn cs o (xs.map strV)) (hN : xs.length ≤ 140737488355328) (hcap : xs.length ≤ cap) (hlen : m.length + xs.flatten.length ≤ 140737488355000) (Tg : TypeId) (zg : Nat × Nat) :
    DoesR Tryz.prog 182 #[.slice (some ⟨bk, o, none⟩) xs.length cap, .pointer (some ⟨bm, 0, none⟩)] [[(bk, .cells cs T z)], [(bm, .cells #[strV m] Tm zm)], [(1, .cells (kTab.map u32v).toArray Tg zg)]] (.string (str (sha (m ++ xs.flatten)))) := by
 refine spec_enter func182 rfl ntmps182 rfl ?_
 intro u R
 unfold strV
 refine Zb [0, 1] ?_
 refine Zq <| Zg <| Za Y <| Z0 <| Zx <| Zq <| at_draw (n := 6) (0 :: 0 :: 2 :: 7 :: 15 :: 31 :: []) 20 (by kernel_rfl) (by kernel_rfl) rfl ?_
 refine Zj 1 0 rfl isAgg9 Y ?_
 refine Zi 3 1 rfl (p_move Y) <| Zz (l := [2]) ?_
 refine Zy 2 7 [0] [true] [(0, (_, _))] rfl Y rfl rfl rfl rfl (Zu [_, _] Y call183 Y rfl (join_spec bk o cap cs T z xs hc hN hcap (by omega))) ?hk_1 (fun _ _ h => h.elim) ?hl_1
 case hk_1 =>
  rintro _ _ ⟨rfl, rfl⟩
  refine ⟨Zk (keep_nil), ?_⟩
  (refine lin_v (D' := 15) 3 (p_add_str Y Y ?_) ?_; (focus (rw [str_size, str_size]; omega)))
  refine Yz 4 15 31 [0] [false] [] rfl Y rfl rfl rfl rfl (Zu [_] Y call138 Y rfl ((str_app m xs.flatten) ▸ sum_str (m ++ xs.flatten) (by rw [List.length_append]; omega) Tg zg)) ?_
  rintro _ _ ⟨rfl, rfl⟩
  refine ⟨keep_nil, ?_⟩
  refine Zi 63 5 rfl (p_assign Y) <| lin_nil ?_
  refine Zx <| at_ret ?_
  refine nx_end1 rfl results182 Y (by exact ⟨rfl, rfl⟩)
 exact each_nil

theorem marked_spec (m : ByteArray) : Does Tryz.prog 162 #[.string m] [] (fun r H' => ∃ b, r = .func (.func 182) #[] #[.pointer (some ⟨b, 0, none⟩)] ∧ H' = [[(b, .cells #[.string m] 9 (0, 0))]]) := by
 refine spec_enter func162 rfl ntmps162 rfl ?_
 intro u R
 refine Zb [0] ?_
 refine Zq <| Zg <| Ze (w_box Y (cs := #[_]) rfl) ?_
 rintro _ _ ⟨b1, rfl, rfl⟩
 refine Za Y <| Z0 <| Zx <| Zq <| Zg <| Zv (p_makeFunc (vs := []) (us := [_]) Y Y) ?_
 refine Za Y <| Z0 <| Zx <| at_ret ?_
 refine nx_end1 rfl results162 Y (by exact ⟨_, rfl, rfl⟩)

end Go.Proofs.YtkgmgmkbgnkdnaaGreatDoor

namespace Go.Proofs.YtkgmgmkbgnkdnaaGreatDoor
open Go.Proofs.Tryz
open Go Go.RowKit Gw
set_option linter.unusedVariables false
set_option linter.unusedSimpArgs false
set_option maxRecDepth 100000
attribute [local irreducible] Gw.At Gw.Nx Gw.Ops
def grps (z : Nat) : List (Nat × Bool) := if h : z < 128 then [(z, true)] else (z % 128, false) :: grps (z / 128)
termination_by z
decreasing_by omega
theorem grps_eq (z : Nat) : grps z = (z % 128, decide (z < 128)) :: (if z < 128 then [] else grps (z / 128)) := by
  rw [grps]
  by_cases h : z < 128
  · simp [h, Nat.mod_eq_of_lt h]
  · simp [h]
theorem grps_lt (z : Nat) : ∀ x ∈ grps z, x.1 < 128 := by
  induction z using Nat.strongRecOn with
  | _ z ih =>
    intro x hx
    rw [grps_eq] at hx
    rcases List.mem_cons.1 hx with rfl | hx
    · exact Nat.mod_lt _ (by decide)
    · by_cases h : z < 128
      · rw [if_pos h] at hx; cases hx
      · rw [if_neg h] at hx; exact ih (z / 128) (by omega) x hx
theorem grps_len (z k : Nat) (h : z < 128 ^ (k + 1)) : (grps z).length ≤ k + 1 := by
  induction k generalizing z with
  | zero => rw [grps_eq, if_pos (by simpa using h)]; simp
  | succ k ih =>
    rw [grps_eq]
    by_cases h1 : z < 128
    · rw [if_pos h1]; simp
    · rw [if_neg h1, List.length_cons]
      have : z / 128 < 128 ^ (k + 1) := by
        rw [Nat.pow_succ] at h
        exact Nat.div_lt_of_lt_mul (by rw [Nat.mul_comm]; exact h)
      have := ih _ this
      omega
def gb (x : Nat × Bool) : UInt8 := UInt8.ofNat (if x.2 then x.1 else x.1 + 128)
theorem gb_val (x : Nat × Bool) (h : x.1 < 128) : u8v (gb x) = .int .u8 ((if x.2 then x.1 else x.1 + 128 : Nat) : Int) := by
  unfold u8v gb
  rw [UInt8.toNat_ofNat', Nat.mod_eq_of_lt (by split <;> omega)]
def zz (n : Int) : Nat := (if n < 0 then -(2 * n) - 1 else 2 * n).toNat
def encI (n : Int) : List UInt8 := (grps (zz n)).map gb
theorem zz_lt (n : Int) (h1 : -4611686018427387903 ≤ n) (h2 : n ≤ 4611686018427387903) : zz n < 9223372036854775808 := by unfold zz; split <;> omega
theorem encI_pos (n : Int) : 0 < (encI n).length := by unfold encI; rw [grps_eq]; simp
theorem encI_len (n : Int) (h1 : -4611686018427387903 ≤ n) (h2 : n ≤ 4611686018427387903) : (encI n).length ≤ 9 := by
  unfold encI
  rw [List.length_map]
  exact grps_len (zz n) 8 (by have := zz_lt n h1 h2; omega)
theorem and127 (y : Nat) (h : y < 18446744073709551616) : bits .and .u64 (y : Int) 127 = ((y % 128 : Nat) : Int) := by
  have := u64_and_nat y 127 h (by decide)
  rw [nat_mask7] at this; exact this
theorem or128 (g : Nat) (h : g < 128) : bits .or .u8 (g : Int) 128 = ((g + 128 : Nat) : Int) := by
  have := u8_or_nat g 128 (by omega) (by decide)
  rw [Nat.or_comm, nat_join 7 128 g (by decide) h, Nat.add_comm] at this; exact this
theorem xor_ones (a : Nat) (h : a < 18446744073709551616) : a ^^^ 18446744073709551615 = 18446744073709551615 - a := by
  have h1 : BitVec.ofNat 64 a ^^^ BitVec.allOnes 64 = ~~~ BitVec.ofNat 64 a := BitVec.xor_allOnes
  have h2 := congrArg BitVec.toNat h1
  rw [BitVec.toNat_xor, BitVec.toNat_not, BitVec.toNat_ofNat, Nat.mod_eq_of_lt h] at h2
  exact h2
theorem zz_xor (n : Int) (h1 : -4611686018427387903 ≤ n) (h2 : n ≤ 4611686018427387903) : bits .xor .u64 (IntKind.u64.wrap (IntKind.u64.wrap n * 2 ^ (1 : Int).toNat)) (IntKind.u64.wrap (n / 2 ^ (63 : Int).toNat)) = (zz n : Int) := by
  rw [IntKind.wrap_u64, IntKind.wrap_u64, IntKind.wrap_u64]
  rw [show (2 : Int) ^ (1 : Int).toNat = 2 from rfl, show (2 : Int) ^ (63 : Int).toNat = 9223372036854775808 from rfl]
  by_cases h : n < 0
  · obtain ⟨m, hm⟩ : ∃ m : Nat, n = -(m : Int) := ⟨n.natAbs, by omega⟩
    have e1 : n % 18446744073709551616 * 2 % 18446744073709551616 = ((18446744073709551616 - 2 * m : Nat) : Int) := by omega
    have e2 : n / 9223372036854775808 % 18446744073709551616 = ((18446744073709551615 : Nat) : Int) := by omega
    rw [e1, e2, u64_xor_nat _ _ (by omega) (by omega), xor_ones _ (by omega)]
    unfold zz; rw [if_pos h]; omega
  · obtain ⟨m, hm⟩ : ∃ m : Nat, n = (m : Int) := ⟨n.natAbs, by omega⟩
    have e1 : n % 18446744073709551616 * 2 % 18446744073709551616 = ((2 * m : Nat) : Int) := by omega
    have e2 : n / 9223372036854775808 % 18446744073709551616 = ((0 : Nat) : Int) := by omega
    rw [e1, e2, u64_xor_nat _ _ (by omega) (by omega), Nat.xor_zero]
    unfold zz; rw [if_neg h]; omega
theorem at_nil {P : Program} {cx : Cx} {c : Code} {Q : Exit → Act → World → Prop} {env : Env} {H : Hp} (h : At P cx c Q env ([] :: H)) : At P cx c Q env H := at_flat (H' := [] :: H) rfl h
theorem mem_split {α : Type} {l pre post : List α} {x : α} (h : l = pre ++ x :: post) : x ∈ l := by rw [h]; simp

theorem groups_iter (bz z : Nat) (hz : z < 18446744073709551616) :
    IterSpec Tryz.prog 161 #[.pointer (some ⟨bz, 0, none⟩)] [[(bz, .cells #[.int .u64 (z : Int)] 200 (0, 0))]] (fun x => #[.int .u8 (x.1 : Int), .bool x.2]) (grps z) := by
 intro l J hy s hJ
 refine spec_enter func161 rfl ntmps161 rfl ?_
 intro u R
 refine Zb [0, 1] ?_
 refine at_block <| Zb [0, 1] ?_
 refine at_loopB (e0 := []) (H0 := _) (n := _) (fun m e H => ∃ (pre : List (Nat × Bool)) (y : Nat) (s : List Chunk), m = 0 + y ∧ (grps z = pre ++ grps y ∧ y < 18446744073709551616 ∧ J pre s) ∧ e = [] ∧ H = [[(bz, .cells #[.int .u64 (y : Int)] 200 (0, 0))], s]) (by exact ⟨[], z, s, rfl, ⟨rfl, hz, hJ⟩, rfl, rfl⟩) Wp ?_
 rintro _ _ _ ⟨pre, y, s, rfl, ⟨hsp, hy64, hJ⟩, rfl, rfl⟩
 refine at_block <| Zq <| Zg <| Zl isAgg200 Y ?_
 refine Zv (p_lss_nat (n := 128) Y Y) <| Za Y <| Z0 <| Zx <| Zq <| Zq ?_
 have hyk := hy pre (y % 128, decide (y < 128)) (if y < 128 then [] else grps (y / 128)) s (by rw [hsp, ← grps_eq]) hJ
 refine Zg <| Zm Y <| Zl isAgg200 Y ?_
 refine op_w (p_and (m := (y : Int)) (n := 127) Y Y (and127 y hy64)) rfl rfl ?_
 (refine op_v (p_conv_nat_u8 underlying200 underlying5 Y ?_) ?_; (focus (omega)))
 refine Zm Y <| Ze (w_yield (vs := [_, _]) Y Y (hyk) Wp) ?_
 rintro _ _ ⟨_, ⟨s', rfl, rfl, hJ'⟩, rfl⟩
 refine Zv (p_not Y) <| Zm Y ?_
 refine ops_split_bool (t := 13) Y rfl (fun hb => ?_) (fun hb => ?_)
 ·
  cases hb
 refine Zf Y Y <| Zv (p_pick_f Y Y) <| Z0 <| Zn [0, 1, 15] ?_
 refine Zx ?_
 refine at_if Y (fun hl => ?_) (fun hl => ?_)
 ·
  refine at_ret <| Zt <| nx_block_ret <| Zt <| nx_block_ret ?_
  refine nx_end0 rfl results161 (by
        exact ⟨s', rfl, by
          have e : grps z = pre ++ [(y % 128, decide (y < 128))] := by rw [hsp, grps_eq y, if_pos hl]
          rw [e]; exact hJ'⟩)
 refine at_skip <| Zx <| Zg <| Zl isAgg200 Y ?_
 (refine op_v (p_shr_nat (n := 7) Y Y ?_) ?_; (focus (first | decide | (simp [IntKind.bits]; done) | (simp [IntKind.bits]; omega))))
 refine Xe (Zs sizeOf200 Y Y rfl) ?_
 refine Z0 <| nx_block_normal <| Zn [0, 1] ?_
 refine nx_againB (e' := []) (m := _) (H' := _) (by exact ⟨pre ++ [(y % 128, decide (y < 128))], y / 2 ^ 7, s', rfl, ⟨by rw [hsp, grps_eq y, if_neg hl]; simp, by omega, hJ'⟩, rfl, rfl⟩)

theorem groups_spec (z : Int) : Does Tryz.prog 135 #[.int .u64 z] [] (fun r H' => ∃ b, r = .func (.func 161) #[] #[.pointer (some ⟨b, 0, none⟩)] ∧ H' = [[(b, .cells #[.int .u64 z] 200 (0, 0))]]) := by
 refine spec_enter func135 rfl ntmps135 rfl ?_
 intro u R
 refine Zb [0] ?_
 refine Zq <| Zg <| Ze (w_box Y (cs := #[_]) rfl) ?_
 rintro _ _ ⟨b1, rfl, rfl⟩
 refine Za Y <| Z0 <| Zx <| Zq <| Zg <| Zv (p_makeFunc (vs := []) (us := [_]) Y Y) ?_
 refine Za Y <| Z0 <| Zx <| at_ret ?_
 refine nx_end1 rfl results135 Y (by exact ⟨_, rfl, rfl⟩)

theorem putInt_spec (n : Int) (h1 : -4611686018427387903 ≤ n) (h2 : n ≤ 4611686018427387903) : DoesR Tryz.prog 100 #[.int .i64 n] [] (.tuple #[.string (str (encI n)), .int .i64 0]) := by
 have hml : maxLen = 9223372036854775807 := rfl
 have hzl := zz_lt n h1 h2
 have hgl := encI_len n h1 h2
 unfold encI at hgl
 rw [List.length_map] at hgl
 refine spec_enterM func100 rfl ntmps100 rfl ?_
 intro u R
 refine Zb [0] ?_
 refine Zq <| Zg <| Za Y <| Za Y <| Z0 <| Zx <| Zq <| Zq <| Zg <| Zm Y <| Zv (p_lss Y Y) <| Zm Y ?_
 refine ops_split (t := 9) Y rfl (fun hc1 => ?_) (fun hc1 => ?_)
 ·
  exfalso; omega
 refine Zf Y Y <| Yg (p_gtr Y Y) <| Zv (p_pick_f Y Y) <| Z0 <| Zx ?_
 refine at_if Y (fun hc2 => ?_) (fun hc2 => ?_)
 ·
  exfalso; omega
 refine at_skip <| Zx <| Zq <| Zg <| Ze (w_alloc zeroValue204 (cs := #[_]) rfl) ?_
 rintro _ _ ⟨bo, rfl, rfl⟩
 refine Z0 <| Zx <| Zq <| Zq <| Zg <| Zm Y <| Zv (p_conv_int underlying3 underlying200 Y rfl) ?_
 (refine op_v (p_shl Y Y ?_ ?_ rfl) ?_; (focus (first | decide | omega | (simp [IntKind.bits]; done) | (simp [IntKind.bits]; omega))); (focus (first | decide | omega | (simp [IntKind.bits]; done) | (simp [IntKind.bits]; omega))))
 refine Zm Y ?_
 (refine op_v (p_shr Y Y ?_ ?_ rfl) ?_; (focus (first | decide | omega | (simp [IntKind.bits]; done) | (simp [IntKind.bits]; omega))); (focus (first | decide | omega | (simp [IntKind.bits]; done) | (simp [IntKind.bits]; omega))))
 refine Zv (p_conv_int underlying3 underlying200 Y rfl) <| op_w (p_xor Y Y (zz_xor n h1 h2)) rfl rfl ?_
 refine Zc [_] Y call135 Y rfl (groups_spec _) ?_
 rintro _ _ ⟨_, ⟨bz, rfl, rfl⟩, rfl⟩
 refine Z0 <| Zn [4, 20] ?_
 refine Zx <| at_block <| Zb [4, 20] ?_
 refine at_nil ?_
 refine at_rangeAll (H0 := _) (R := _) (I := (fun pre H => ∃ v s, H = [[(bo, .cells #[v] 204 (0, 0))], s] ∧ Row 5 v ((pre.map gb).map u8v) s)) (asg := fun x => [(6, .bool x.2), (5, .int .u8 (x.1 : Int)), (22, .bool x.2), (21, .int .u8 (x.1 : Int))]) rfl Y call161 (groups_iter bz (zz n) (by omega)) Y rfl Wp (⟨_, [], rfl, row_nil _⟩) ?ha_2 ?hbd_2 ?hk_2
 case ha_2 =>
  intro _ x _ _
  refine Zq <| Zg <| Za Y <| Z0 <| Zx <| Zg <| Za Y <| Z0 ?_
  exact nx_is
 case hbd_2 =>
  intro l pre x post u H1 R1 hxs hI
  obtain ⟨v, s, rfl, hr⟩ := hI
  have hx1 := grps_lt _ x (mem_split hxs)
  have hgv := gb_val x hx1
  have hpl := congrArg List.length hxs
  rw [List.length_append, List.length_cons] at hpl
  obtain ⟨gv, cv, rfl⟩ := hr.form
  refine at_block <| Zq <| Zq <| Zg <| Zm Y <| Zv (p_not Y) <| Z0 <| Zx ?_
  refine at_if_bool Y (fun hc5 => ?_) (fun hc5 => ?_)
  ·
   have hxb : x.2 = false := by simpa using hc5
   refine Zg <| Zm Y <| op_w (p_or (m := (x.1 : Int)) (n := 128) Y Y (or128 x.1 hx1)) rfl rfl ?_
   refine Za Y <| Z0 <| Zx <| Zg <| Zl isAgg204 Y ?_
   refine Zm Y <| Ze (w_buildSlice (vs := [_]) (cs := [_]) underlying204 sizeOf5 zeroValue5 Y rfl rfl rfl rfl rfl) ?_
   rintro _ _ ⟨b2, rfl, rfl⟩
   refine Ze (w_append (by_ := 1) (news := [_]) underlying204 (rfl : Tryz.prog.info? 5 = some Tryz.t5) rfl rfl rfl rfl Y hr Y Wo Wh (by rfl) rfl (by simp [Value.oneCell']) (by decide) (by (simp only [List.length_map]; omega)) (by (simp only [List.length_map]; omega))) ?_
   rintro _ _ ⟨sb, hrb, rfl⟩
   obtain ⟨gb, cb, rfl⟩ := hrb.form
   refine Xe (Zs sizeOf204 Y Y rfl) ?_
   refine Z0 <| nx_block_normal ?_
   refine nx_round (H' := _) rfl (by
         exact ⟨_, _, rfl, by
           rw [List.map_append, List.map_append, List.map_singleton, List.map_singleton, hgv, hxb]; exact hrb⟩)
  have hxb : x.2 = true := by simpa using hc5
  refine at_skip <| Zx <| Zg <| Zl isAgg204 Y ?_
  refine Zm Y <| Ze (w_buildSlice (vs := [_]) (cs := [_]) underlying204 sizeOf5 zeroValue5 Y rfl rfl rfl rfl rfl) ?_
  rintro _ _ ⟨b4, rfl, rfl⟩
  refine Ze (w_append (by_ := 1) (news := [_]) underlying204 (rfl : Tryz.prog.info? 5 = some Tryz.t5) rfl rfl rfl rfl Y hr Y Wo Wh (by rfl) rfl (by simp [Value.oneCell']) (by decide) (by (simp only [List.length_map]; omega)) (by (simp only [List.length_map]; omega))) ?_
  rintro _ _ ⟨sb, hrb, rfl⟩
  obtain ⟨gb, cb, rfl⟩ := hrb.form
  refine Xe (Zs sizeOf204 Y Y rfl) ?_
  refine Z0 <| nx_block_normal ?_
  refine nx_round (H' := _) rfl (by
        exact ⟨_, _, rfl, by
          rw [List.map_append, List.map_append, List.map_singleton, List.map_singleton, hgv, hxb]; exact hrb⟩)
 intro D1 H2 hI2
 obtain ⟨v, s, rfl, hr⟩ := hI2
 have hep := encI_pos n
 unfold encI at hep
 obtain ⟨gv, cv, cur, zv, rfl, rfl, hle, hcm, hcs, htk, hfr⟩ := hr.some (by rw [List.length_map]; exact hep)
 refine Zn [4] ?_
 refine nx_block_normal <| Zx <| Zq <| Zg <| Zl isAgg204 Y ?_
 refine Zo Wh (p_conv_bytes_str underlying204 underlying5 underlying9 Y (by exact ⟨htk, by simp⟩)) ?_
 refine Za Y <| Za Y <| Z0 <| Zx <| at_ret ?_
 refine nx_endM1 rfl (res2 results100 Y Y) Wo (by exact ⟨rfl, rfl⟩)

end Go.Proofs.YtkgmgmkbgnkdnaaGreatDoor
