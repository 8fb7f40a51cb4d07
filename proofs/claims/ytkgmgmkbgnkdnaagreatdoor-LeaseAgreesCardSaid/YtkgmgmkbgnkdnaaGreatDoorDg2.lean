/- Contracts: bits.RotateLeft32 at the counts of the program, digest.mixed, digest.schedule. -/
/- Contracts: digest.add, digest.digest. -/
import Derived.Test.YtkgmgmkbgnkdnaaGreatDoorEz
import Derived.Test.YtkgmgmkbgnkdnaaGreatDoorEx4
import Derived.Test.YtkgmgmkbgnkdnaaGreatDoorEx5
import Derived.Test.YtkgmgmkbgnkdnaaGreatDoorSha
import Derived.Test.YtkgmgmkbgnkdnaaGreatDoorBits
import Derived.Test.YtkgmgmkbgnkdnaaGreatDoorProg
import Derived.Laws.Bits64
import Derived.WalkKit

namespace Go.Proofs.YtkgmgmkbgnkdnaaGreatDoor
open Go.Proofs.Tryz
open Go Go.RowKit Gw
set_option linter.unusedVariables false
set_option linter.unusedSimpArgs false
set_option maxRecDepth 100000
attribute [local irreducible] Gw.At Gw.Nx Gw.Ops
theorem rot_lemma (x : UInt32) (n m : Nat) (h0 : 0 < n) (h1 : n < 32) (hm : n + m = 32) : (x <<< UInt32.ofNat m) ||| (x >>> UInt32.ofNat n) = rotr x (UInt32.ofNat n) := by
  unfold rotr
  have : (32 : UInt32) - UInt32.ofNat n = UInt32.ofNat m := by
    apply UInt32.toNat_inj.1
    rw [UInt32.toNat_sub, UInt32.toNat_ofNat', UInt32.toNat_ofNat']
    simp only [UInt32.reduceToNat]
    omega
  rw [this]
theorem rot_and (n m : Nat) (h0 : 0 < n) (h1 : n < 32) (hm : n + m = 32) : bits .and .u64 (IntKind.u64.wrap (-(n : Int))) 31 = (m : Int) := by
  have h : IntKind.u64.wrap (-(n : Int)) = ((18446744073709551616 - n : Nat) : Int) := by rw [IntKind.wrap_u64]; omega
  have h31 : (31 : Int) = ((31 : Nat) : Int) := rfl
  rw [h, h31, u64_and_nat _ _ (by omega) (by omega), nat_mask5]
  omega

theorem rotl_spec (x : UInt32) (n : Nat) (h0 : 0 < n) (h1 : n < 32) : DoesR Tryz.prog 196 #[.int .u32 x.toNat, .int .i64 (-(n : Int))] [] (.int .u32 (rotr x (UInt32.ofNat n)).toNat) := by
 refine spec_enter func196 rfl ntmps196 rfl ?_
 intro u R
 obtain ⟨m, hm⟩ : ∃ m, n + m = 32 := ⟨32 - n, by omega⟩
 refine Zb [0, 1] ?_
 refine Zq <| Zg <| Za Y <| Z0 <| Zx <| Zq <| Zg <| Zm Y <| op_w (p_conv_int underlying3 underlying162 Y rfl) rfl rfl ?_
 refine op_w (p_and Y Y (rot_and n m h0 h1 hm)) rfl rfl ?_
 refine Za Y <| Z0 <| Zx <| Zq <| Zg <| Zm Y <| Zm Y ?_
 (refine op_v (p_shl_u32 Y Y ?_) ?_; (focus (omega)))
 refine Zm Y <| Zm Y ?_
 (refine op_v (p_sub_nat_u64 (m := 32) Y Y ?_ ?_) ?_; (focus (omega)); (focus (omega)))
 (refine op_v (p_shr_u32 Y Y ?_) ?_; (focus (omega)))
 refine Zv (p_or_u32 Y Y) <| Za Y <| Z0 <| Zn [4] ?_
 refine Zx <| at_ret ?_
 refine nx_end1 rfl results196 Y (by
       have e : 32 - m = n := by omega
       exact ⟨by rw [e, rot_lemma x n m h0 h1 hm], rfl⟩)

theorem mix_snoc (x : UInt32) (l : List UInt32) (n : UInt32) : mixL x (l ++ [n]) = mixL x l ^^^ rotr x n := by simp [mixL]
def natv (n : Nat) : Value := .int .i64 (n : Int)
theorem take_step {α β : Type} (f : α → β) (l : List α) (k : Nat) (d : α) (h : k < l.length) : (l.take (k + 1)).map f = (l.take k).map f ++ [f (l.getD k d)] := by
  rw [List.take_succ_eq_append_getElem h, List.map_append]; simp [List.getD_eq_getElem?_getD, List.getElem?_eq_getElem h]
theorem get_map {α : Type} (f : α → Value) (l : List α) (k : Nat) (d : α) (h : k < l.length) : (l.map f).toArray[k]? = some (f (l.getD k d)) := by
  simp [List.getElem?_eq_getElem h, List.getD_eq_getElem?_getD]

theorem mix_spec (x : UInt32) (l : List Nat) (g cap : Nat) (T : TypeId) (z : Nat × Nat) (hl : ∀ n ∈ l, 0 < n ∧ n < 32) (hn : l.length ≤ 100) :
    DoesR Tryz.prog 186 #[.int .u32 x.toNat, .slice (some ⟨g, 0, none⟩) l.length cap] [[(g, .cells (l.map natv).toArray T z)]] (.int .u32 (mixL x (l.map UInt32.ofNat)).toNat) := by
 refine spec_enter func186 rfl ntmps186 rfl ?_
 intro u R
 refine Zb [0, 1] ?_
 refine Zq <| Zg <| Za Y <| Z0 <| Zx <| Zq <| Zg <| Za Y <| Z0 <| Zx <| Zq <| Zq <| Zg <| Zm Y <| Zv (p_len_slice underlying28 Y) <| Zm Y <| Z0 <| Zx <| at_block <| Zb [5, 10, 0, 8, 9] ?_
 refine at_loopB (e0 := [(5, _), (10, _)]) (H0 := _) (n := _) (fun m e H => ∃ k : Nat, m = l.length - k ∧ (k ≤ l.length) ∧ e = [(5, .int .u32 ((mixL x ((l.take k).map UInt32.ofNat)).toNat : Int)), (10, .int .i64 (k : Int))] ∧ H = []) (by exact ⟨0, rfl, Nat.zero_le _, rfl, rfl⟩) Wp ?_
 rintro _ _ _ ⟨k, rfl, hk, rfl, rfl⟩
 refine Zq <| Zg <| Zv (p_lss_nat Y Y) <| Z0 <| Zx <| Zq ?_
 refine at_if Y (fun hc1 => ?_) (fun hc1 => ?_)
 ·
  refine at_skip <| Zx <| Zq <| at_block <| Zq <| Zg ?_
  (refine op_v (p_indexAddr_nat0 underlying28 sizeOf3 Y Y ?_) ?_; (focus (omega)))
  refine Zl isAgg3 Y (hv := by exact get_map natv l k 0 (by omega)) ?_
  refine Za Y <| Z0 <| Zx ?_
  have hlk := hl (l.getD k 0) (by rw [List.getD_eq_getElem?_getD, List.getElem?_eq_getElem (by omega)]; exact List.getElem_mem _)
  refine Zg <| Zm Y <| Zm Y <| Zm Y <| op_w (p_neg (c := -(l.getD k 0 : Int)) Y (by rw [Int.zero_sub]; exact IntWalk.i64_in _ (by omega))) rfl rfl ?_
  refine Xr [_, _] Y call196 Y rfl (rotl_spec _ _ hlk.1 hlk.2) ?_
  refine Zv (p_xor_u32 Y Y) <| Za Y <| Z0 <| nx_block_normal <| Zx <| Zg <| Ya (n := 1) Y Y <| Zm Y <| Z0 <| Zn [5, 10, 0, 8, 9] ?_
  refine nx_againB (e' := [(5, _), (10, _)]) (m := _) (H' := _) (by exact ⟨k + 1, rfl, by omega, by rw [take_step _ _ _ 0 (by omega), mix_snoc], rfl⟩)
 refine at_exit <| Zt <| Zt <| nx_block_exit <| Zx <| Zq <| Zg <| Zm Y <| Za Y <| Z0 <| Zx <| at_ret ?_
 refine nx_end1 rfl results186 Y (by
       have e : k = l.length := by omega
       exact ⟨by rw [e, List.take_length], rfl⟩)

def wCells (l : List UInt32) : List Value := l.map u32v ++ List.replicate (64 - l.length) (.int .u32 0)
theorem wCells_len (l : List UInt32) (h : l.length ≤ 64) : (wCells l).length = 64 := by simp [wCells]; omega
theorem wCells_get (l : List UInt32) (i : Nat) (h : i < l.length) : (wCells l).toArray[i]? = some (u32v (l.getD i 0)) := by
  simp [wCells, List.getElem?_append, h, List.getD_eq_getElem?_getD]
theorem wCells_set (l : List UInt32) (x : UInt32) (h : l.length < 64) : (wCells l).toArray.setIfInBounds l.length (u32v x) = (wCells (l ++ [x])).toArray := by
  rw [List.setIfInBounds_toArray]
  congr 1
  unfold wCells
  rw [List.set_append_right _ _ (by simp)]
  simp only [List.length_map, Nat.sub_self, List.length_append, List.length_cons, List.length_nil]
  obtain ⟨n, hn⟩ : ∃ n, 64 - l.length = n + 1 := ⟨63 - l.length, by omega⟩
  rw [hn, show 64 - (l.length + (0 + 1)) = n by omega]
  simp [List.replicate_succ]
theorem wCells_step (b : List UInt8) (k : Nat) (x : UInt32) (h : k < 64) (hx : words b (k + 1) = words b k ++ [x]) : (wCells (words b k)).toArray.setIfInBounds k (.int .u32 (x.toNat : Int)) = (wCells (words b (k + 1))).toArray := by
  have := wCells_set (words b k) x (by rw [words_len]; exact h)
  rw [words_len] at this
  rw [hx]; exact this
theorem wCells_one (l : List UInt32) : ∀ v ∈ (wCells l).toArray.toList, v.oneCell' = true := by
  intro v hv
  simp only [wCells, List.mem_append, List.mem_map, List.mem_replicate] at hv
  rcases hv with ⟨x, _, rfl⟩ | ⟨_, rfl⟩ <;> rfl
theorem wCells_full (l : List UInt32) (h : l.length = 64) : wCells l = l.map u32v := by simp [wCells, h]
theorem words_lo (b : List UInt8) (k : Nat) (h : k < 16) : words b (k + 1) = words b k ++ [word16 b k] := by rw [words, if_pos h]
theorem words_hi (b : List UInt8) (k : Nat) (h : 16 ≤ k) : words b (k + 1) = words b k ++ [nextW (words b k) k] := by rw [words, if_neg (by omega)]
def BytesIn (c : Array Value) (o : Nat) (bs : List UInt8) : Prop := (c.toList.drop o).take bs.length = bs.map u8v
theorem BytesIn.get {c : Array Value} {o : Nat} {bs : List UInt8} (h : BytesIn c o bs) (j : Nat) (hj : j < bs.length) : c[o + j]? = some (u8v (bs.getD j 0)) := by
  have h1 : ((c.toList.drop o).take bs.length)[j]? = (bs.map u8v)[j]? := by rw [h]
  rw [List.getElem?_take, if_pos hj, List.getElem?_drop, List.getElem?_map, List.getElem?_eq_getElem hj] at h1
  rw [Array.getElem?_toList] at h1
  rw [h1]
  simp [List.getD_eq_getElem?_getD, List.getElem?_eq_getElem hj]
theorem words_getv (b : List UInt8) (k i : Nat) (h : i < k) : (wCells (words b k)).toArray[i]? = some (u32v ((words b k).getD i 0)) := wCells_get _ _ (by rw [words_len]; exact h)

theorem sched_spec (g o cap : Nat) (c : Array Value) (T : TypeId) (z : Nat × Nat) (bs : List UInt8) (hb : bs.length = 64) (hc : BytesIn c o bs) :
    DoesR Tryz.prog 185 #[.slice (some ⟨g, o, none⟩) 64 cap] [[(g, .cells c T z)]] (.agg ((sched bs).map u32v).toArray) := by
 refine spec_enter func185 rfl ntmps185 rfl ?_
 intro u R
 refine Zb [0] ?_
 refine Zq <| Zg <| Ze (w_alloc zeroValue265 (cs := (wCells []).toArray) (by kernel_rfl)) ?_
 rintro _ _ ⟨bw, rfl, rfl⟩
 refine Z0 <| Zx <| Zq <| Zq <| Zg <| Zm Y <| Z0 <| Zx <| at_block <| Zb [7, 0, 2] ?_
 refine at_loopB (e0 := [(7, _)]) (H0 := _) (n := _) (fun m e H => ∃ k : Nat, m = 16 - k ∧ (k ≤ 16) ∧ e = [(7, .int .i64 (k : Int))] ∧ H = [[(bw, .cells (wCells (words bs k)).toArray 265 (0, 0))]]) (by exact ⟨0, rfl, Nat.zero_le _, rfl, rfl⟩) Wp ?_
 rintro _ _ _ ⟨k, rfl, hk, rfl, rfl⟩
 refine Zq <| Zg <| Zv (p_lss_nat (n := 16) Y Y) <| Z0 <| Zx <| Zq ?_
 refine at_if Y (fun hc1 => ?_) (fun hc1 => ?_)
 ·
  refine at_skip <| Zx <| Zq <| at_block <| Zq <| Zg <| Zm Y <| Za Y <| Z0 <| Zx <| at_draw (n := 36) (0 :: 0 :: 0 :: 4 :: 14 :: 30 :: 62 :: 126 :: 0 :: 0 :: 512 :: 1536 :: 3840 :: 7936 :: 16128 :: 32512 :: 65534 :: 0 :: 0 :: 262144 :: 786432 :: 1966080 :: 4063232 :: 8257536 :: 16646144 :: 33554430 :: 0 :: 0 :: 134217728 :: 402653184 :: 1006632960 :: 2080374784 :: 4227858432 :: 8589934590 :: 17179869183 :: 34359738367 :: []) 34359738368 (by kernel_rfl) (by kernel_rfl) rfl ?_
  refine Zi 1 0 rfl (p_move Y) <| Zi 3 1 rfl (p_move Y) <| Zi 7 2 rfl (p_move Y) ?_
  (refine lin_v (D' := 15) 3 (p_mul_nat (m := 4) Y Y ?_) ?_; (focus (omega)))
  (refine lin_v (D' := 31) 4 (p_indexAddr_nat1 underlying204 sizeOf5 Y Y ?_) ?_; (focus (first | omega | (rw [List.size_toArray, wCells_len _ (by rw [words_len]; omega)]; omega))))
  refine Zj 63 5 rfl isAgg5 Y (hv := by exact hc.get _ (by omega)) ?_
  refine Zi 127 6 rfl (p_conv_u8_u32 underlying5 underlying198 Y) ?_
  (refine lin_v (D' := 255) 7 (p_shl_u32 (n := 24) Y Y ?_) ?_; (focus (omega)))
  refine Zi 511 8 rfl (p_move Y) <| Zi 1023 9 rfl (p_move Y) ?_
  (refine lin_v (D' := 2047) 10 (p_mul_nat (m := 4) Y Y ?_) ?_; (focus (omega)))
  (refine lin_v (D' := 4095) 11 (p_add_nat (n := 1) Y Y ?_) ?_; (focus (omega)))
  (refine lin_v (D' := 8191) 12 (p_indexAddr_nat1 underlying204 sizeOf5 Y Y ?_) ?_; (focus (first | omega | (rw [List.size_toArray, wCells_len _ (by rw [words_len]; omega)]; omega))))
  refine Zj 16383 13 rfl isAgg5 Y (hv := by exact hc.get _ (by omega)) ?_
  refine Zi 32767 14 rfl (p_conv_u8_u32 underlying5 underlying198 Y) ?_
  (refine lin_v (D' := 65535) 15 (p_shl_u32 (n := 16) Y Y ?_) ?_; (focus (omega)))
  refine Zi 131071 16 rfl (p_or_u32 Y Y) <| Zi 262143 17 rfl (p_move Y) <| Zi 524287 18 rfl (p_move Y) ?_
  (refine lin_v (D' := 1048575) 19 (p_mul_nat (m := 4) Y Y ?_) ?_; (focus (omega)))
  (refine lin_v (D' := 2097151) 20 (p_add_nat (n := 2) Y Y ?_) ?_; (focus (omega)))
  (refine lin_v (D' := 4194303) 21 (p_indexAddr_nat1 underlying204 sizeOf5 Y Y ?_) ?_; (focus (first | omega | (rw [List.size_toArray, wCells_len _ (by rw [words_len]; omega)]; omega))))
  refine Zj 8388607 22 rfl isAgg5 Y (hv := by exact hc.get _ (by omega)) ?_
  refine Zi 16777215 23 rfl (p_conv_u8_u32 underlying5 underlying198 Y) ?_
  (refine lin_v (D' := 33554431) 24 (p_shl_u32 (n := 8) Y Y ?_) ?_; (focus (omega)))
  refine Zi 67108863 25 rfl (p_or_u32 Y Y) <| Zi 134217727 26 rfl (p_move Y) <| Zi 268435455 27 rfl (p_move Y) ?_
  (refine lin_v (D' := 536870911) 28 (p_mul_nat (m := 4) Y Y ?_) ?_; (focus (omega)))
  (refine lin_v (D' := 1073741823) 29 (p_add_nat (n := 3) Y Y ?_) ?_; (focus (omega)))
  (refine lin_v (D' := 2147483647) 30 (p_indexAddr_nat1 underlying204 sizeOf5 Y Y ?_) ?_; (focus (first | omega | (rw [List.size_toArray, wCells_len _ (by rw [words_len]; omega)]; omega))))
  refine Zj 4294967295 31 rfl isAgg5 Y (hv := by exact hc.get _ (by omega)) ?_
  refine Zi 8589934591 32 rfl (p_conv_u8_u32 underlying5 underlying198 Y) <| Zi 17179869183 33 rfl (p_or_u32 Y Y) ?_
  (refine lin_v (D' := 34359738367) 34 (p_indexAddr_arr0 underlying265 sizeOf198 Y Y ?_) ?_; (focus (first | omega | (rw [List.size_toArray, wCells_len _ (by rw [words_len]; omega)]; omega))))
  refine Yz 35 34359738367 68719476735 [31, 22, 13, 5] [false, false, false, false] [] rfl Y rfl rfl rfl rfl (Zs sizeOf198 Y Y rfl (hc := by exact wCells_step bs k (word16 bs k) (by omega) (words_lo bs k (by omega))) (hi := by (rw [List.size_toArray, wCells_len _ (by rw [words_len]; omega)]; omega))) ?_
  rintro _ _ ⟨rfl, rfl⟩
  refine ⟨keep_nil, ?_⟩
  refine lin_nil ?_
  refine Zn [0, 2, 7] ?_
  refine nx_block_normal <| Zx <| Zg <| Ya (n := 1) Y Y <| Zm Y <| Z0 <| Zn [7, 0, 2] ?_
  refine nx_againB (e' := [(7, _)]) (m := _) (H' := _) (by exact ⟨k + 1, rfl, by omega, rfl, rfl⟩)
 refine at_exit <| Zt <| Zt <| nx_block_exit <| Zx <| Zq <| Zq <| Zg <| Za Y <| Z0 <| Zx <| at_block ?_
 have hk16 : k = 16 := by omega
 subst hk16
 refine Zb [4, 2] ?_
 refine at_loopB (e0 := [(4, _)]) (H0 := _) (n := _) (fun m e H => ∃ k : Nat, m = 64 - k ∧ (16 ≤ k ∧ k ≤ 64) ∧ e = [(4, .int .i64 (k : Int))] ∧ H = [[(bw, .cells (wCells (words bs k)).toArray 265 (0, 0))]]) (by exact ⟨16, rfl, by omega, rfl, rfl⟩) Wp ?_
 rintro _ _ _ ⟨k, rfl, ⟨hk0, hk⟩, rfl, rfl⟩
 refine Zq <| Zq <| Zg <| Zm Y <| Zv (p_lss_nat (n := 64) Y Y) <| Z0 <| Zx ?_
 refine at_if Y (fun hc2 => ?_) (fun hc2 => ?_)
 ·
  refine at_skip <| Zx <| Zq <| at_block <| Zq <| at_draw (n := 10) (0 :: 1 :: 3 :: 7 :: 0 :: 16 :: 48 :: 112 :: 15 :: 511 :: []) 0 (by kernel_rfl) (by kernel_rfl) rfl ?_
  refine Zi 1 0 rfl (p_move Y) ?_
  (refine lin_v (D' := 3) 1 (p_sub_nat (n := 15) Y Y ?_ ?_) ?_; (focus (omega)); (focus (omega)))
  (refine lin_v (D' := 7) 2 (p_indexAddr_arr0 underlying265 sizeOf198 Y Y ?_) ?_; (focus (omega)))
  refine Zj 15 3 rfl isAgg198 Y (hv := by exact words_getv bs k _ (by omega)) ?_
  refine Zi 31 4 rfl (p_move Y) ?_
  (refine lin_v (D' := 63) 5 (p_sub_nat (n := 2) Y Y ?_ ?_) ?_; (focus (omega)); (focus (omega)))
  (refine lin_v (D' := 127) 6 (p_indexAddr_arr0 underlying265 sizeOf198 Y Y ?_) ?_; (focus (omega)))
  refine Zj 255 7 rfl isAgg198 Y (hv := by exact words_getv bs k _ (by omega)) ?_
  refine Zi 511 8 rfl (p_assign Y) <| Zi 1023 9 rfl (p_assign Y) <| lin_nil ?_
  refine Zx <| at_draw (n := 26) (0 :: 0 :: 2 :: 6 :: 14 :: 0 :: 0 :: 96 :: 0 :: 256 :: 992 :: 2046 :: 0 :: 4096 :: 12288 :: 28672 :: 65534 :: 0 :: 0 :: 393440 :: 0 :: 1048576 :: 4063456 :: 8388606 :: 16777215 :: 33554431 :: []) 34341056 (by kernel_rfl) (by kernel_rfl) rfl ?_
  refine Zi 1 0 rfl (p_move Y) <| Zi 3 1 rfl (p_move Y) ?_
  (refine lin_v (D' := 7) 2 (p_sub_nat (n := 16) Y Y ?_ ?_) ?_; (focus (omega)); (focus (omega)))
  (refine lin_v (D' := 15) 3 (p_indexAddr_arr0 underlying265 sizeOf198 Y Y ?_) ?_; (focus (first | omega | (rw [List.size_toArray, wCells_len _ (by rw [words_len]; omega)]; omega))))
  refine Zj 31 4 rfl isAgg198 Y (hv := by exact words_getv bs k _ (by omega)) ?_
  refine Zi 63 5 rfl (p_move Y) <| Zi 319 8 rfl (p_move Y) ?_
  (refine lin_v (D' := 831) 9 (p_shr_u32 (n := 3) Y Y ?_) ?_; (focus (omega)))
  refine Zi 4927 12 rfl (p_move Y) ?_
  (refine lin_v (D' := 13119) 13 (p_sub_nat (n := 7) Y Y ?_ ?_) ?_; (focus (omega)); (focus (omega)))
  (refine lin_v (D' := 29503) 14 (p_indexAddr_arr0 underlying265 sizeOf198 Y Y ?_) ?_; (focus (first | omega | (rw [List.size_toArray, wCells_len _ (by rw [words_len]; omega)]; omega))))
  refine Zj 62271 15 rfl isAgg198 Y (hv := by exact words_getv bs k _ (by omega)) ?_
  refine Zi 193343 17 rfl (p_move Y) <| Zi 1241919 20 rfl (p_move Y) ?_
  (refine lin_v (D' := 3339071) 21 (p_shr_u32 (n := 10) Y Y ?_) ?_; (focus (omega)))
  refine Zz (l := [6, 18]) ?_
  refine Zy 0 3339135 [15, 4] [true, true] [(15, (_, _)), (4, (_, _))] rfl Y rfl rfl rfl rfl (w_buildSlice (vs := [_, _]) (cs := [_, _]) underlying28 sizeOf3 zeroValue3 Y rfl rfl rfl rfl rfl) ?hk_5 (fun _ _ h => h.elim) ?hl_5
  case hk_5 =>
   rintro _ _ ⟨b2, rfl, rfl⟩
   refine ⟨Zk (Zk (keep_nil)), ?_⟩
   refine Zz (l := [7, 18]) ?_
   refine Zy 96 3339263 [15, 4] [true, true] [(15, (_, _)), (4, (_, _))] rfl Y rfl rfl rfl rfl (Zu [_, _] Y call186 Y rfl (mix_spec _ [7, 18] _ _ _ _ (by decide) (by decide))) ?hk_6 (fun _ _ h => h.elim) ?hl_6
   case hk_6 =>
    rintro _ _ ⟨rfl, rfl⟩
    refine ⟨Zk (Zk (keep_nil)), ?_⟩
    refine Zi 3340287 10 rfl (p_xor_u32 Y Y) <| Zi 3342335 11 rfl (p_add_u32 Y Y) <| Zi 3407871 16 rfl (p_add_u32 Y Y) <| Zz (l := [18]) ?_
    refine Zy 0 3670015 [15, 4] [true, true] [(15, (_, _)), (4, (_, _))] rfl Y rfl rfl rfl rfl (w_buildSlice (vs := [_, _]) (cs := [_, _]) underlying28 sizeOf3 zeroValue3 Y rfl rfl rfl rfl rfl) ?hk_7 (fun _ _ h => h.elim) ?hl_7
    case hk_7 =>
     rintro _ _ ⟨b3, rfl, rfl⟩
     refine ⟨Zk (Zk (keep_nil)), ?_⟩
     refine Yz 19 393440 4194303 [15, 4] [true, true] [(15, (_, _)), (4, (_, _))] rfl Y rfl rfl rfl rfl (Zu [_, _] Y call186 Y rfl (mix_spec _ [17, 19] _ _ _ _ (by decide) (by decide))) ?_
     rintro _ _ ⟨rfl, rfl⟩
     refine ⟨Zk (Zk (keep_nil)), ?_⟩
     refine Zi 8388607 22 rfl (p_xor_u32 Y Y) <| Zi 16777215 23 rfl (p_add_u32 Y Y) ?_
     (refine lin_v (D' := 33554431) 24 (p_indexAddr_arr0 underlying265 sizeOf198 Y Y ?_) ?_; (focus (first | omega | (rw [List.size_toArray, wCells_len _ (by rw [words_len]; omega)]; omega))))
     refine Yz 25 33554431 67108863 [15, 4] [false, false] [] rfl Y rfl rfl rfl rfl (Zs sizeOf198 Y Y rfl (hc := by exact wCells_step bs k (nextW (words bs k) k) (by omega) (words_hi bs k (by omega))) (hi := by (rw [List.size_toArray, wCells_len _ (by rw [words_len]; omega)]; omega))) ?_
     rintro _ _ ⟨rfl, rfl⟩
     refine ⟨keep_nil, ?_⟩
     refine lin_nil ?_
     refine Zn [2, 4] ?_
     refine nx_block_normal <| Zx <| Zg <| Zm Y <| Ya (n := 1) Y Y <| Za Y <| Z0 <| Zn [4, 2] ?_
     refine nx_againB (e' := [(4, _)]) (m := _) (H' := _) (by exact ⟨k + 1, rfl, by omega, rfl, rfl⟩)
    exact each_nil
   refine Zy 0 3601279 [15, 4] [true, true] [(15, (_, _)), (4, (_, _))] rfl Y rfl rfl rfl rfl (w_buildSlice (vs := [_, _]) (cs := [_, _]) underlying28 sizeOf3 zeroValue3 Y rfl rfl rfl rfl rfl) ?hk_11 (fun _ _ h => h.elim) ?hl_11
   case hk_11 =>
    rintro _ _ ⟨b4, rfl, rfl⟩
    refine ⟨Zk (Zk (keep_nil)), ?_⟩
    refine Yz 7 96 3601407 [15, 4] [true, true] [(15, (_, _)), (4, (_, _))] rfl Y rfl rfl rfl rfl (Zu [_, _] Y call186 Y rfl (mix_spec _ [7, 18] _ _ _ _ (by decide) (by decide))) ?_
    rintro _ _ ⟨rfl, rfl⟩
    refine ⟨Zk (Zk (keep_nil)), ?_⟩
    refine Zi 3602431 10 rfl (p_xor_u32 Y Y) <| Zi 3604479 11 rfl (p_add_u32 Y Y) <| Zi 3670015 16 rfl (p_add_u32 Y Y) <| Zz (l := [19]) ?_
    refine Zy 393440 4194303 [15, 4] [true, true] [(15, (_, _)), (4, (_, _))] rfl Y rfl rfl rfl rfl (Zu [_, _] Y call186 Y rfl (mix_spec _ [17, 19] _ _ _ _ (by decide) (by decide))) ?hk_13 (fun _ _ h => h.elim) ?hl_13
    case hk_13 =>
     rintro _ _ ⟨rfl, rfl⟩
     refine ⟨Zk (Zk (keep_nil)), ?_⟩
     refine Zi 8388607 22 rfl (p_xor_u32 Y Y) <| Zi 16777215 23 rfl (p_add_u32 Y Y) ?_
     (refine lin_v (D' := 33554431) 24 (p_indexAddr_arr0 underlying265 sizeOf198 Y Y ?_) ?_; (focus (first | omega | (rw [List.size_toArray, wCells_len _ (by rw [words_len]; omega)]; omega))))
     refine Yz 25 33554431 67108863 [15, 4] [false, false] [] rfl Y rfl rfl rfl rfl (Zs sizeOf198 Y Y rfl (hc := by exact wCells_step bs k (nextW (words bs k) k) (by omega) (words_hi bs k (by omega))) (hi := by (rw [List.size_toArray, wCells_len _ (by rw [words_len]; omega)]; omega))) ?_
     rintro _ _ ⟨rfl, rfl⟩
     refine ⟨keep_nil, ?_⟩
     refine lin_nil ?_
     refine Zn [2, 4] ?_
     refine nx_block_normal <| Zx <| Zg <| Zm Y <| Ya (n := 1) Y Y <| Za Y <| Z0 <| Zn [4, 2] ?_
     refine nx_againB (e' := [(4, _)]) (m := _) (H' := _) (by exact ⟨k + 1, rfl, by omega, rfl, rfl⟩)
    exact each_nil
   exact each_nil
  refine Zy 0 3601215 [15, 4] [true, true] [(15, (_, _)), (4, (_, _))] rfl Y rfl rfl rfl rfl (w_buildSlice (vs := [_, _]) (cs := [_, _]) underlying28 sizeOf3 zeroValue3 Y rfl rfl rfl rfl rfl) ?hk_16 (fun _ _ h => h.elim) ?hl_16
  case hk_16 =>
   rintro _ _ ⟨b5, rfl, rfl⟩
   refine ⟨Zk (Zk (keep_nil)), ?_⟩
   refine Yz 6 0 3601279 [15, 4] [true, true] [(15, (_, _)), (4, (_, _))] rfl Y rfl rfl rfl rfl (w_buildSlice (vs := [_, _]) (cs := [_, _]) underlying28 sizeOf3 zeroValue3 Y rfl rfl rfl rfl rfl) ?_
   rintro _ _ ⟨b6, rfl, rfl⟩
   refine ⟨Zk (Zk (keep_nil)), ?_⟩
   refine Yz 7 96 3601407 [15, 4] [true, true] [(15, (_, _)), (4, (_, _))] rfl Y rfl rfl rfl rfl (Zu [_, _] Y call186 Y rfl (mix_spec _ [7, 18] _ _ _ _ (by decide) (by decide))) ?_
   rintro _ _ ⟨rfl, rfl⟩
   refine ⟨Zk (Zk (keep_nil)), ?_⟩
   refine Zi 3602431 10 rfl (p_xor_u32 Y Y) <| Zi 3604479 11 rfl (p_add_u32 Y Y) <| Zi 3670015 16 rfl (p_add_u32 Y Y) <| Zz (l := [19]) ?_
   refine Zy 393440 4194303 [15, 4] [true, true] [(15, (_, _)), (4, (_, _))] rfl Y rfl rfl rfl rfl (Zu [_, _] Y call186 Y rfl (mix_spec _ [17, 19] _ _ _ _ (by decide) (by decide))) ?hk_19 (fun _ _ h => h.elim) ?hl_19
   case hk_19 =>
    rintro _ _ ⟨rfl, rfl⟩
    refine ⟨Zk (Zk (keep_nil)), ?_⟩
    refine Zi 8388607 22 rfl (p_xor_u32 Y Y) <| Zi 16777215 23 rfl (p_add_u32 Y Y) ?_
    (refine lin_v (D' := 33554431) 24 (p_indexAddr_arr0 underlying265 sizeOf198 Y Y ?_) ?_; (focus (first | omega | (rw [List.size_toArray, wCells_len _ (by rw [words_len]; omega)]; omega))))
    refine Yz 25 33554431 67108863 [15, 4] [false, false] [] rfl Y rfl rfl rfl rfl (Zs sizeOf198 Y Y rfl (hc := by exact wCells_step bs k (nextW (words bs k) k) (by omega) (words_hi bs k (by omega))) (hi := by (rw [List.size_toArray, wCells_len _ (by rw [words_len]; omega)]; omega))) ?_
    rintro _ _ ⟨rfl, rfl⟩
    refine ⟨keep_nil, ?_⟩
    refine lin_nil ?_
    refine Zn [2, 4] ?_
    refine nx_block_normal <| Zx <| Zg <| Zm Y <| Ya (n := 1) Y Y <| Za Y <| Z0 <| Zn [4, 2] ?_
    refine nx_againB (e' := [(4, _)]) (m := _) (H' := _) (by exact ⟨k + 1, rfl, by omega, rfl, rfl⟩)
   exact each_nil
  exact each_nil
 refine at_exit <| Zt <| Zt <| nx_block_exit <| Zx <| Zq <| Zg <| Zo Wh (p_load_agg isAgg265 sizeOf265 Y (by (rw [List.size_toArray, wCells_len _ (by rw [words_len]; omega)]; omega)) (by exact extract_all _ _ (by rw [List.size_toArray, wCells_len _ (by rw [words_len]; omega)]))) ?_
 refine Xe (w_store_agg sizeOf265 Y Y (by exact wCells_one _) Wu (by exact over_all _) (by rw [List.size_toArray, wCells_len _ (by rw [words_len]; omega)]) (by (rw [List.size_toArray, wCells_len _ (by rw [words_len]; omega)]; omega)) (by exact free_zero _)) ?_
 refine Z0 <| Zx <| at_ret ?_
 refine nx_endc1 rfl results185 Y Wh (loadVar_agg isAgg265 sizeOf265 (by (rw [List.size_toArray, wCells_len _ (by rw [words_len]; omega)]; omega)) (extract_all _ _ (by rw [List.size_toArray, wCells_len _ (by rw [words_len]; omega)]))) (by
       have e : k = 64 := by omega
       exact ⟨by rw [e, wCells_full _ (words_len _ _)]; rfl, rfl⟩)

end Go.Proofs.YtkgmgmkbgnkdnaaGreatDoor


namespace Go.Proofs.YtkgmgmkbgnkdnaaGreatDoor
open Go.Proofs.Tryz
open Go Go.RowKit Gw
set_option linter.unusedVariables false
set_option linter.unusedSimpArgs false
set_option maxRecDepth 100000
attribute [local irreducible] Gw.At Gw.Nx Gw.Ops
def v8c (v : V8) : Array Value := #[u32v v.a, u32v v.b, u32v v.c, u32v v.d, u32v v.e, u32v v.f, u32v v.g, u32v v.h]
theorem v8c_list (v : V8) : v8c v = (v.list.map u32v).toArray := rfl
theorem k_get (k : Nat) (h : k < 64) : (kTab.map u32v).toArray[k * 1]? = some (u32v (kTab.getD k 0)) := by rw [Nat.mul_one]; exact get_map u32v kTab k 0 (by rw [kTab_len]; exact h)
def half8 (x y : V8) (i : Nat) : List UInt32 := (add8 x y).list.take i ++ x.list.drop i
theorem half8_len (x y : V8) (i : Nat) (h : i ≤ 8) : (half8 x y i).length = 8 := by
  have : (add8 x y).list.length = 8 := rfl
  have h2 : x.list.length = 8 := rfl
  simp [half8, this, h2]; omega
theorem half8_get (x y : V8) (i : Nat) (h : i < 8) : ((half8 x y i).map u32v).toArray[i]? = some (u32v (x.list.getD i 0)) := by
  have : i = 0 ∨ i = 1 ∨ i = 2 ∨ i = 3 ∨ i = 4 ∨ i = 5 ∨ i = 6 ∨ i = 7 := by omega
  rcases this with rfl | rfl | rfl | rfl | rfl | rfl | rfl | rfl <;> rfl
theorem v8_get (y : V8) (i : Nat) (h : i < 8) : (v8c y)[i]? = some (u32v (y.list.getD i 0)) := by
  have : i = 0 ∨ i = 1 ∨ i = 2 ∨ i = 3 ∨ i = 4 ∨ i = 5 ∨ i = 6 ∨ i = 7 := by omega
  rcases this with rfl | rfl | rfl | rfl | rfl | rfl | rfl | rfl <;> rfl
theorem half8_set (x y : V8) (i : Nat) (h : i < 8) : ((half8 x y i).map u32v).toArray.setIfInBounds i (.int .u32 ((x.list.getD i 0 + y.list.getD i 0).toNat : Int)) = ((half8 x y (i + 1)).map u32v).toArray := by
  have : i = 0 ∨ i = 1 ∨ i = 2 ∨ i = 3 ∨ i = 4 ∨ i = 5 ∨ i = 6 ∨ i = 7 := by omega
  rcases this with rfl | rfl | rfl | rfl | rfl | rfl | rfl | rfl <;> rfl
theorem step_cells (x : V8) (k : Nat) (ws : List UInt32) (v : V8) (hx : x = rounds ws v k) :
    ((#[u32v x.a, u32v x.a, u32v x.b, u32v x.c, u32v x.d, u32v x.e, u32v x.f, u32v x.g] : Array Value).setIfInBounds 0 (.int .u32 ((Gw.stepT x (kTab.getD k 0) (ws.getD k 0) + stepU x).toNat : Int))).setIfInBounds 4 (.int .u32 ((x.d + Gw.stepT x (kTab.getD k 0) (ws.getD k 0)).toNat : Int)) = v8c (rounds ws v (k + 1)) := by
  subst hx; rfl
theorem sched_len (bs : List UInt8) : (sched bs).length = 64 := words_len bs 64
theorem row_size (ws : List UInt32) (h : ws.length = 64) : ((ws.map u32v).toArray).size = 64 := by rw [List.size_toArray, List.length_map, h]
theorem row_over (ws : List UInt32) (h : ws.length = 64) : over (wCells []).toArray 0 ((ws.map u32v).toArray).toList = (ws.map u32v).toArray :=
  over_new (wCells []).toArray (ws.map u32v) (by rw [List.length_map, h]; rfl)
theorem wz_size : 0 + 64 ≤ ((wCells []).toArray).size := by rw [List.size_toArray, wCells_len _ (Nat.zero_le _)]; exact Nat.le_refl _
theorem v8_ones (v : V8) : ∀ x ∈ (v8c v).toList, x.oneCell' = true := by
  intro x hx
  rw [v8c_list] at hx
  simp only [List.mem_map] at hx
  obtain ⟨y, _, rfl⟩ := hx
  rfl
theorem u32_ones (l : List UInt32) : ∀ x ∈ (l.map u32v).toArray.toList, x.oneCell' = true := by
  intro x hx
  simp only [List.mem_map] at hx
  obtain ⟨y, _, rfl⟩ := hx
  rfl

theorem add_spec (hp g o cap : Nat) (c : Array Value) (T : TypeId) (z : Nat × Nat) (bs : List UInt8) (hb : bs.length = 64) (hc : BytesIn c o bs) (Th Tg : TypeId) (zg : Nat × Nat) (v : V8) :
    Does Tryz.prog 164 #[.pointer (some ⟨hp, 0, none⟩), .slice (some ⟨g, o, none⟩) 64 cap] [[(hp, .cells (v8c v) Th (0, 0))], [(g, .cells c T z)], [(1, .cells (kTab.map u32v).toArray Tg zg)]]
      (fun r H' => r = .tuple #[] ∧ H' = [[(hp, .cells (v8c (blockS v bs)) Th (0, 0))], [(g, .cells c T z)], [(1, .cells (kTab.map u32v).toArray Tg zg)]]) := by
 refine spec_enter func164 rfl ntmps164 rfl ?_
 intro u R
 obtain ⟨ws, hws⟩ : ∃ ws, ws = sched bs := ⟨_, rfl⟩
 have hw : ws.length = 64 := by rw [hws]; exact sched_len bs
 have hss := sched_spec g o cap c T z bs hb hc
 rw [← hws] at hss
 have hbl : blockS v bs = add8 v (rounds ws v 64) := by rw [hws]; rfl
 clear hws
 rw [hbl]
 refine Zb [0, 1] ?_
 refine Zq <| Zg <| Zm Y <| Xr [_] Y call185 Y rfl (hss) ?_
 refine Ze (w_alloc zeroValue265 (cs := (wCells []).toArray) (by kernel_rfl)) ?_
 rintro _ _ ⟨bw, rfl, rfl⟩
 refine Xe (w_store_agg sizeOf265 Y Y (by exact u32_ones _) Wu (by exact row_over ws hw) (by exact row_size ws hw) (by exact wz_size) (by exact free_zero _)) ?_
 refine Z0 <| Zx <| Zq <| Zg <| Zm Y <| Zp Y rfl <| Zo Wh (p_load_agg (cs := v8c v) isAgg242 sizeOf242 Y Wn (by rfl)) ?_
 refine Ze (w_alloc zeroValue242 (cs := #[_, _, _, _, _, _, _, _]) rfl) ?_
 rintro _ _ ⟨bv, rfl, rfl⟩
 refine Xe (w_store_agg sizeOf242 Y Y (by exact v8_ones v) Wu (by exact (rfl : _ = v8c (rounds ws v 0))) (by first | rfl | (simp; done)) Wn (by exact free_zero _)) ?_
 refine Z0 <| Zx <| Zq <| Zq <| Zg <| Zo Wh (p_load_agg (cs := (kTab.map u32v).toArray) isAgg265 sizeOf265 Y (by first | omega | exact Nat.le_refl _) (by exact extract_all _ _ rfl)) ?_
 refine Zm Y <| Z0 <| Zx <| at_block <| Zb [19, 0, 4, 5, 18] ?_
 refine at_loopB (e0 := [(19, _)]) (H0 := _) (n := _) (fun m e H => ∃ k : Nat, m = 64 - k ∧ (k ≤ 64) ∧ e = [(19, .int .i64 (k : Int))] ∧ H = [[(bv, .cells (v8c (rounds ws v k)) 242 (0, 0))]]) (by exact ⟨0, rfl, Nat.zero_le _, rfl, rfl⟩) Wp ?_
 rintro _ _ _ ⟨k, rfl, hk, rfl, rfl⟩
 obtain ⟨x, hx⟩ : ∃ x, x = rounds ws v k := ⟨_, rfl⟩
 rw [← hx]
 refine Zq <| Zg <| Zv (p_lss_nat (n := 64) Y Y) <| Z0 <| Zx <| Zq ?_
 refine at_if Y (fun hc1 => ?_) (fun hc1 => ?_)
 ·
  refine at_skip <| Zx <| Zq <| at_block <| Zq <| Zg <| Zm Y <| Zv (p_index_arr underlying265 isAgg198 sizeOf198 Y Y (by first | omega | exact Nat.le_refl _) (by exact k_get k (by omega))) ?_
  refine Za Y <| Za Y <| Z0 <| Zx <| Zq <| at_draw (n := 6) (0 :: 1 :: 0 :: 4 :: 3 :: 31 :: []) 0 (by kernel_rfl) (by kernel_rfl) rfl ?_
  (refine lin_v (D' := 1) 0 (p_indexAddr_arr0 (j := 0) underlying242 sizeOf198 Y Y ?_) ?_; (focus (omega)))
  refine Zj 3 1 rfl isAgg198 Y ?_
  (refine lin_v (D' := 7) 2 (p_indexAddr_arr0 (j := 4) underlying242 sizeOf198 Y Y ?_) ?_; (focus (omega)))
  refine Zj 15 3 rfl isAgg198 Y ?_
  refine Zi 31 4 rfl (p_assign Y) <| Zi 63 5 rfl (p_assign Y) <| lin_nil ?_
  refine Zx <| Zq <| at_draw (n := 24) (0 :: 1 :: 0 :: 0 :: 12 :: 31 :: 0 :: 0 :: 128 :: 448 :: 0 :: 1024 :: 0 :: 4096 :: 15360 :: 32704 :: 65535 :: 0 :: 262143 :: 0 :: 524288 :: 1572864 :: 4194303 :: 8388607 :: []) 24 (by kernel_rfl) (by kernel_rfl) rfl ?_
  (refine lin_v (D' := 1) 0 (p_indexAddr_arr0 (j := 7) underlying242 sizeOf198 Y Y ?_) ?_; (focus (omega)))
  refine Zj 3 1 rfl isAgg198 Y ?_
  refine Zi 7 2 rfl (p_move Y) <| Zi 71 6 rfl (p_move Y) ?_
  (refine lin_v (D' := 199) 7 (p_indexAddr_arr0 (j := 5) underlying242 sizeOf198 Y Y ?_) ?_; (focus (omega)))
  refine Zj 455 8 rfl isAgg198 Y ?_
  refine Zi 967 9 rfl (p_and_u32 Y Y) <| Zi 1991 10 rfl (p_move Y) <| Zi 4039 11 rfl (p_cpl_u32 Y) ?_
  (refine lin_v (D' := 8135) 12 (p_indexAddr_arr0 (j := 6) underlying242 sizeOf198 Y Y ?_) ?_; (focus (omega)))
  refine Zj 16327 13 rfl isAgg198 Y ?_
  refine Zi 32711 14 rfl (p_and_u32 Y Y) <| Zi 65479 15 rfl (p_xor_u32 Y Y) <| Zi 196551 17 rfl (p_move Y) <| Zi 720839 19 rfl (p_move Y) ?_
  (refine lin_v (D' := 1769415) 20 (p_indexAddr_arr0 underlying265 sizeOf198 Y Y ?_) ?_; (focus (omega)))
  refine Zj 3866567 21 rfl isAgg198 Y (hv := by exact get_map u32v ws k 0 (by omega)) ?_
  refine Yz 3 0 3866575 [21, 13, 8, 1] [true, true, true, true] [(21, (_, _)), (13, (_, _)), (8, (_, _)), (1, (_, _))] rfl Y rfl rfl rfl rfl (w_buildSlice (vs := [_, _, _]) (cs := [_, _, _]) underlying28 sizeOf3 zeroValue3 Y rfl rfl rfl rfl rfl) ?_
  rintro _ _ ⟨b3, rfl, rfl⟩
  refine ⟨Zk (Zk (Zk (Zk (keep_nil)))), ?_⟩
  refine Yz 4 12 3866591 [21, 13, 8, 1] [true, true, true, true] [(21, (_, _)), (13, (_, _)), (8, (_, _)), (1, (_, _))] rfl Y rfl rfl rfl rfl (Zu [_, _] Y call186 Y rfl (mix_spec _ [6, 11, 25] _ _ _ _ (by decide) (by decide))) ?_
  rintro _ _ ⟨rfl, rfl⟩
  refine ⟨Zk (Zk (Zk (Zk (keep_nil)))), ?_⟩
  refine Zi 3866623 5 rfl (p_add_u32 Y Y) <| Zi 3932159 16 rfl (p_add_u32 Y Y) <| Zi 4194303 18 rfl (p_add_u32 Y Y) <| Zi 8388607 22 rfl (p_add_u32 Y Y) <| Zi 16777215 23 rfl (p_assign Y) <| lin_nil ?_
  refine Zn [0, 4, 5, 8, 10, 18, 19] ?_
  refine Zx <| Zq <| at_draw (n := 20) (0 :: 0 :: 3 :: 0 :: 0 :: 16 :: 56 :: 0 :: 0 :: 256 :: 896 :: 2040 :: 0 :: 4096 :: 0 :: 16384 :: 61440 :: 131064 :: 262143 :: 524287 :: []) 6 (by kernel_rfl) (by kernel_rfl) rfl ?_
  refine Zi 1 0 rfl (p_move Y) <| Zi 9 3 rfl (p_move Y) ?_
  (refine lin_v (D' := 25) 4 (p_indexAddr_arr0 (j := 1) underlying242 sizeOf198 Y Y ?_) ?_; (focus (omega)))
  refine Zj 57 5 rfl isAgg198 Y ?_
  refine Zi 121 6 rfl (p_and_u32 Y Y) <| Zi 249 7 rfl (p_move Y) ?_
  (refine lin_v (D' := 505) 8 (p_indexAddr_arr0 (j := 2) underlying242 sizeOf198 Y Y ?_) ?_; (focus (omega)))
  refine Zj 1017 9 rfl isAgg198 Y ?_
  refine Zi 2041 10 rfl (p_and_u32 Y Y) <| Zi 4089 11 rfl (p_xor_u32 Y Y) ?_
  (refine lin_v (D' := 8185) 12 (p_indexAddr_arr0 (j := 1) underlying242 sizeOf198 Y Y ?_) ?_; (focus (omega)))
  refine Zj 16377 13 rfl isAgg198 Y ?_
  (refine lin_v (D' := 32761) 14 (p_indexAddr_arr0 (j := 2) underlying242 sizeOf198 Y Y ?_) ?_; (focus (omega)))
  refine Zj 65529 15 rfl isAgg198 Y ?_
  refine Zi 131065 16 rfl (p_and_u32 Y Y) <| Zi 262137 17 rfl (p_xor_u32 Y Y) <| Zz (l := [1]) ?_
  refine Zy 0 262139 [15, 13, 9, 5] [true, true, true, true] [(15, (_, _)), (13, (_, _)), (9, (_, _)), (5, (_, _))] rfl Y rfl rfl rfl rfl (w_buildSlice (vs := [_, _, _]) (cs := [_, _, _]) underlying28 sizeOf3 zeroValue3 Y rfl rfl rfl rfl rfl) ?hk_4 (fun _ _ h => h.elim) ?hl_4
  case hk_4 =>
   rintro _ _ ⟨b4, rfl, rfl⟩
   refine ⟨Zk (Zk (Zk (Zk (keep_nil)))), ?_⟩
   refine Yz 2 3 262143 [15, 13, 9, 5] [true, true, true, true] [(15, (_, _)), (13, (_, _)), (9, (_, _)), (5, (_, _))] rfl Y rfl rfl rfl rfl (Zu [_, _] Y call186 Y rfl (mix_spec _ [2, 13, 22] _ _ _ _ (by decide) (by decide))) ?_
   rintro _ _ ⟨rfl, rfl⟩
   refine ⟨Zk (Zk (Zk (Zk (keep_nil)))), ?_⟩
   refine Zi 524287 18 rfl (p_add_u32 Y Y) <| Zi 1048575 19 rfl (p_assign Y) <| lin_nil ?_
   refine Zn [0, 4, 5, 10, 11, 18, 19] ?_
   refine Zx <| Zq <| at_draw (n := 3) (0 :: 0 :: 3 :: []) 4 (by kernel_rfl) (by kernel_rfl) rfl ?_
   (refine lin_v (D' := 1) 0 (p_slice_arr_from (l := 1) underlying242 sizeOf198 Y Y ?_) ?_; (focus (omega)))
   (refine lin_v (D' := 3) 1 (p_slice_arr_to (h := 7) underlying242 sizeOf198 Y Y ?_) ?_; (focus (omega)))
   refine Yz 2 3 7 [] [] [] rfl Y rfl rfl rfl rfl (w_copy (cs := [_, _, _, _, _, _, _]) (c' := #[_, _, _, _, _, _, _, _]) underlying268 sizeOf198 Y Y Wh Wu (by rfl) (by rfl) (by rfl) (by exact Nat.le_refl 8) (free_zero _) (by simp [Value.oneCell', u32v])) ?_
   rintro _ _ ⟨rfl, rfl⟩
   refine ⟨keep_nil, ?_⟩
   refine lin_nil ?_
   refine Zx <| Zg <| Zm Y <| Zm Y <| Zv (p_add_u32 Y Y) ?_
   (refine op_v (p_indexAddr_arr0 (j := 4) underlying242 sizeOf198 Y Y ?_) ?_; (focus (omega)))
   refine Zl isAgg198 Y ?_
   refine Zm Y <| Zv (p_add_u32 Y Y) ?_
   (refine op_v (p_indexAddr_arr0 (j := 0) underlying242 sizeOf198 Y Y ?_) ?_; (focus (omega)))
   refine Xe (Zs sizeOf198 Y Y rfl) ?_
   (refine op_v (p_indexAddr_arr0 (j := 4) underlying242 sizeOf198 Y Y ?_) ?_; (focus (omega)))
   refine Xe (Zs sizeOf198 Y Y rfl (hc := by exact (step_cells x k ws v hx))) ?_
   refine Z0 <| Zn [0, 4, 5, 18, 19] ?_
   refine nx_block_normal <| Zx <| Zg <| Ya (n := 1) Y Y <| Zm Y <| Z0 <| Zn [19, 0, 4, 5, 18] ?_
   refine nx_againB (e' := [(19, _)]) (m := _) (H' := _) (by exact ⟨k + 1, rfl, by omega, rfl, rfl⟩)
  exact each_nil
 refine at_exit <| Zt <| Zt <| nx_block_exit <| Zx <| Zq <| Zg <| Zm Y <| Z0 <| Zx <| at_block ?_
 have ek : k = 64 := by omega
 subst ek
 refine Zb [82, 0, 5] ?_
 refine at_loopB (e0 := [(82, _)]) (H0 := _) (n := _) (fun m e H => ∃ i : Nat, m = 8 - i ∧ (i ≤ 8) ∧ e = [(82, .int .i64 (i : Int))] ∧ H = [[(hp, .cells ((half8 v x i).map u32v).toArray Th (0, 0))]]) (by exact ⟨0, rfl, Nat.zero_le _, rfl, rfl⟩) Wp ?_
 rintro _ _ _ ⟨i, rfl, hi, rfl, rfl⟩
 refine Zq <| Zg <| Zv (p_lss_nat (n := 8) Y Y) <| Z0 <| Zx <| Zq ?_
 refine at_if Y (fun hc2 => ?_) (fun hc2 => ?_)
 ·
  refine at_skip <| Zx <| Zq <| at_block <| Zq <| Zg <| Zm Y <| Za Y <| Z0 <| Zx <| at_draw (n := 12) (0 :: 0 :: 1 :: 7 :: 15 :: 0 :: 32 :: 96 :: 255 :: 1 :: 1023 :: 2047 :: []) 2048 (by kernel_rfl) (by kernel_rfl) rfl ?_
  refine Zi 1 0 rfl (p_move Y) <| Zi 3 1 rfl (p_move Y) <| Zi 7 2 rfl (p_nilChk Y rfl) ?_
  (refine lin_v (D' := 15) 3 (p_indexAddr_arr0 underlying242 sizeOf198 Y Y ?_) ?_; (focus (first | omega | (rw [List.size_toArray, List.length_map, half8_len _ _ _ (by omega)]; omega))))
  refine Zj 31 4 rfl isAgg198 Y (hv := by exact half8_get _ _ i (by omega)) ?_
  refine Zi 63 5 rfl (p_move Y) ?_
  (refine lin_v (D' := 127) 6 (p_indexAddr_arr0 underlying242 sizeOf198 Y Y ?_) ?_; (focus (first | omega | (rw [List.size_toArray, List.length_map, half8_len _ _ _ (by omega)]; omega))))
  refine Zj 255 7 rfl isAgg198 Y (hv := by exact v8_get _ i (by omega)) ?_
  refine Zi 511 8 rfl (p_add_u32 Y Y) <| Zi 1023 9 rfl (p_nilChk Y rfl) ?_
  (refine lin_v (D' := 2047) 10 (p_indexAddr_arr0 underlying242 sizeOf198 Y Y ?_) ?_; (focus (first | omega | (rw [List.size_toArray, List.length_map, half8_len _ _ _ (by omega)]; omega))))
  refine Yz 11 2047 4095 [7, 4] [false, false] [] rfl Y rfl rfl rfl rfl (Zs sizeOf198 Y Y rfl (hc := by exact half8_set _ _ i (by omega)) (hi := by (rw [List.size_toArray, List.length_map, half8_len _ _ _ (by omega)]; omega))) ?_
  rintro _ _ ⟨rfl, rfl⟩
  refine ⟨keep_nil, ?_⟩
  refine lin_nil ?_
  refine Zn [0, 5, 82] ?_
  refine nx_block_normal <| Zx <| Zg <| Ya (n := 1) Y Y <| Zm Y <| Z0 <| Zn [82, 0, 5] ?_
  refine nx_againB (e' := [(82, _)]) (m := _) (H' := _) (by exact ⟨i + 1, rfl, by omega, rfl, rfl⟩)
 have ei : i = 8 := by omega
 subst ei
 rw [← hx]
 refine at_exit <| Zt <| Zt <| nx_block_exit ?_
 refine nx_end0 rfl results164 (by exact ⟨rfl, rfl⟩)

end Go.Proofs.YtkgmgmkbgnkdnaaGreatDoor
