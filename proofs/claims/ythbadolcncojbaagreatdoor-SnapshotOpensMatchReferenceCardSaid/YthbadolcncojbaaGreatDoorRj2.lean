/- The reference of layer 23: Stored, Room, Open. The reference of layer 23: Append. -/
import Derived.Test.YthbadolcncojbaaGreatDoorEz
import Derived.Test.YthbadolcncojbaaGreatDoorRd2
import Derived.Test.YthbadolcncojbaaGreatDoorRw1
import Derived.Test.YthbadolcncojbaaGreatDoorRf3
import Derived.Test.YthbadolcncojbaaGreatDoorOp4
import Derived.Test.YthbadolcncojbaaGreatDoorSn2

namespace Go.Proofs.YthbadolcncojbaaGreatDoor
open Go.Proofs.Tryz
open Go Go.RowKit Gw
set_option linter.unusedVariables false
set_option maxRecDepth 100000
attribute [local irreducible] Gw.At Gw.Nx Gw.Ops
theorem decG_enc (s : List UInt8) (a : Nat) : ∀ (f i z : Nat) (n : Int) (k : Nat), i + f = 9 → z = valB ((s.drop a).take i) → (∀ x ∈ (s.drop a).take i, 128 ≤ x.toNat) → decG s a i z f = some (n, k) → a < k ∧ (s.drop a).take (k - a) = encI n
  | 0, i, z, n, k, hi, hz, hall, h => by cases h
  | f + 1, i, z, n, k, hi, hz, hall, h => by
    rw [decG] at h
    cases hb : s[a + i]? with
    | none => rw [hb] at h; cases h
    | some b =>
      rw [hb] at h
      have hlt := (List.getElem?_eq_some_iff.1 hb).1
      have hti : ((s.drop a).take i).length = i := by rw [List.length_take, List.length_drop]; omega
      have hz2 : z + b.toNat % 128 * 2 ^ (7 * i) = valB ((s.drop a).take (i + 1)) := by rw [take_more s a i b hb, valB_append, ← hz, hti]
      simp only at h
      split at h
      · rename_i h128
        exact decG_enc s a f (i + 1) _ n k (by omega) hz2 (by
          rw [take_more s a i b hb]; intro x hx
          rcases List.mem_append.1 hx with h9 | h9
          · exact hall x h9
          · rw [List.mem_singleton.1 h9]; exact h128) h
      · rename_i h128
        split at h
        · cases h
        · rename_i hno
          injection h with h
          injection h with h1 h2
          subst h1 h2
          refine ⟨by omega, ?_⟩
          rw [show a + i + 1 - a = i + 1 by omega, hz2]
          unfold encI
          rw [zz_uz, take_more s a i b hb, enc_val _ _ hall (by omega)]
          rcases Nat.eq_zero_or_pos i with h3 | h3
          · exact .inl (List.eq_nil_of_length_eq_zero (by omega))
          · exact .inr (fun h4 => hno (.inl ⟨h4, h3⟩))
theorem decS_enc_eq {s : List UInt8} {a : Nat} {r : List UInt8} {k : Nat} (h : decS s a = some (r, k)) : a < k ∧ (s.drop a).take (k - a) = encS r := by
  unfold decS at h
  cases hd : decI s a with
  | none => rw [hd] at h; cases h
  | some p =>
    obtain ⟨n, j⟩ := p
    rw [hd] at h
    obtain ⟨h1, h2⟩ := decG_enc s a 9 0 0 n j rfl (by simp [valB]) (by simp) hd
    have hat := decI_at hd
    simp only at h
    split at h
    · cases h
    · rename_i hno
      injection h with h
      injection h with h3 h4
      obtain ⟨m, rfl⟩ := Int.eq_ofNat_of_zero_le (show 0 ≤ n by omega)
      rw [Int.toNat_natCast] at h3 h4
      have hlen : r.length = m := by rw [← h3, List.length_take, List.length_drop]; omega
      refine ⟨by omega, ?_⟩
      unfold encS
      rw [hlen, ← h2, ← h4, show j + m - a = (j - a) + m by omega, List.take_add, List.drop_drop, show a + (j - a) = j by omega, h3]
/-- The stored record is the one that belongs there exactly if its chain is. -/
theorem stored_eq {s : List UInt8} {sz : Nat} {r : List UInt8} {k : Nat} (h : List UInt8) (hd : decS s (sz + 1) = some (r, k)) (h1 : s[sz]? = some 1) (hk : k + 32 ≤ s.length) :
    (recS h r = (s.drop sz).take (k + 32 - sz) ↔ (s.drop k).take 32 = chainS h r) ∧ sz + (recS h r).length = k + 32 := by
  obtain ⟨ha, he⟩ := decS_enc_eq hd
  have hlt := (List.getElem?_eq_some_iff.1 h1).1
  have e1 : (s.drop sz).take (k + 32 - sz) = [1] ++ encS r ++ (s.drop k).take 32 := by
    rw [show k + 32 - sz = 1 + (k - (sz + 1)) + 32 by omega, List.take_add, List.take_add, List.drop_drop, List.drop_drop, show sz + (1 + (k - (sz + 1))) = k by omega, he]
    congr 2
    rw [List.take_add_one, List.take_zero, List.getElem?_drop, Nat.add_zero, h1]; rfl
  have e2 : recS h r = [1] ++ encS r ++ chainS h r := by simp [recS]
  constructor
  · rw [e1, e2]
    constructor
    · intro h9; exact (List.append_cancel_left h9).symm
    · intro h9; rw [h9]
  · rw [e2, List.length_append, List.length_append]
    have h5 : (chainS h r).length = 32 := chain_len _ _
    have h6 := congrArg List.length he
    rw [List.length_take, List.length_drop] at h6
    simp only [List.length_cons, List.length_nil]
    omega
/-- A journal of the reference. -/
def KrR (j : JrS) (kp rp : Nat) (s : List Chunk) : Prop := j.h = headL zero32 j.rs ∧ j.rs.length ≤ 4194304 ∧ (∀ r ∈ j.rs, r.length ≤ 65536) ∧ ∃ v sr, Row 9 v (j.rs.map strV) sr ∧
  s = (kp, .cells #[.pointer (some ⟨rp, 0, none⟩), v, .int .i64 (j.sz : Int), .bool j.br] 156 (0, 0)) :: sr

theorem rstored_spec (h r : List UInt8) (hh : h.length = 32) (hr : r.length ≤ 65536) : DoesR Tryz.prog 115 #[.string (str h), .string (str r)] [] (.tuple #[.string (str (recS h r)), .string (str (chainS h r))]) := by
 have e1 : (⟨#[1]⟩ : ByteArray) = str [1] := rfl
 have hel := encI_len r.length (by omega) (by omega)
 have hes : (encS r).length ≤ 9 + 65536 := by unfold encS; rw [List.length_append]; omega
 have hcl : (chainS h r).length = 32 := chain_len _ _
 refine spec_enter func115 rfl ntmps115 rfl ?_
 intro u R
 refine Zb [0, 1] ?_
 refine Zq <| Zg <| Za Y <| Za Y <| Z0 <| Zx <| Zq <| Zg <| Zm Y <| Zm Y <| Zr [_, _] Y call123 Y rfl (rchain_spec h r (by omega)) ?_
 rintro _ _ ⟨rfl, rfl⟩
 refine Za Y <| Z0 <| Zx <| Zq <| Zg <| Zm Y <| Zr [_] Y call154 Y rfl (rputString_spec r hr) ?_
 rintro _ _ ⟨rfl, rfl⟩
 refine Zm Y <| Zd Y rfl <| Zd Y rfl <| Za Y <| Za Y <| Z0 <| Zn [6, 7] ?_
 refine Zx <| Zq <| Zg <| Zm Y ?_
 (refine op_v (p_add_str Y Y ?_) ?_; (focus (rw [e1, str_size, str_size]; simp; omega)))
 refine Zm Y ?_
 (refine op_v (p_add_str Y Y ?_) ?_; (focus (rw [e1, str_app, str_size, str_size]; simp; omega)))
 refine Zm Y <| Za Y <| Za Y <| Z0 <| Zx <| at_ret ?_
 refine nx_end2 rfl results115 Y Y (by exact ⟨by rw [e1, str_app, str_app]; simp [recS], rfl⟩)

theorem rroom_spec (kp rp sz : Nat) (v lv dv pv ov bv : Value) (b0 : Option Addr) (n c0 : Nat) (hz : sz ≤ 4194304) (hn : n ≤ 4194304) : DoesR Tryz.prog 74 #[.pointer (some ⟨kp, 0, none⟩)] [[(kp, .cells #[.pointer (some ⟨rp, 0, none⟩), v, .int .i64 (sz : Int), bv] 156 (0, 0))], [(rp, .cells #[.slice b0 n c0, pv, ov, lv] 136 (0, 0))]] (.int .i64 ((n : Int) - (sz : Int))) := by
 refine spec_enter func74 rfl ntmps74 rfl ?_
 intro u R
 refine Zb [0] ?_
 refine Zq <| Zg <| Za Y <| Z0 <| Zx <| Zq <| at_draw (n := 14) (0 :: 1 :: 3 :: 7 :: 15 :: 31 :: 63 :: 127 :: 0 :: 256 :: 768 :: 1792 :: 4095 :: 8191 :: []) 0 (by kernel_rfl) (by kernel_rfl) rfl ?_
 refine Zi 1 0 rfl (p_move Y) <| Zi 3 1 rfl (p_nilChk Y rfl) <| Zi 7 2 rfl (p_fieldAddr0 (off := 0) underlying156 rfl rfl sizeOf52 Y) <| Zj 15 3 rfl isAgg52 Y ?_
 refine Zi 31 4 rfl (p_nilChk Y rfl) <| Zi 63 5 rfl (p_fieldAddr0 (off := 0) underlying136 rfl rfl sizeOf36 Y) <| Zj 127 6 rfl isAgg36 Y ?_
 refine Zi 255 7 rfl (p_len_slice underlying36 Y) <| Zi 511 8 rfl (p_move Y) <| Zi 1023 9 rfl (p_nilChk Y rfl) <| Zi 2047 10 rfl (p_fieldAddr0 (off := 2) underlying156 rfl rfl sizeOf3 Y) <| Zj 4095 11 rfl isAgg3 Y ?_
 refine lin_w (D' := 8191) 12 rfl rfl rfl (p_sub Y Y (IntWalk.i64_in _ (by omega))) ?_
 refine Zi 16383 13 rfl (p_assign Y) <| lin_nil ?_
 refine Zn [2] ?_
 refine Zx <| at_ret ?_
 refine nx_end1 rfl results74 Y (by exact ⟨rfl, rfl⟩)

theorem ropen_on (rp : Nat) (d : DiskS) (sd : List Chunk) (hR : RdR d rp sd) (hoff : d.off = false) (hk : d.pend.length ≤ 999990) : Does Tryz.prog 71 #[.pointer (some ⟨rp, 0, none⟩)] [sd]
      (fun r H' => (loadL d.vi (d.vi.length + 1) [] zero32 0 = none ∧ r = .tuple #[.pointer none, .int .i64 232] ∧ H' = [sd]) ∨
        (∃ rs h sz v sr kp, loadL d.vi (d.vi.length + 1) [] zero32 0 = some (rs, h, sz) ∧ h = headL zero32 rs ∧ sz ≤ d.vi.length ∧ rs.length ≤ sz ∧ (∀ r ∈ rs, r.length ≤ 65536) ∧ Row 9 v (rs.map strV) sr ∧
          ((d.vi.drop sz = List.replicate (d.vi.length - sz) 0 ∧ r = .tuple #[.pointer (some ⟨kp, 0, none⟩), .int .i64 0] ∧ H' = [[(kp, .cells #[.pointer (some ⟨rp, 0, none⟩), v, .int .i64 (sz : Int), .bool false] 156 (0, 0))], sr, sd]) ∨
           (d.vi.drop sz ≠ List.replicate (d.vi.length - sz) 0 ∧ ∃ sd', RdR (d.zero sz).2 rp sd' ∧ (((d.zero sz).1 = 0 ∧ r = .tuple #[.pointer (some ⟨kp, 0, none⟩), .int .i64 0] ∧ H' = [[(kp, .cells #[.pointer (some ⟨rp, 0, none⟩), v, .int .i64 (sz : Int), .bool false] 156 (0, 0))], sr, sd']) ∨ ((d.zero sz).1 ≠ 0 ∧ r = .tuple #[.pointer none, .int .i64 (d.zero sz).1] ∧ H' = [sd'])))))) := by
 obtain ⟨hok, hco, v0, pv0, sv0, sp0, hr0, hp0, hs0⟩ := id hR
 obtain ⟨b0, c0, hv0⟩ := hr0.form
 rw [List.length_map] at hv0
 subst hv0
 have hvi : d.vi.length ≤ 4194304 := hok.2.2.1
 have hss := str_size d.vi
 obtain ⟨res, hres⟩ : ∃ res, res = loadL d.vi (d.vi.length + 1) [] zero32 0 := ⟨_, rfl⟩
 rw [← hres]
 have hml : maxLen = 9223372036854775807 := rfl
 refine spec_enter func71 rfl ntmps71 rfl ?_
 intro u R
 refine Zb [0] ?_
 refine Zq <| Zg <| Za Y <| Za Y <| Z0 <| Zx <| Zq ?_
 try rw [hok.1]
 refine Zg <| Zm Y <| Zp Y rfl <| Zh 0 underlying136 rfl rfl sizeOf36 Y <| op_rm (cs := [(rp, .cells #[.slice b0 d.du.length c0, pv0, .bool d.off, .int .i64 (d.left : Int)] 136 (0, 0))]) (by simp [hs0]) (p_load isAgg36 Y rfl) rfl rfl ?_
 refine Zv (p_len_slice underlying36 Y) <| Za Y <| Z0 <| Zx <| Zq ?_
 rw [hok.1]
 refine Zg <| Zm Y <| Zm Y <| Zr [_, _, _] Y call121 Y rfl ((by have h := rd_read d rp sd hR 0 d.vi.length (by omega) (by have := hok.2.1; omega) (by omega); rw [hoff] at h; simp only [Bool.false_eq_true, if_false, List.drop_zero, List.take_length] at h; exact h : DoesR Tryz.prog 121 #[.pointer (some ⟨rp, 0, none⟩), .int .i64 ((0 : Nat) : Int), .int .i64 (d.vi.length : Int)] [sd] (.tuple #[.string (str d.vi), .int .i64 0]))) ?_
 rintro _ _ ⟨rfl, rfl⟩
 refine Zm Y <| Zd Y rfl <| Zd Y rfl <| Za Y <| Za Y <| Z0 <| Zn [0, 4, 5, 6] ?_
 refine Zx <| Zq <| Zq <| Zg <| Zm Y ?_
 first | refine op_v (p_neq_nat (n := 0) Y Y) ?_ | refine op_v (p_neq Y Y) ?_
 refine Z0 <| Zx ?_
 first | refine at_if Y (fun hc1 => ?_) (fun hc1 => ?_) | refine at_if_bool Y (fun hc1 => ?_) (fun hc1 => ?_)
 ·
  exact absurd rfl hc1
 ·
  refine at_skip <| Zx <| Zq <| Zg <| Zm Y <| Zv (p_build (vs := [(0, _)]) (cs := #[_, _, _, _]) Y (run_build_struct (pl := #[(0, 1), (1, 1), (2, 1), (3, 1)]) zeroValue156 underlying156 (fun _ => by kernel_rfl) rfl)) ?_
  refine Ze (w_box Y (cs := #[_, _, _, _]) rfl) ?_
  rintro _ _ ⟨kp, rfl, rfl⟩
  refine Za Y <| Z0 <| Zx <| Zq <| at_nil ?_
  refine Zg <| Zr [_] Y call114 Y rfl (rhead_spec (ls := []) (row_nil _) (by decide) (by simp)) ?_
  rintro _ _ ⟨rfl, rfl⟩
  refine Za Y <| Z0 <| Zx <| Zq <| at_block <| at_nil ?_
  refine Zb [8, 0, 4, 5, 7] ?_
  refine at_loopB (e0 := [(8, _)]) (H0 := _) (n := _) (fun m e H => ∃ (f : Nat) (rs : List (List UInt8)) (h : List UInt8) (sz : Nat) (v : Value) (sr : List Chunk), m = 0 + f ∧ (d.vi.length - sz < f ∧ sz ≤ d.vi.length ∧ h = headL zero32 rs ∧ rs.length ≤ sz ∧ (∀ r ∈ rs, r.length ≤ 65536) ∧ Row 9 v (rs.map strV) sr ∧ loadL d.vi f rs h sz = res) ∧ e = [(8, .string (str h))] ∧ H = [[(kp, .cells #[.pointer (some ⟨rp, 0, none⟩), v, .int .i64 (sz : Int), .bool false] 156 (0, 0))], sr]) (by exact ⟨d.vi.length + 1, [], zero32, 0, _, [], rfl, ⟨by omega, Nat.zero_le _, rfl, Nat.zero_le _, by simp, row_nil _, hres.symm⟩, rfl, rfl⟩) (by repeat (first | exact Pull.nil _ | (apply Pull.cons; (focus (repeat (first | exact One.here _ _ | apply One.there)))))) ?_
  rintro _ _ _ ⟨f, rs, h, sz, v, sr, rfl, ⟨hf, hz, hh, hn, hsh, hrow, hinv⟩, rfl, rfl⟩
  obtain ⟨gv, cv, rfl⟩ := hrow.form
  have h32 : h.length = 32 := by rw [hh]; exact headL_len rs zero32 rfl
  refine Zq <| Zq <| Zg <| Zm Y <| Zp Y rfl <| Zh 2 underlying156 rfl rfl sizeOf3 Y <| Zl isAgg3 Y ?_
  refine Zm Y ?_
  first | refine op_v (p_lss_nat Y Y) ?_ | refine op_v (p_lss Y Y) ?_
  refine Zm Y ?_
  first | refine ops_split (t := 37) Y rfl (fun hlt => ?_) (fun hlt => ?_) | refine ops_split_bool (t := 37) Y rfl (fun hlt => ?_) (fun hlt => ?_)
  ·
   refine Zf Y Y <| Zf Y Y <| op_wg Y (p_nilChk Y rfl) rfl rfl ?_
   refine op_wg Y (p_fieldAddr0 (off := 2) underlying156 rfl rfl sizeOf3 Y) rfl rfl ?_
   refine op_rg Y (by repeat (first | exact Has.here _ | apply Has.there)) (p_load isAgg3 Y (by rfl)) rfl rfl ?_
   (refine op_wg Y (p_index_str underlying9 Y Y (byteAt_get _ _ ?_)) rfl rfl ?_; (focus (omega)))
   first | refine op_wg Y (p_neq_nat (n := 0) Y Y) rfl rfl ?_ | refine op_wg Y (p_neq Y Y) rfl rfl ?_
   refine Zv (p_pick_t Y Y) <| Z0 <| Zn [0, 4, 5, 7, 8, 45] ?_
   refine Zx ?_
   first | refine at_if Y (fun hb0 => ?_) (fun hb0 => ?_) | refine at_if_bool Y (fun hb0 => ?_) (fun hb0 => ?_)
   ·
    refine at_skip <| Zx <| at_block <| Zq ?_
    obtain ⟨r, k, e, hRe, hRc⟩ := strR_cases d.vi (sz + 1)
    have hstr := rstring_spec d.vi (sz + 1) (by omega) (by omega)
    rw [hRe] at hstr
    refine Zg <| Zm Y <| Zm Y <| Zp Y rfl <| Zh 2 underlying156 rfl rfl sizeOf3 Y <| Zl isAgg3 Y ?_
    first | (refine op_v (p_add_nat (n := 1) Y Y ?_) ?_; (focus (omega))) | (refine op_v (p_add Y Y (IntWalk.i64_in _ ?_)) ?_; (focus (omega)))
    refine Zr [_, _] Y call122 Y rfl (hstr) ?_
    rintro _ _ ⟨rfl, rfl⟩
    refine Zm Y <| Zd Y rfl <| Zd Y rfl <| Zd Y rfl <| Za Y <| Za Y <| Za Y <| Z0 <| Zn [0, 4, 5, 7, 8, 9, 10, 11] ?_
    refine Zx <| Zq <| Zq <| Zg <| Zm Y <| Zm Y <| Zp Y rfl <| Zh 2 underlying156 rfl rfl sizeOf3 Y <| Zl isAgg3 Y ?_
    (refine op_v (p_index_str underlying9 Y Y (byteAt_get _ _ ?_)) ?_; (focus (omega)))
    first | refine op_v (p_neq_nat (n := 1) Y Y) ?_ | refine op_v (p_neq Y Y) ?_
    refine Zm Y ?_
    first | refine ops_split (t := 64) Y rfl (fun hb1 => ?_) (fun hb1 => ?_) | refine ops_split_bool (t := 64) Y rfl (fun hb1 => ?_) (fun hb1 => ?_)
    ·
     refine op_skip Y rfl <| op_skip Y rfl <| Zv (p_pick_t Y Y) <| Z0 <| Zx <| at_then Y <| Zq <| Zg <| Za Y <| Za Y <| Z0 <| Zn [2, 3] ?_
     refine Zx <| at_ret <| Zt <| nx_block_ret <| Zt <| nx_block_ret <| Zt ?_
     refine nx_end2 rfl results71 Y Y (by exact .inl ⟨by first | exact load_bad1 hinv hf (by omega) (by omega) (by omega) | exact load_bad2 hinv hf (by omega) (by omega) (by omega) (hRc.resolve_left (fun h => he h.1)).2.1, rfl, rfl⟩)
    ·
     refine Zf Y Y ?_
     first | refine op_wg Y (p_neq_nat (n := 0) Y Y) rfl rfl ?_ | refine op_wg Y (p_neq Y Y) rfl rfl ?_
     refine Zv (p_pick_f Y Y) <| Z0 <| Zx ?_
     first | refine at_if Y (fun he => ?_) (fun he => ?_) | refine at_if_bool Y (fun he => ?_) (fun he => ?_)
     ·
      refine Zq <| Zg <| Za Y <| Za Y <| Z0 <| Zn [2, 3] ?_
      refine Zx <| at_ret <| Zt <| nx_block_ret <| Zt <| nx_block_ret <| Zt ?_
      refine nx_end2 rfl results71 Y Y (by exact .inl ⟨by first | exact load_bad1 hinv hf (by omega) (by omega) (by omega) | exact load_bad2 hinv hf (by omega) (by omega) (by omega) (hRc.resolve_left (fun h => he h.1)).2.1, rfl, rfl⟩)
     ·
      have hd := (hRc.resolve_right (fun h => h.1 (by omega))).2
      have hda := decS_at hd
      have hat1 : d.vi[sz]? = some 1 := by
        rw [byte_get d.vi sz (by omega)]; exact congrArg some (UInt8.toNat_inj.1 (by have : (1 : UInt8).toNat = 1 := rfl; omega))
      refine at_skip <| Zx <| Zq <| Zg <| Zm Y <| Zm Y <| Zr [_, _] Y call123 Y rfl (rchain_spec h r (by have := hda.2.2; omega)) ?_
      rintro _ _ ⟨rfl, rfl⟩
      refine Za Y <| Z0 <| Zn [0, 4, 5, 7, 8, 9, 10] ?_
      refine Zx <| Zq <| Zq <| Zg <| Zm Y ?_
      first | (refine op_v (p_add_nat (n := 32) Y Y ?_) ?_; (focus (omega))) | (refine op_v (p_add Y Y (IntWalk.i64_in _ ?_)) ?_; (focus (omega)))
      refine Zm Y ?_
      first | refine op_v (p_gtr_nat Y Y) ?_ | refine op_v (p_gtr Y Y) ?_
      refine Zm Y ?_
      first | refine ops_split (t := 75) Y rfl (fun hk32 => ?_) (fun hk32 => ?_) | refine ops_split_bool (t := 75) Y rfl (fun hk32 => ?_) (fun hk32 => ?_)
      ·
       refine op_skip Y rfl <| op_skip Y rfl <| op_skip Y rfl <| op_skip Y rfl <| op_skip Y rfl <| op_skip Y rfl <| op_skip Y rfl <| Zv (p_pick_t Y Y) <| Z0 <| Zn [0, 4, 5, 7, 8, 9, 10, 83] ?_
       refine Zx <| at_then Y <| Zq <| Zg <| Za Y <| Za Y <| Z0 <| Zx <| at_ret <| Zt <| nx_block_ret <| Zt <| nx_block_ret <| Zt ?_
       refine nx_end2 rfl results71 Y Y (by exact .inl ⟨by first | exact load_bad3 hinv hf (by omega) (by omega) (by omega) hd (fun h => by omega) | exact load_bad3 hinv hf (by omega) (by omega) (by omega) hd (fun h9 => hne (by rw [hex, hse.1 h9.2])), rfl, rfl⟩)
      ·
       obtain ⟨hse, hlen⟩ := stored_eq h hd hat1 (by omega)
       have hex : (str d.vi).extract k (k + 32) = str ((d.vi.drop k).take 32) := extract_str d.vi k 32
       refine Zf Y Y <| Zf Y Y <| Zf Y Y ?_
       first | (refine op_wg Y (p_add_nat (n := 32) Y Y ?_) rfl rfl ?_; (focus (omega))) | (refine op_wg Y (p_add Y Y (IntWalk.i64_in _ ?_)) rfl rfl ?_; (focus (omega)))
       (refine op_wg Y (p_slice_str underlying9 Y Y Y ?_ ?_) rfl rfl ?_; (focus (omega)); (focus (omega)))
       refine Zf Y Y <| op_wg Y (p_neq_str Y Y) rfl rfl ?_
       refine Zv (p_pick_f Y Y) <| Z0 <| Zn [0, 4, 5, 7, 8, 9, 10, 83] ?_
       refine Zx ?_
       first | refine at_if Y (fun hne => ?_) (fun hne => ?_) | refine at_if_bool Y (fun hne => ?_) (fun hne => ?_)
       ·
        refine Zq <| Zg <| Za Y <| Za Y <| Z0 <| Zx <| at_ret <| Zt <| nx_block_ret <| Zt <| nx_block_ret <| Zt ?_
        refine nx_end2 rfl results71 Y Y (by exact .inl ⟨by first | exact load_bad3 hinv hf (by omega) (by omega) (by omega) hd (fun h => by omega) | exact load_bad3 hinv hf (by omega) (by omega) (by omega) hd (fun h9 => hne (by rw [hex, hse.1 h9.2])), rfl, rfl⟩)
       ·
        have heq := hse.2 (str_inj (by rw [← hex]; exact Classical.not_not.1 hne))
        have hnext := load_next hinv hf (by omega) (by omega) (by omega) hd ⟨by omega, heq⟩
        refine at_skip <| Zx <| Zq <| Zg <| Zm Y <| Zm Y <| Zp Y rfl <| Zh 1 underlying156 rfl rfl sizeOf43 Y <| Zl isAgg43 Y ?_
        refine Zm Y <| Ze (w_buildSlice (vs := [_]) (cs := [_]) underlying43 sizeOf9 zeroValue9 Y rfl rfl rfl rfl rfl) ?_
        rintro _ _ ⟨gb, rfl, rfl⟩
        refine Ze (w_append (by_ := 16) (news := [_]) underlying43 (rfl : Tryz.prog.info? 9 = some Tryz.t9) rfl rfl rfl rfl Y hrow Y (by repeat (first | exact One.here _ _ | apply One.there)) (by repeat (first | exact Has.here _ | apply Has.there)) (by rfl) rfl (by simp [Value.oneCell']) (by decide) (by (simp only [List.length_map]; omega)) (by (simp only [List.length_map]; omega))) ?_
        rintro _ _ ⟨sq, hrq, rfl⟩
        obtain ⟨gq, cq, rfl⟩ := hrq.form
        refine Zp Y rfl <| Zh 1 underlying156 rfl rfl sizeOf43 Y <| Ze (Zs sizeOf43 Y Y rfl) ?_
        rintro _ _ ⟨rfl, rfl⟩
        refine Z0 <| Zx <| Zg <| Zm Y <| Zm Y ?_
        first | (refine op_v (p_add_nat (n := 32) Y Y ?_) ?_; (focus (omega))) | (refine op_v (p_add Y Y (IntWalk.i64_in _ ?_)) ?_; (focus (omega)))
        refine Zp Y rfl <| Zh 2 underlying156 rfl rfl sizeOf3 Y <| Ze (Zs sizeOf3 Y Y rfl) ?_
        rintro _ _ ⟨rfl, rfl⟩
        refine Z0 <| Zn [0, 4, 5, 7, 8] ?_
        refine nx_block_normal <| Zn [8, 0, 4, 5, 7] ?_
        refine nx_againB (e' := [(8, _)]) (m := _) (H' := _) (by
              exact ⟨f - 1, rs ++ [r], chainS h r, k + 32, _, _, rfl, ⟨by omega, by omega, by rw [hh, headL_snoc], by rw [List.length_append, List.length_singleton]; omega, by
                intro x hx; rcases List.mem_append.1 hx with h9 | h9
                · exact hsh x h9
                · rw [List.mem_singleton.1 h9]; exact hda.2.2, by rw [List.map_append]; exact hrq, by rw [hlen] at hnext; exact hnext⟩, rfl, rfl⟩)
   ·
    have hend := load_end hinv (.inr (by omega))
    refine at_exit <| Zt <| Zt <| nx_block_exit <| Zx <| Zq <| Zg <| Zm Y <| Zm Y <| Zp Y rfl <| Zh 2 underlying156 rfl rfl sizeOf3 Y <| Zl isAgg3 Y ?_
    first | (refine op_v (p_sub_nat Y Y ?_ ?_) ?_; (focus (omega)); (focus (omega))) | (refine op_v (p_sub Y Y (IntWalk.i64_in _ ?_)) ?_; (focus (omega)))
    refine Ze (w_makeSlice (by_ := 1) underlying36 (rfl : Tryz.prog.info? 5 = some Tryz.t5) rfl rfl rfl rfl Y Y ?_ ?_ ?_) ?_
    (focus (omega))
    (focus (omega))
    (focus (omega))
    rintro _ _ ⟨b4, rfl, rfl⟩
    refine Zo (by repeat (first | exact Has.here _ | apply Has.there)) (p_conv_bytes_str underlying36 underlying5 underlying9 Y (by exact (show (_ = List.map u8v (List.replicate (d.vi.length - sz) 0)) ∧ _ from ⟨by simp [u8v], by simp⟩))) ?_
    refine Za Y <| Z0 <| Zx <| Zq <| Zq <| Zg <| Zm Y <| Zm Y <| Zp Y rfl <| Zh 2 underlying156 rfl rfl sizeOf3 Y <| Zl isAgg3 Y ?_
    refine op_w (p_slice_drop underlying9 Y Y hz) rfl rfl ?_
    refine Zm Y <| Zv (p_neq_str Y Y) <| Z0 <| Zn [0, 7, 12, 114] ?_
    refine Zx ?_
    first | refine at_if Y (fun hta => ?_) (fun hta => ?_) | refine at_if_bool Y (fun hta => ?_) (fun hta => ?_)
    ·
     have hne0 : d.vi.drop sz ≠ List.replicate (d.vi.length - sz) 0 := fun e => hta (by rw [e])
     have hlt9 : sz < d.vi.length := by
       rcases Nat.lt_or_ge sz d.vi.length with h9 | h9
       · exact h9
       · exact absurd (by rw [List.drop_of_length_le h9, show d.vi.length - sz = 0 by omega]; rfl) hne0
     refine Zq <| Zg <| Zm Y <| Zm Y <| Zp Y rfl <| Zh 2 underlying156 rfl rfl sizeOf3 Y <| Zl isAgg3 Y ?_
     refine Zm Y <| Zc [_, _, _] Y call22 Y rfl (rd_write d rp sd hR sz (List.replicate (d.vi.length - sz) 0) (by rw [List.length_replicate]; omega) (by omega)) ?_
     rintro _ _ ⟨_, ⟨s1, rfl, rfl, hR1⟩, rfl⟩
     obtain ⟨p1, hp1⟩ : ∃ p, p = d.write sz (List.replicate (d.vi.length - sz) 0) := ⟨_, rfl⟩
     have hpd := write_pend d sz (List.replicate (d.vi.length - sz) 0)
     have hzero : d.zero sz = if p1.1 ≠ 0 then p1 else p1.2.sync := by rw [hp1]; rfl
     rw [← hp1] at hR1 hpd ⊢
     refine Za Y <| Z0 <| Zx <| Zq <| Zq <| Zg <| Zm Y ?_
     first | refine op_v (p_eql_nat (n := 0) Y Y) ?_ | refine op_v (p_eql Y Y) ?_
     refine Z0 <| Zx ?_
     first | refine at_if Y (fun hq1 => ?_) (fun hq1 => ?_) | refine at_if_bool Y (fun hq1 => ?_) (fun hq1 => ?_)
     ·
      rw [if_neg (fun h => h hq1)] at hzero
      refine Zg <| Zm Y <| Zc [_] Y call116 Y rfl (rd_sync p1.2 rp s1 hR1 (by omega)) ?_
      rintro _ _ ⟨_, ⟨s2, rfl, rfl, hR2⟩, rfl⟩
      rw [← hzero] at hR2 ⊢
      refine Za Y <| Z0 <| Zn [6, 7] ?_
      refine Zx <| Zq <| Zg <| Zm Y ?_
      first | refine op_v (p_neq_nat (n := 0) Y Y) ?_ | refine op_v (p_neq Y Y) ?_
      refine Z0 <| Zx ?_
      first | refine at_if Y (fun hq2 => ?_) (fun hq2 => ?_) | refine at_if_bool Y (fun hq2 => ?_) (fun hq2 => ?_)
      ·
       refine Zq <| Zg <| Zm Y <| Za Y <| Za Y <| Z0 <| Zx <| at_ret <| Zt ?_
       refine nx_end2 rfl results71 Y Y (by exact .inr ⟨rs, h, sz, _, sr, kp, hend, hh, hz, hn, hsh, hrow, .inr ⟨hne0, _, by first | exact hR2 | exact hR1, .inr ⟨hq2, rfl, rfl⟩⟩⟩)
      ·
       refine at_skip <| Zx <| Zq <| Zg <| Zm Y <| Za Y <| Za Y <| Z0 <| Zx <| at_ret ?_
       refine nx_end2 rfl results71 Y Y (by first | exact .inr ⟨rs, h, sz, _, sr, kp, hend, hh, hz, hn, hsh, hrow, .inl ⟨heq0, rfl, rfl⟩⟩ | exact .inr ⟨rs, h, sz, _, sr, kp, hend, hh, hz, hn, hsh, hrow, .inr ⟨hne0, _, by first | exact hR2 | exact hR1, .inl ⟨Classical.not_not.1 hq2, rfl, rfl⟩⟩⟩)
     ·
      rw [if_pos hq1] at hzero
      rw [← hzero] at hR1 hq1 ⊢
      refine at_skip <| Zx <| Zq <| Zg <| Zm Y ?_
      first | refine op_v (p_neq_nat (n := 0) Y Y) ?_ | refine op_v (p_neq Y Y) ?_
      refine Z0 <| Zx ?_
      first | refine at_if Y (fun hq2 => ?_) (fun hq2 => ?_) | refine at_if_bool Y (fun hq2 => ?_) (fun hq2 => ?_)
      ·
       refine Zq <| Zg <| Zm Y <| Za Y <| Za Y <| Z0 <| Zn [2, 3] ?_
       refine Zx <| at_ret <| Zt ?_
       refine nx_end2 rfl results71 Y Y (by exact .inr ⟨rs, h, sz, _, sr, kp, hend, hh, hz, hn, hsh, hrow, .inr ⟨hne0, _, by first | exact hR2 | exact hR1, .inr ⟨hq2, rfl, rfl⟩⟩⟩)
      ·
       refine at_skip <| Zx <| Zq <| Zg <| Zm Y <| Za Y <| Za Y <| Z0 <| Zn [2, 3] ?_
       refine Zx <| at_ret ?_
       refine nx_end2 rfl results71 Y Y (by first | exact .inr ⟨rs, h, sz, _, sr, kp, hend, hh, hz, hn, hsh, hrow, .inl ⟨heq0, rfl, rfl⟩⟩ | exact .inr ⟨rs, h, sz, _, sr, kp, hend, hh, hz, hn, hsh, hrow, .inr ⟨hne0, _, by first | exact hR2 | exact hR1, .inl ⟨Classical.not_not.1 hq2, rfl, rfl⟩⟩⟩)
    ·
     have heq0 : d.vi.drop sz = List.replicate (d.vi.length - sz) 0 := str_inj (Classical.not_not.1 hta)
     refine at_skip <| Zx <| Zq <| Zg <| Zm Y <| Za Y <| Za Y <| Z0 <| Zx <| at_ret ?_
     refine nx_end2 rfl results71 Y Y (by first | exact .inr ⟨rs, h, sz, _, sr, kp, hend, hh, hz, hn, hsh, hrow, .inl ⟨heq0, rfl, rfl⟩⟩ | exact .inr ⟨rs, h, sz, _, sr, kp, hend, hh, hz, hn, hsh, hrow, .inr ⟨hne0, _, by first | exact hR2 | exact hR1, .inl ⟨Classical.not_not.1 hq2, rfl, rfl⟩⟩⟩)
  ·
   have hend := load_end hinv (.inl (by omega))
   refine op_skip Y rfl <| op_skip Y rfl <| op_skip Y rfl <| op_skip Y rfl <| op_skip Y rfl <| op_skip Y rfl <| op_skip Y rfl <| Zv (p_pick_f Y Y) <| Z0 <| Zn [0, 4, 5, 7, 8, 45] ?_
   refine Zx <| at_else Y <| at_exit <| Zt <| Zt <| nx_block_exit <| Zx <| Zq <| Zg <| Zm Y <| Zm Y <| Zp Y rfl <| Zh 2 underlying156 rfl rfl sizeOf3 Y <| Zl isAgg3 Y ?_
   first | (refine op_v (p_sub_nat Y Y ?_ ?_) ?_; (focus (omega)); (focus (omega))) | (refine op_v (p_sub Y Y (IntWalk.i64_in _ ?_)) ?_; (focus (omega)))
   refine Ze (w_makeSlice (by_ := 1) underlying36 (rfl : Tryz.prog.info? 5 = some Tryz.t5) rfl rfl rfl rfl Y Y ?_ ?_ ?_) ?_
   (focus (omega))
   (focus (omega))
   (focus (omega))
   rintro _ _ ⟨b5, rfl, rfl⟩
   refine Zo (by repeat (first | exact Has.here _ | apply Has.there)) (p_conv_bytes_str underlying36 underlying5 underlying9 Y (by exact (show (_ = List.map u8v (List.replicate (d.vi.length - sz) 0)) ∧ _ from ⟨by simp [u8v], by simp⟩))) ?_
   refine Za Y <| Z0 <| Zx <| Zq <| Zq <| Zg <| Zm Y <| Zm Y <| Zp Y rfl <| Zh 2 underlying156 rfl rfl sizeOf3 Y <| Zl isAgg3 Y ?_
   refine op_w (p_slice_drop underlying9 Y Y hz) rfl rfl ?_
   refine Zm Y <| Zv (p_neq_str Y Y) <| Z0 <| Zn [0, 7, 12, 114] ?_
   refine Zx ?_
   first | refine at_if Y (fun hta => ?_) (fun hta => ?_) | refine at_if_bool Y (fun hta => ?_) (fun hta => ?_)
   ·
    have hne0 : d.vi.drop sz ≠ List.replicate (d.vi.length - sz) 0 := fun e => hta (by rw [e])
    have hlt9 : sz < d.vi.length := by
      rcases Nat.lt_or_ge sz d.vi.length with h9 | h9
      · exact h9
      · exact absurd (by rw [List.drop_of_length_le h9, show d.vi.length - sz = 0 by omega]; rfl) hne0
    refine Zq <| Zg <| Zm Y <| Zm Y <| Zp Y rfl <| Zh 2 underlying156 rfl rfl sizeOf3 Y <| Zl isAgg3 Y ?_
    refine Zm Y <| Zc [_, _, _] Y call22 Y rfl (rd_write d rp sd hR sz (List.replicate (d.vi.length - sz) 0) (by rw [List.length_replicate]; omega) (by omega)) ?_
    rintro _ _ ⟨_, ⟨s1, rfl, rfl, hR1⟩, rfl⟩
    obtain ⟨p1, hp1⟩ : ∃ p, p = d.write sz (List.replicate (d.vi.length - sz) 0) := ⟨_, rfl⟩
    have hpd := write_pend d sz (List.replicate (d.vi.length - sz) 0)
    have hzero : d.zero sz = if p1.1 ≠ 0 then p1 else p1.2.sync := by rw [hp1]; rfl
    rw [← hp1] at hR1 hpd ⊢
    refine Za Y <| Z0 <| Zx <| Zq <| Zq <| Zg <| Zm Y ?_
    first | refine op_v (p_eql_nat (n := 0) Y Y) ?_ | refine op_v (p_eql Y Y) ?_
    refine Z0 <| Zx ?_
    first | refine at_if Y (fun hq1 => ?_) (fun hq1 => ?_) | refine at_if_bool Y (fun hq1 => ?_) (fun hq1 => ?_)
    ·
     rw [if_neg (fun h => h hq1)] at hzero
     refine Zg <| Zm Y <| Zc [_] Y call116 Y rfl (rd_sync p1.2 rp s1 hR1 (by omega)) ?_
     rintro _ _ ⟨_, ⟨s2, rfl, rfl, hR2⟩, rfl⟩
     rw [← hzero] at hR2 ⊢
     refine Za Y <| Z0 <| Zn [6, 7] ?_
     refine Zx <| Zq <| Zg <| Zm Y ?_
     first | refine op_v (p_neq_nat (n := 0) Y Y) ?_ | refine op_v (p_neq Y Y) ?_
     refine Z0 <| Zx ?_
     first | refine at_if Y (fun hq2 => ?_) (fun hq2 => ?_) | refine at_if_bool Y (fun hq2 => ?_) (fun hq2 => ?_)
     ·
      refine Zq <| Zg <| Zm Y <| Za Y <| Za Y <| Z0 <| Zx <| at_ret <| Zt ?_
      refine nx_end2 rfl results71 Y Y (by exact .inr ⟨rs, h, sz, _, sr, kp, hend, hh, hz, hn, hsh, hrow, .inr ⟨hne0, _, by first | exact hR2 | exact hR1, .inr ⟨hq2, rfl, rfl⟩⟩⟩)
     ·
      refine at_skip <| Zx <| Zq <| Zg <| Zm Y <| Za Y <| Za Y <| Z0 <| Zx <| at_ret ?_
      refine nx_end2 rfl results71 Y Y (by first | exact .inr ⟨rs, h, sz, _, sr, kp, hend, hh, hz, hn, hsh, hrow, .inl ⟨heq0, rfl, rfl⟩⟩ | exact .inr ⟨rs, h, sz, _, sr, kp, hend, hh, hz, hn, hsh, hrow, .inr ⟨hne0, _, by first | exact hR2 | exact hR1, .inl ⟨Classical.not_not.1 hq2, rfl, rfl⟩⟩⟩)
    ·
     rw [if_pos hq1] at hzero
     rw [← hzero] at hR1 hq1 ⊢
     refine at_skip <| Zx <| Zq <| Zg <| Zm Y ?_
     first | refine op_v (p_neq_nat (n := 0) Y Y) ?_ | refine op_v (p_neq Y Y) ?_
     refine Z0 <| Zx ?_
     first | refine at_if Y (fun hq2 => ?_) (fun hq2 => ?_) | refine at_if_bool Y (fun hq2 => ?_) (fun hq2 => ?_)
     ·
      refine Zq <| Zg <| Zm Y <| Za Y <| Za Y <| Z0 <| Zn [2, 3] ?_
      refine Zx <| at_ret <| Zt ?_
      refine nx_end2 rfl results71 Y Y (by exact .inr ⟨rs, h, sz, _, sr, kp, hend, hh, hz, hn, hsh, hrow, .inr ⟨hne0, _, by first | exact hR2 | exact hR1, .inr ⟨hq2, rfl, rfl⟩⟩⟩)
     ·
      refine at_skip <| Zx <| Zq <| Zg <| Zm Y <| Za Y <| Za Y <| Z0 <| Zn [2, 3] ?_
      refine Zx <| at_ret ?_
      refine nx_end2 rfl results71 Y Y (by first | exact .inr ⟨rs, h, sz, _, sr, kp, hend, hh, hz, hn, hsh, hrow, .inl ⟨heq0, rfl, rfl⟩⟩ | exact .inr ⟨rs, h, sz, _, sr, kp, hend, hh, hz, hn, hsh, hrow, .inr ⟨hne0, _, by first | exact hR2 | exact hR1, .inl ⟨Classical.not_not.1 hq2, rfl, rfl⟩⟩⟩)
   ·
    have heq0 : d.vi.drop sz = List.replicate (d.vi.length - sz) 0 := str_inj (Classical.not_not.1 hta)
    refine at_skip <| Zx <| Zq <| Zg <| Zm Y <| Za Y <| Za Y <| Z0 <| Zx <| at_ret ?_
    refine nx_end2 rfl results71 Y Y (by first | exact .inr ⟨rs, h, sz, _, sr, kp, hend, hh, hz, hn, hsh, hrow, .inl ⟨heq0, rfl, rfl⟩⟩ | exact .inr ⟨rs, h, sz, _, sr, kp, hend, hh, hz, hn, hsh, hrow, .inr ⟨hne0, _, by first | exact hR2 | exact hR1, .inl ⟨Classical.not_not.1 hq2, rfl, rfl⟩⟩⟩)

theorem rroom_st {d : DiskS} {rp : Nat} {sd : List Chunk} (hR : RdR d rp sd) (kp sz : Nat) (v bv : Value) (hz : sz ≤ 4194304) : DoesR Tryz.prog 74 #[.pointer (some ⟨kp, 0, none⟩)] [[(kp, .cells #[.pointer (some ⟨rp, 0, none⟩), v, .int .i64 (sz : Int), bv] 156 (0, 0))], sd] (.int .i64 ((d.vi.length : Int) - (sz : Int))) := by
  obtain ⟨hok, hco, v0, pv0, sv0, sp0, hr0, hp0, rfl⟩ := hR
  obtain ⟨b0, c0, hv0⟩ := hr0.form
  rw [List.length_map, hok.1] at hv0
  subst hv0
  have h4 : d.vi.length ≤ 4194304 := hok.2.2.1
  refine does_mono (does_frame (rroom_spec kp rp sz v (.int .i64 (d.left : Int)) .nilFunc pv0 (.bool d.off) bv b0 d.vi.length c0 hz h4) [sv0 ++ sp0] (by simp)) ?_
  rintro r _ ⟨H2, ⟨rfl, rfl⟩, rfl⟩
  exact ⟨_, ⟨rfl, rfl⟩, by simp⟩

theorem rappend_main (kp rp sz : Nat) (v lv : Value) (rs ls : List (List UInt8)) (sr sl sd : List Chunk) (h : List UInt8) (d : DiskS)
    (hrow : Row 9 v (rs.map strV) sr) (hl : Row 9 lv (ls.map strV) sl) (hh : h = headL zero32 rs) (hz : sz ≤ d.vi.length) (hn : rs.length ≤ 4194304) (hsh : ∀ r ∈ rs, r.length ≤ 65536) (hshort : ∀ r ∈ ls, r.length ≤ 65536) (hls : ls.length ≤ 1000000) (hR : RdR d rp sd) (hk : d.pend.length ≤ 999990) (q : Int × JrS × DiskS) (hq : q = JrS.append ⟨rs, h, sz, false⟩ d ls) :
    Does Tryz.prog 63 #[.pointer (some ⟨kp, 0, none⟩), lv] [[(kp, .cells #[.pointer (some ⟨rp, 0, none⟩), v, .int .i64 (sz : Int), .bool false] 156 (0, 0))], sr, sl, sd] (fun r H' => ∃ v' sr' s', r = .int .i64 q.1 ∧ Row 9 v' (q.2.1.rs.map strV) sr' ∧ RdR q.2.2 rp s' ∧ H' = [[(kp, .cells #[.pointer (some ⟨rp, 0, none⟩), v', .int .i64 (q.2.1.sz : Int), .bool q.2.1.br] 156 (0, 0))], sr', sl, s']) := by
 have hvi : d.vi.length ≤ 4194304 := hR.1.2.2.1
 have hany : ls.any isLong = false := isLong_none hshort
 unfold JrS.append at hq
 rw [if_neg (by rw [hany]; simp)] at hq
 simp only at hq
 obtain ⟨gv, cv, rfl⟩ := hrow.form
 obtain ⟨gl, cl, rfl⟩ := hl.form
 have h32 : h.length = 32 := by rw [hh]; exact headL_len rs zero32 rfl
 have hml : maxLen = 9223372036854775807 := rfl
 refine spec_enter func63 rfl ntmps63 rfl ?_
 intro u R
 refine Zb [0, 1] ?_
 refine Zq <| Zg <| Za Y <| Z0 <| Zx <| Zq <| Zq <| Zg <| Zm Y <| Zp Y rfl <| Zh 3 underlying156 rfl rfl sizeOf4 Y <| Zl isAgg4 Y ?_
 refine Z0 <| Zx ?_
 refine at_if_bool Y (fun hc1 => ?_) (fun hc1 => ?_)
 ·
  cases hc1
 ·
  refine at_skip <| Zx <| Zq <| Zg <| Za Y <| Z0 <| Zx <| Zq <| Zg <| Zm Y <| Zp Y rfl <| Zh 1 underlying156 rfl rfl sizeOf43 Y <| Zl isAgg43 Y ?_
  refine Zr [_] Y call114 Y rfl (rhead_spec hrow (by omega) (fun r hr => by have := hsh r hr; omega)) ?_
  rintro _ _ ⟨rfl, rfl⟩
  rw [← hh]
  refine Za Y <| Z0 <| Zx <| Zq <| Zq <| Zg <| Za Y <| Z0 <| Zn [0, 1, 5, 6, 7] ?_
  refine Zx <| at_block <| Zb [5, 6, 7, 0, 1] ?_
  refine at_loopB (e0 := [(5, _), (6, _), (7, _)]) (H0 := _) (n := _) (fun m e H => ∃ (i : Nat), m = ls.length - i ∧ (i ≤ ls.length) ∧ e = [(5, .string (str (outL h (ls.take i)))), (6, .string (str (headL h (ls.take i)))), (7, .int .i64 (i : Int))] ∧ H = []) (by exact ⟨0, rfl, Nat.zero_le _, rfl, rfl⟩) (by repeat (first | exact Pull.nil _ | (apply Pull.cons; (focus (repeat (first | exact One.here _ _ | apply One.there)))))) ?_
  rintro _ _ _ ⟨i, rfl, hi, rfl, rfl⟩
  refine Zq <| Zq <| Zg <| Zm Y <| Zm Y <| Zv (p_len_slice underlying43 Y) ?_
  first | refine op_v (p_lss_nat Y Y) ?_ | refine op_v (p_lss Y Y) ?_
  refine Z0 <| Zx ?_
  first | refine at_if Y (fun hlt => ?_) (fun hlt => ?_) | refine at_if_bool Y (fun hlt => ?_) (fun hlt => ?_)
  ·
   rw [List.length_map] at hlt
   refine at_skip <| Zx <| Zq <| at_block <| Zq <| Zq ?_
   obtain ⟨x, hx⟩ : ∃ x, ls[i]? = some x := ⟨_, List.getElem?_eq_getElem hlt⟩
   have hxl := hshort x (List.mem_of_getElem? hx)
   obtain ⟨gk, ck, curk, zk, hvk, rfl, hink⟩ := row_in hl (by rw [List.length_map]; omega)
   injection hvk with e1 e2 e3
   subst e1 e3
   have hcell := cellAt hink hx
   have htk : ls.take (i + 1) = ls.take i ++ [x] := by rw [List.take_add_one, hx]; rfl
   have hol := outL_len (ls.take i) h (fun r hr => hshort r (List.mem_of_mem_take hr))
   have htl : (ls.take i).length ≤ i := List.length_take_le ..
   have hrl := recS_len (headL h (ls.take i)) x hxl
   have hel := encS_len x hxl
   have hxs := str_size x
   refine Zg <| Zm Y <| Zm Y ?_
   first | (refine op_v (p_indexAddr_nat0 underlying43 sizeOf9 Y Y ?_) ?_; (focus (first | omega | (rw [List.length_map]; omega)))) | (refine op_v (p_indexAddr_nat1 underlying43 sizeOf9 Y Y ?_) ?_; (focus (first | omega | (rw [List.length_map]; omega))))
   refine Zl isAgg9 Y (hv := by first | exact hcell | (rw [Nat.mul_one]; exact hcell) | simpa using hcell) ?_
   refine Zv (p_len_str underlying9 Y) ?_
   first | refine op_v (p_gtr_nat (n := 65536) Y Y) ?_ | refine op_v (p_gtr Y Y) ?_
   refine Z0 <| Zx ?_
   first | refine at_if Y (fun hc2 => ?_) (fun hc2 => ?_) | refine at_if_bool Y (fun hc2 => ?_) (fun hc2 => ?_)
   ·
    exfalso; omega
   ·
    refine at_skip <| Zx <| Zq <| Zg <| Zm Y <| Zm Y <| Zm Y ?_
    first | (refine op_v (p_indexAddr_nat0 underlying43 sizeOf9 Y Y ?_) ?_; (focus (first | omega | (rw [List.length_map]; omega)))) | (refine op_v (p_indexAddr_nat1 underlying43 sizeOf9 Y Y ?_) ?_; (focus (first | omega | (rw [List.length_map]; omega))))
    refine Zl isAgg9 Y (hv := by first | exact hcell | (rw [Nat.mul_one]; exact hcell) | simpa using hcell) ?_
    refine Zr [_, _] Y call115 Y rfl (rstored_spec (headL h (ls.take i)) x (headL_len _ _ h32) hxl) ?_
    rintro _ _ ⟨rfl, rfl⟩
    refine Zm Y <| Zd Y rfl <| Zd Y rfl <| Za Y <| Za Y <| Z0 <| Zn [0, 1, 5, 7, 8, 9] ?_
    refine Zx <| Zq <| Zg <| Zm Y <| Zm Y ?_
    (refine op_v (p_add_str Y Y ?_) ?_; (focus (rw [str_size, str_size]; omega)))
    refine Za Y <| Z0 <| Zx <| Zg <| Zm Y <| Za Y <| Z0 <| nx_block_normal <| Zx <| Zg <| Zm Y ?_
    first | (refine op_v (p_add_nat (n := 1) Y Y ?_) ?_; (focus (omega))) | (refine op_v (p_add Y Y (IntWalk.i64_in _ ?_)) ?_; (focus (omega)))
    refine Za Y <| Z0 <| Zn [5, 6, 7, 0, 1] ?_
    refine nx_againB (e' := [(5, _), (6, _), (7, _)]) (m := _) (H' := _) (by exact ⟨i + 1, rfl, by omega, by rw [htk, outL_snoc, headL_snoc, ← str_app], rfl⟩)
  ·
   rw [List.length_map] at hlt
   rw [List.take_of_length_le (show ls.length ≤ i by omega)]
   have hol := outL_len ls h hshort
   obtain ⟨out, ho⟩ : ∃ out, out = outL h ls := ⟨_, rfl⟩
   have htwo := outL_two h ls hshort
   rw [← ho] at hq hol htwo
   rw [← ho]
   refine at_exit <| Zt <| Zt <| nx_block_exit <| Zx <| Zq <| Zq <| Zg <| Zm Y <| op_w (p_len_strL underlying9 Y) rfl rfl ?_
   refine Zm Y <| Zr [_] Y call74 Y rfl (rroom_st hR kp sz _ _ (by omega)) ?_
   rintro _ _ ⟨rfl, rfl⟩
   first | refine op_v (p_gtr_nat Y Y) ?_ | refine op_v (p_gtr Y Y) ?_
   refine Z0 <| Zx ?_
   first | refine at_if Y (fun hroom => ?_) (fun hroom => ?_) | refine at_if_bool Y (fun hroom => ?_) (fun hroom => ?_)
   ·
    refine Zq <| Zg <| Za Y <| Z0 <| Zx <| at_ret <| Zt ?_
    refine nx_end1 rfl results63 Y (by
          rw [if_pos (by omega)] at hq
          subst hq
          exact ⟨_, sr, sd, rfl, hrow, hR, rfl⟩)
   ·
    refine at_skip <| Zx <| Zq <| Zq <| Zg <| Zm Y <| Zv (p_eql_str Y Y) <| Z0 <| Zx ?_
    first | refine at_if Y (fun hemp => ?_) (fun hemp => ?_) | refine at_if_bool Y (fun hemp => ?_) (fun hemp => ?_)
    ·
     refine Zq <| Zg <| Za Y <| Z0 <| Zx <| at_ret <| Zt ?_
     refine nx_end1 rfl results63 Y (by
           rw [if_neg (by omega), if_pos (by have h4 := congrArg (fun t : ByteArray => t.data.toList) hemp; simpa [str] using h4)] at hq
           subst hq
           exact ⟨_, sr, sd, rfl, hrow, hR, rfl⟩)
    ·
     refine at_skip <| Zx <| Zq ?_
     have hne : out ≠ [] := fun h5 => hemp (by rw [h5]; rfl)
     have h2o := htwo hne
     rw [if_neg (by omega), if_neg hne] at hq
     obtain ⟨qa, hqa⟩ : ∃ qa, qa = d.app sz out := ⟨_, rfl⟩
     rw [← hqa] at hq
     unfold DiskS.app at hqa
     simp only at hqa
     obtain ⟨p1, hp1⟩ : ∃ p, p = d.write (sz + 1) out.tail := ⟨_, rfl⟩
     have hl1 := write_len d (sz + 1) out.tail (by rw [List.length_tail]; omega)
     have hd1 := write_pend d (sz + 1) out.tail
     rw [← hp1] at hqa hl1 hd1
     obtain ⟨p2, hp2⟩ : ∃ p, p = p1.2.sync := ⟨_, rfl⟩
     have hl2 := sync_len p1.2
     have hd2 := sync_pend p1.2
     rw [← hp2] at hqa hl2 hd2
     obtain ⟨p3, hp3⟩ : ∃ p, p = p2.2.write sz (out.take 1) := ⟨_, rfl⟩
     have hl3 := write_len p2.2 sz (out.take 1) (by rw [List.length_take]; omega)
     have hd3 := write_pend p2.2 sz (out.take 1)
     rw [← hp3] at hqa hl3 hd3
     obtain ⟨p4, hp4⟩ : ∃ p, p = p3.2.sync := ⟨_, rfl⟩
     rw [← hp4] at hqa
     refine at_draw (n := 13) (0 :: 1 :: 3 :: 7 :: 0 :: 16 :: 48 :: 112 :: 240 :: 0 :: 512 :: 2047 :: 4095 :: []) 2048 (by kernel_rfl) (by kernel_rfl) rfl ?_
     refine Zi 1 0 rfl (p_move Y) <| Zi 3 1 rfl (p_nilChk Y rfl) <| Zi 7 2 rfl (p_fieldAddr0 (off := 0) underlying156 rfl rfl sizeOf52 Y) <| Zj 15 3 rfl isAgg52 Y ?_
     refine Zi 31 4 rfl (p_move Y) <| Zi 63 5 rfl (p_nilChk Y rfl) <| Zi 127 6 rfl (p_fieldAddr0 (off := 2) underlying156 rfl rfl sizeOf3 Y) <| Zj 255 7 rfl isAgg3 Y ?_
     first | (refine lin_v (D' := 511) 8 (p_add_nat (n := 1) Y Y ?_) ?_; (focus (omega))) | (refine lin_v (D' := 511) 8 (p_add Y Y (IntWalk.i64_in _ ?_)) ?_; (focus (omega)))
     refine Zi 1023 9 rfl (p_move Y) <| lin_w (D' := 2047) 10 rfl rfl rfl (p_slice_tail underlying9 Y Y (by omega)) ?_
     refine Zz (l := [11]) ?_
     refine Zy 2047 4095 [7, 3] [false, false] [] rfl Y rfl rfl rfl rfl (Zw [_, _, _] Y call22 Y rfl (rd_write d rp sd hR (sz + 1) out.tail (by rw [List.length_tail]; omega) (by omega))) ?hk_5 no_pan ?hl_5
     case hk_5 =>
      rintro _ _ ⟨_, ⟨s1, rfl, rfl, hR1⟩, rfl⟩
      refine ⟨keep_nil, ?_⟩
      rw [← hp1] at hR1 ⊢
      refine Zi 8191 12 rfl (p_assign Y) <| lin_nil ?_
      refine Zn [0, 1, 5, 10] ?_
      refine Zx <| Zq <| Zq <| Zg <| Zm Y ?_
      first | refine op_v (p_eql_nat (n := 0) Y Y) ?_ | refine op_v (p_eql Y Y) ?_
      refine Z0 <| Zx ?_
      first | refine at_if Y (fun hq1 => ?_) (fun hq1 => ?_) | refine at_if_bool Y (fun hq1 => ?_) (fun hq1 => ?_)
      ·
       rw [if_neg (fun h => h hq1)] at hqa
       refine Zg <| Zm Y <| Zp Y rfl <| Zh 0 underlying156 rfl rfl sizeOf52 Y <| Zl isAgg52 Y ?_
       refine Zc [_] Y call116 Y rfl (rd_sync p1.2 rp s1 hR1 (by omega)) ?_
       rintro _ _ ⟨_, ⟨s2, rfl, rfl, hR2⟩, rfl⟩
       rw [← hp2] at hR2 ⊢
       refine Za Y <| Z0 <| Zx <| Zq <| Zq <| Zg <| Zm Y ?_
       first | refine op_v (p_eql_nat (n := 0) Y Y) ?_ | refine op_v (p_eql Y Y) ?_
       refine Z0 <| Zx ?_
       first | refine at_if Y (fun hq2 => ?_) (fun hq2 => ?_) | refine at_if_bool Y (fun hq2 => ?_) (fun hq2 => ?_)
       ·
        rw [if_neg (fun h => h hq2)] at hqa
        refine at_draw (n := 12) (0 :: 1 :: 3 :: 7 :: 0 :: 16 :: 48 :: 112 :: 0 :: 256 :: 1023 :: 2047 :: []) 1024 (by kernel_rfl) (by kernel_rfl) rfl ?_
        refine Zi 1 0 rfl (p_move Y) <| Zi 3 1 rfl (p_nilChk Y rfl) <| Zi 7 2 rfl (p_fieldAddr0 (off := 0) underlying156 rfl rfl sizeOf52 Y) <| Zj 15 3 rfl isAgg52 Y ?_
        refine Zi 31 4 rfl (p_move Y) <| Zi 63 5 rfl (p_nilChk Y rfl) <| Zi 127 6 rfl (p_fieldAddr0 (off := 2) underlying156 rfl rfl sizeOf3 Y) <| Zj 255 7 rfl isAgg3 Y ?_
        refine Zi 511 8 rfl (p_move Y) <| lin_w (D' := 1023) 9 rfl rfl rfl (p_slice_head underlying9 Y Y (by omega)) ?_
        refine Zz (l := [10]) ?_
        refine Zy 1023 2047 [7, 3] [false, false] [] rfl Y rfl rfl rfl rfl (Zw [_, _, _] Y call22 Y rfl (rd_write p2.2 rp s2 hR2 sz (out.take 1) (by rw [List.length_take]; omega) (by omega))) ?hk_6 no_pan ?hl_6
        case hk_6 =>
         rintro _ _ ⟨_, ⟨s3, rfl, rfl, hR3⟩, rfl⟩
         refine ⟨keep_nil, ?_⟩
         rw [← hp3] at hR3 ⊢
         refine Zi 4095 11 rfl (p_assign Y) <| lin_nil ?_
         refine Zn [0, 1, 5, 10] ?_
         refine Zx <| Zq <| Zq <| Zg <| Zm Y ?_
         first | refine op_v (p_eql_nat (n := 0) Y Y) ?_ | refine op_v (p_eql Y Y) ?_
         refine Z0 <| Zx ?_
         first | refine at_if Y (fun hq3 => ?_) (fun hq3 => ?_) | refine at_if_bool Y (fun hq3 => ?_) (fun hq3 => ?_)
         ·
          rw [if_neg (fun h => h hq3)] at hqa
          subst hqa
          refine Zg <| Zm Y <| Zp Y rfl <| Zh 0 underlying156 rfl rfl sizeOf52 Y <| Zl isAgg52 Y ?_
          refine Zc [_] Y call116 Y rfl (rd_sync p3.2 rp s3 hR3 (by omega)) ?_
          rintro _ _ ⟨_, ⟨s4, rfl, rfl, hR4⟩, rfl⟩
          rw [← hp4] at hR4 ⊢
          refine Za Y <| Z0 <| Zx <| Zq <| Zq <| Zg <| Zm Y ?_
          first | refine op_v (p_neq_nat (n := 0) Y Y) ?_ | refine op_v (p_neq Y Y) ?_
          refine Z0 <| Zx ?_
          first | refine at_if Y (fun hx4 => ?_) (fun hx4 => ?_) | refine at_if_bool Y (fun hx4 => ?_) (fun hx4 => ?_)
          ·
           refine Zq ?_
           rw [if_pos hx4] at hq
           subst hq
           refine Zg <| Zm Y <| Zp Y rfl <| Zh 3 underlying156 rfl rfl sizeOf4 Y <| Ze (Zs sizeOf4 Y Y rfl) ?_
           rintro _ _ ⟨rfl, rfl⟩
           refine Z0 <| Zn [10] ?_
           refine Zx <| Zq <| Zg <| Zm Y <| Za Y <| Z0 <| Zx <| at_ret <| Zt ?_
           refine nx_end1 rfl results63 Y (by exact ⟨_, sr, _, rfl, hrow, by first | exact hR4 | exact hR3 | exact hR2 | exact hR1, rfl⟩)
          ·
           refine at_skip <| Zx <| Zq <| Zg <| Za Y <| Z0 <| Zx <| Zq <| at_nil ?_
           rw [if_neg hx4] at hq
           refine Zg <| Zm Y <| Zm Y <| Zp Y rfl <| Zh 1 underlying156 rfl rfl sizeOf43 Y <| Zl isAgg43 Y ?_
           refine Ze (w_append_row (by_ := 16) underlying43 (rfl : Tryz.prog.info? 9 = some Tryz.t9) rfl rfl rfl rfl Y (row_nil _) Y (hrow) (by repeat (first | exact One.here _ _ | apply One.there)) (by repeat (first | exact One.here _ _ | apply One.there)) (by simp [Value.oneCell', strV]) (by (simp only [List.length_map, List.length_nil]; omega)) (by (simp only [List.length_map, List.length_nil]; omega))) ?_
           rintro _ _ ⟨sa, hra, rfl⟩
           rw [List.nil_append] at hra
           obtain ⟨ga, ca, rfl⟩ := hra.form
           refine Za Y <| Z0 <| Zn [0, 1, 5, 11] ?_
           refine Zx <| Zq <| Zg <| Zm Y <| Zm Y <| Zm Y ?_
           refine Ze (w_append_row (by_ := 16) underlying43 (rfl : Tryz.prog.info? 9 = some Tryz.t9) rfl rfl rfl rfl Y (hra) Y (hl) (by repeat (first | exact One.here _ _ | apply One.there)) (by repeat (first | exact One.here _ _ | apply One.there)) (by simp [Value.oneCell', strV]) (by (simp only [List.length_map]; omega)) (by (simp only [List.length_map]; omega))) ?_
           rintro _ _ ⟨sc, hrc, rfl⟩
           rw [← List.map_append] at hrc
           obtain ⟨gc, cc, rfl⟩ := hrc.form
           refine Zp Y rfl <| Zh 1 underlying156 rfl rfl sizeOf43 Y <| Ze (Zs sizeOf43 Y Y rfl) ?_
           rintro _ _ ⟨rfl, rfl⟩
           refine Z0 <| Zx <| Zq <| Zg <| Zm Y <| Zm Y <| Zp Y rfl <| Zh 2 underlying156 rfl rfl sizeOf3 Y <| Zl isAgg3 Y ?_
           refine Zm Y <| op_w (p_len_strL underlying9 Y) rfl rfl ?_
           first | (refine op_v (p_add_nat Y Y ?_) ?_; (focus (omega))) | (refine op_v (p_add Y Y (IntWalk.i64_in _ ?_)) ?_; (focus (omega)))
           refine Zp Y rfl <| Zh 2 underlying156 rfl rfl sizeOf3 Y <| Ze (Zs sizeOf3 Y Y rfl) ?_
           rintro _ _ ⟨rfl, rfl⟩
           refine Z0 <| Zn [] ?_
           refine Zx <| Zq <| Zg <| Za Y <| Z0 <| Zx <| at_ret ?_
           refine nx_end1 rfl results63 Y (by
                 subst hq
                 exact ⟨_, sc, s4, rfl, hrc, hR4, rfl⟩)
         ·
          rw [if_pos hq3] at hqa
          subst hqa
          refine at_skip <| Zx <| Zq <| Zq <| Zg <| Zm Y ?_
          first | refine op_v (p_neq_nat (n := 0) Y Y) ?_ | refine op_v (p_neq Y Y) ?_
          refine Z0 <| Zx ?_
          first | refine at_if Y (fun hx4 => ?_) (fun hx4 => ?_) | refine at_if_bool Y (fun hx4 => ?_) (fun hx4 => ?_)
          ·
           refine Zq ?_
           rw [if_pos hx4] at hq
           subst hq
           refine Zg <| Zm Y <| Zp Y rfl <| Zh 3 underlying156 rfl rfl sizeOf4 Y <| Ze (Zs sizeOf4 Y Y rfl) ?_
           rintro _ _ ⟨rfl, rfl⟩
           refine Z0 <| Zx <| Zq <| Zg <| Zm Y <| Za Y <| Z0 <| Zx <| at_ret <| Zt ?_
           refine nx_end1 rfl results63 Y (by exact ⟨_, sr, _, rfl, hrow, by first | exact hR4 | exact hR3 | exact hR2 | exact hR1, rfl⟩)
          ·
           exact absurd hq3 hx4
        case hl_6 =>
         exact each_nil
       ·
        rw [if_pos hq2] at hqa
        subst hqa
        refine at_skip <| Zx <| Zq <| Zq <| Zg <| Zm Y ?_
        first | refine op_v (p_eql_nat (n := 0) Y Y) ?_ | refine op_v (p_eql Y Y) ?_
        refine Z0 <| Zx ?_
        first | refine at_if Y (fun hx3 => ?_) (fun hx3 => ?_) | refine at_if_bool Y (fun hx3 => ?_) (fun hx3 => ?_)
        ·
         exact absurd hx3 hq2
        ·
         refine at_skip <| Zx <| Zq <| Zq <| Zg <| Zm Y ?_
         first | refine op_v (p_neq_nat (n := 0) Y Y) ?_ | refine op_v (p_neq Y Y) ?_
         refine Z0 <| Zn [0, 1, 5, 10, 93] ?_
         refine Zx ?_
         first | refine at_if Y (fun hx4 => ?_) (fun hx4 => ?_) | refine at_if_bool Y (fun hx4 => ?_) (fun hx4 => ?_)
         ·
          refine Zq ?_
          rw [if_pos hx4] at hq
          subst hq
          refine Zg <| Zm Y <| Zp Y rfl <| Zh 3 underlying156 rfl rfl sizeOf4 Y <| Ze (Zs sizeOf4 Y Y rfl) ?_
          rintro _ _ ⟨rfl, rfl⟩
          refine Z0 <| Zx <| Zq <| Zg <| Zm Y <| Za Y <| Z0 <| Zx <| at_ret <| Zt ?_
          refine nx_end1 rfl results63 Y (by exact ⟨_, sr, _, rfl, hrow, by first | exact hR4 | exact hR3 | exact hR2 | exact hR1, rfl⟩)
         ·
          exact absurd hq2 hx4
      ·
       rw [if_pos hq1] at hqa
       subst hqa
       refine at_skip <| Zx <| Zq <| Zq <| Zg <| Zm Y ?_
       first | refine op_v (p_eql_nat (n := 0) Y Y) ?_ | refine op_v (p_eql Y Y) ?_
       refine Z0 <| Zx ?_
       first | refine at_if Y (fun hx2 => ?_) (fun hx2 => ?_) | refine at_if_bool Y (fun hx2 => ?_) (fun hx2 => ?_)
       ·
        exact absurd hx2 hq1
       ·
        refine at_skip <| Zx <| Zq <| Zq <| Zg <| Zm Y ?_
        first | refine op_v (p_eql_nat (n := 0) Y Y) ?_ | refine op_v (p_eql Y Y) ?_
        refine Z0 <| Zx ?_
        first | refine at_if Y (fun hx3 => ?_) (fun hx3 => ?_) | refine at_if_bool Y (fun hx3 => ?_) (fun hx3 => ?_)
        ·
         exact absurd hx3 hq1
        ·
         refine at_skip <| Zx <| Zq <| Zq <| Zg <| Zm Y ?_
         first | refine op_v (p_neq_nat (n := 0) Y Y) ?_ | refine op_v (p_neq Y Y) ?_
         refine Z0 <| Zx ?_
         first | refine at_if Y (fun hx4 => ?_) (fun hx4 => ?_) | refine at_if_bool Y (fun hx4 => ?_) (fun hx4 => ?_)
         ·
          refine Zq ?_
          rw [if_pos hx4] at hq
          subst hq
          refine Zg <| Zm Y <| Zp Y rfl <| Zh 3 underlying156 rfl rfl sizeOf4 Y <| Ze (Zs sizeOf4 Y Y rfl) ?_
          rintro _ _ ⟨rfl, rfl⟩
          refine Z0 <| Zx <| Zq <| Zg <| Zm Y <| Za Y <| Z0 <| Zn [4] ?_
          refine Zx <| at_ret <| Zt ?_
          refine nx_end1 rfl results63 Y (by exact ⟨_, sr, _, rfl, hrow, by first | exact hR4 | exact hR3 | exact hR2 | exact hR1, rfl⟩)
         ·
          exact absurd hq1 hx4
     case hl_5 =>
      exact each_nil

theorem kr_append (j : JrS) (d : DiskS) (kp rp : Nat) (sk sl sd : List Chunk) (lv : Value) (ls : List (List UInt8)) (hK : KrR j kp rp sk) (hR : RdR d rp sd) (hl : Row 9 lv (ls.map strV) sl) (hbr : j.br = false) (hz : j.sz ≤ d.vi.length) (hk : d.pend.length ≤ 999990) (hls : ls.length ≤ 1000000) (hshort : ∀ r ∈ ls, r.length ≤ 65536) (hb : (j.append d ls).2.1.rs.length ≤ 4194304) :
    Does Tryz.prog 63 #[.pointer (some ⟨kp, 0, none⟩), lv] [sk, sl, sd] (fun r H' => ∃ sk' sd', r = .int .i64 (j.append d ls).1 ∧ KrR (j.append d ls).2.1 kp rp sk' ∧ RdR (j.append d ls).2.2 rp sd' ∧ H' = [sk', sl, sd']) := by
  obtain ⟨rs, h, sz, br⟩ := j
  simp only at hbr hz
  subst hbr
  obtain ⟨hh, hn, hsh, v, sr, hrow, rfl⟩ := hK
  simp only at hh hn hsh hrow
  obtain ⟨q, hq⟩ : ∃ q, q = JrS.append ⟨rs, h, sz, false⟩ d ls := ⟨_, rfl⟩
  have hkeep : q.2.1.h = headL zero32 q.2.1.rs ∧ ∀ r ∈ q.2.1.rs, r.length ≤ 65536 := by
    rw [hq]; unfold JrS.append
    split
    · exact ⟨hh, hsh⟩
    split
    · exact ⟨hh, hsh⟩
    split
    · exact ⟨hh, hsh⟩
    split
    · exact ⟨hh, hsh⟩
    · refine ⟨by show headL h ls = headL zero32 (rs ++ ls); rw [headL_append, hh], fun r hr => ?_⟩
      rcases List.mem_append.1 hr with h9 | h9
      · exact hsh r h9
      · exact hshort r h9
  refine does_mono (does_flat (by simp) (rappend_main kp rp sz v lv rs ls sr sl sd h d hrow hl hh hz hn hsh hshort hls hR hk q hq)) ?_
  rintro r _ ⟨v', sr', s', rfl, h1, h2, rfl⟩
  rw [← hq] at hb ⊢
  exact ⟨_, ⟨_, s', rfl, ⟨hkeep.1, hb, hkeep.2, v', sr', h1, rfl⟩, h2, rfl⟩, by simp⟩

theorem rappend_broken (kp rp : Nat) (v zv lv : Value) : DoesR Tryz.prog 63 #[.pointer (some ⟨kp, 0, none⟩), lv] [[(kp, .cells #[.pointer (some ⟨rp, 0, none⟩), v, zv, .bool true] 156 (0, 0))]] (.int .i64 230) := by
 refine spec_enter func63 rfl ntmps63 rfl ?_
 intro u R
 refine Zb [0, 1] ?_
 refine Zq <| Zg <| Za Y <| Z0 <| Zx <| Zq <| Zq <| Zg <| Zm Y <| Zp Y rfl <| Zh 3 underlying156 rfl rfl sizeOf4 Y <| Zl isAgg4 Y ?_
 refine Z0 <| Zx ?_
 refine at_if_bool Y (fun hc1 => ?_) (fun hc1 => ?_)
 ·
  refine Zq <| Zg <| Za Y <| Z0 <| Zx <| at_ret <| Zt ?_
  refine nx_end1 rfl results63 Y (by exact ⟨rfl, rfl⟩)
 ·
  cases hc1

end Go.Proofs.YthbadolcncojbaaGreatDoor
