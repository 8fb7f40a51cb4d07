/- SnapshotMatchesReference: a call on both. -/
import Derived.Test.YthbadolcncojbaaGreatDoorEz
import Derived.Test.YthbadolcncojbaaGreatDoorMb1
import Derived.Test.YthbadolcncojbaaGreatDoorSp4

namespace Go.Proofs.YthbadolcncojbaaGreatDoor
open Go.Proofs.Tryz
open Go Go.RowKit Gw
set_option linter.unusedVariables false
set_option maxRecDepth 100000
attribute [local irreducible] Gw.At Gw.Nx Gw.Ops
theorem Bth.more {n1 n2 k k' a b c d : Nat} {co : Option Core} {da db : DiskS} {v w : Value} {ss sr sja sjb st su ska skb sda sdb sdc sdd : List Chunk} (h : Bth n1 n2 k a b c d co da db v w ss sr sja sjb st su ska skb sda sdb sdc sdd) (hk : k ≤ k') : Bth n1 n2 k' a b c d co da db v w ss sr sja sjb st su ska skb sda sdb sdc sdd := ⟨h.tw.more hk, h.mo, h.ko, h.ra, h.rb, h.rc, h.rd⟩

theorem bdoes_cut (n1 n2 k xp a b c d : Nat) (co : Option Core) (da db : DiskS) (v w : Value) (ss sr sja sjb st su ska skb sda sdb sdc sdd M : List Chunk) (pa : Addr) (Tx Tg : TypeId) (zx zg : Nat × Nat) (hab : a ≠ b) (hcd : c ≠ d) (z1 : 1 ≤ n1) (z2 : n1 ≤ 4194304) (z3 : 1 ≤ n2) (z4 : n2 ≤ 4194304) (hk : k ≤ 900000) (hB : Bth n1 n2 k a b c d co da db v w ss sr sja sjb st su ska skb sda sdb sdc sdd) (kind : Int) (vl : Value) (nn : Int) (vk : Value) (tn : Int) (ls : List (List UInt8)) (zs : List Int) (hM : (StepV.mk kind vl nn vk tn ls zs).ok M) (hkind : pickN kind 8 = 5) : Does Tryz.prog 32 #[.pointer (some ⟨xp, 0, none⟩), .agg #[.int .i64 kind, vl, .int .i64 nn, vk, .int .i64 tn]] [[(xp, .cells #[.pointer (some ⟨a, 0, none⟩), .pointer (some ⟨b, 0, none⟩), v, .pointer (some ⟨c, 0, none⟩), .pointer (some ⟨d, 0, none⟩), w] 74 (0, 0))], ss, sr, sja, sjb, st, su, ska, skb, sda, sdb, sdc, sdd, [(4, .cells (kTab.map u32v).toArray Tg zg)], [(0, .cells #[.iface 299 (.pointer (some pa))] Tx zx)], M] (fun r H' => ∃ co' da' db' v' w' ss' sr' sja' sjb' st' su' ska' skb' sda' sdb' sdc' sdd', r = .bool true ∧ Bth n1 n2 (k + 4) a b c d co' da' db' v' w' ss' sr' sja' sjb' st' su' ska' skb' sda' sdb' sdc' sdd' ∧ H' = [[(xp, .cells #[.pointer (some ⟨a, 0, none⟩), .pointer (some ⟨b, 0, none⟩), v', .pointer (some ⟨c, 0, none⟩), .pointer (some ⟨d, 0, none⟩), w'] 74 (0, 0))], ss', sr', sja', sjb', st', su', ska', skb', sda', sdb', sdc', sdd', [(4, .cells (kTab.map u32v).toArray Tg zg)], [(0, .cells #[.iface 299 (.pointer (some pa))] Tx zx)], M]) := by
 have hpk := pickN_lt kind 8 (by decide)
 have hpn := pickN_lt nn 7 (by decide)
 obtain ⟨k1, k2, n1b, n2b, t1b, t2b, hsl, hil⟩ := hM
 simp only at k1 k2 n1b n2b t1b t2b hsl hil
 obtain ⟨pz, cz, hvk, hzm, hzg⟩ := id hil
 subst hvk
 have hit := hil.take (min zs.length 10) (by omega)
 obtain ⟨pl, nl, cl, hvl⟩ : ∃ p n c, vl = .slice p n c := by
   rcases hsl with ⟨_, _, h, _⟩ | ⟨_, _, _, _, _, _, h, _⟩
   · exact ⟨_, _, _, h⟩
   · exact ⟨_, _, _, h⟩
 subst hvl
 have hfl := few_len ls
 have hfb := few_sm ls
 have hpa := hB.tw.wa.pend
 have hpb := hB.tw.wb.pend
 refine spec_enter func32 rfl ntmps32 rfl ?_
 intro u R
 refine Zb [0, 1] ?_
 refine Zq <| Zg <| Ze (w_box Y (cs := #[_, _, _, _, _]) rfl) ?_
 rintro _ _ ⟨bo, rfl, rfl⟩
 refine Za Y <| Z0 <| Zx <| Zq <| Zg <| Zh 3 underlying78 rfl rfl sizeOf76 Y <| Zl isAgg76 Y ?_
 refine Zh 3 underlying78 rfl rfl sizeOf76 Y <| Zl isAgg76 Y ?_
 refine Zv (p_len_slice underlying76 Y) ?_
 first | refine op_v (p_min_nat (n := 10) Y Y) ?_ | refine op_v (p_min_int Y Y) ?_
 (refine op_v (p_slice_slice_to underlying76 sizeOf3 Y Y ?_) ?_; (focus (omega)))
 refine Za Y <| Z0 <| Zx <| Zq <| Zq <| Zg <| Zh 0 underlying78 rfl rfl sizeOf3 Y <| Zl isAgg3 Y ?_
 refine Zr [_, _] Y call33 Y rfl (pick_spec kind 8 (by decide) (by decide) k1 k2) ?_
 rintro _ _ ⟨rfl, rfl⟩
 refine Z0 <| Zn [0, 3, 5, 15] ?_
 refine Zx <| at_block <| Zq <| Zg ?_
 first | refine op_v (p_eql_nat (n := 5) Y Y) ?_ | refine op_v (p_eql Y Y) ?_
 refine Za Y <| Z0 <| Zx ?_
 first | refine at_if Y (fun hx84 => ?_) (fun hx84 => ?_) | refine at_if_bool Y (fun hx84 => ?_) (fun hx84 => ?_)
 ·
  refine Zq <| Zq <| Zg <| Zh 2 underlying78 rfl rfl sizeOf3 Y <| Zl isAgg3 Y ?_
  first | (refine op_v (p_rem_nat (n := 2) Y Y ?_) ?_; (focus (omega))) | (refine op_v (p_rem Y Y ?_ rfl) ?_; (focus (omega)))
  first | refine op_v (p_eql_nat (n := 0) Y Y) ?_ | refine op_v (p_eql Y Y) ?_
  refine Z0 <| Zx ?_
  first | refine at_if Y (fun hpar => ?_) (fun hpar => ?_) | refine at_if_bool Y (fun hpar => ?_) (fun hpar => ?_)
  ·
   refine Zq <| at_draw (n := 20) (0 :: 1 :: 3 :: 7 :: 0 :: 16 :: 48 :: 112 :: 255 :: 0 :: 512 :: 1536 :: 3584 :: 0 :: 8192 :: 25087 :: 57855 :: 131071 :: 262143 :: 524287 :: []) 164160 (by kernel_rfl) (by kernel_rfl) rfl ?_
   refine Zi 1 0 rfl (p_move Y) <| Zi 3 1 rfl (p_nilChk Y rfl) <| Zi 7 2 rfl (p_fieldAddr0 (off := 0) underlying74 rfl rfl sizeOf26 Y) <| Zj 15 3 rfl isAgg26 Y ?_
   refine Zi 31 4 rfl (p_fieldAddr0 (off := 2) underlying78 rfl rfl sizeOf3 Y) <| Zj 63 5 rfl isAgg3 Y ?_
   refine Zi 575 9 rfl (p_move Y) <| Zi 1599 10 rfl (p_nilChk Y rfl) <| Zi 3647 11 rfl (p_fieldAddr0 (off := 3) underlying74 rfl rfl sizeOf52 Y) <| Zj 7743 12 rfl isAgg52 Y ?_
   refine Zi 15935 13 rfl (p_fieldAddr0 (off := 2) underlying78 rfl rfl sizeOf3 Y) <| Zj 32319 14 rfl isAgg3 Y ?_
   refine Zz (l := [6]) ?_
   refine Zy 48 32383 [14, 12, 5, 3] [true, true, false, true] [(14, (_, _)), (12, (_, _)), (3, (_, _))] rfl Y rfl rfl rfl rfl (Zu [_, _] Y call33 Y rfl (pick_spec nn 7 (by decide) (by decide) n1b n2b)) ?hk_1 (fun _ _ h => h.elim) ?hl_1
   case hk_1 =>
    rintro _ _ ⟨rfl, rfl⟩
    refine ⟨Zk (Zk (Zk (keep_nil))), ?_⟩
    first | (refine lin_v (D' := 32511) 7 (p_add_nat (m := 1) Y Y ?_) ?_; (focus (omega))) | (refine lin_v (D' := 32511) 7 (p_add Y Y (IntWalk.i64_in _ ?_)) ?_; (focus (omega)))
    refine Zz (l := [8]) ?_
    refine Zy 255 32767 [14, 12, 3] [true, true, false] [(14, (_, _)), (12, (_, _))] rfl Y rfl rfl rfl rfl (Zw [_, _] Y call34 Y rfl (disk_cut_any da a sda hB.ra (1 + pickN nn 7) (by omega))) ?hk_2 no_pan ?hl_2
    case hk_2 =>
     rintro _ _ ⟨_, ⟨sda1, rfl, rfl, hRa1⟩, rfl⟩
     refine ⟨Zk (Zk (keep_nil)), ?_⟩
     refine Zz (l := [15]) ?_
     refine Zy 25087 65535 [14, 12] [false, true] [(12, (_, _))] rfl Y rfl rfl rfl rfl (Zu [_, _] Y call33 Y rfl (pick_spec nn 7 (by decide) (by decide) n1b n2b)) ?hk_3 (fun _ _ h => h.elim) ?hl_3
     case hk_3 =>
      rintro _ _ ⟨rfl, rfl⟩
      refine ⟨Zk (keep_nil), ?_⟩
      first | (refine lin_v (D' := 131071) 16 (p_add_nat (m := 1) Y Y ?_) ?_; (focus (omega))) | (refine lin_v (D' := 131071) 16 (p_add Y Y (IntWalk.i64_in _ ?_)) ?_; (focus (omega)))
      refine Zz (l := [17]) ?_
      refine Zy 131071 262143 [12] [false] [] rfl Y rfl rfl rfl rfl (Zw [_, _] Y call75 Y rfl (rd_cut da c sdc hB.rc (1 + pickN nn 7) (by omega))) ?hk_4 no_pan ?hl_4
      case hk_4 =>
       rintro _ _ ⟨_, ⟨sdc1, rfl, rfl, hRc1⟩, rfl⟩
       refine ⟨keep_nil, ?_⟩
       first | refine lin_v (D' := 524287) 18 (p_eql_nat Y Y) ?_ | refine lin_v (D' := 524287) 18 (p_eql Y Y) ?_
       refine Zi 1048575 19 rfl (p_assign Y) <| lin_nil ?_
       refine Zn [4] ?_
       refine Zx <| at_ret <| Zt <| nx_block_ret <| Zt ?_
       refine nx_end1 rfl results32 Y (by exact ⟨co, _, db, v, w, ss, sr, sja, sjb, st, su, ska, skb, sda1, sdb, sdc1, sdd, by simp, ⟨(hB.tw.cutA _).more (by omega), hB.mo, hB.ko, hRa1, hB.rb, hRc1, hB.rd⟩, rfl⟩)
      case hl_4 =>
       exact each_nil
     case hl_3 =>
      exact each_nil
    case hl_2 =>
     exact each_nil
   case hl_1 =>
    exact each_nil
  ·
   refine at_skip <| Zx <| Zq <| at_draw (n := 20) (0 :: 1 :: 3 :: 7 :: 0 :: 16 :: 48 :: 112 :: 255 :: 0 :: 512 :: 1536 :: 3584 :: 0 :: 8192 :: 25087 :: 57855 :: 131071 :: 262143 :: 524287 :: []) 164160 (by kernel_rfl) (by kernel_rfl) rfl ?_
   refine Zi 1 0 rfl (p_move Y) <| Zi 3 1 rfl (p_nilChk Y rfl) <| Zi 7 2 rfl (p_fieldAddr0 (off := 1) underlying74 rfl rfl sizeOf26 Y) <| Zj 15 3 rfl isAgg26 Y ?_
   refine Zi 31 4 rfl (p_fieldAddr0 (off := 2) underlying78 rfl rfl sizeOf3 Y) <| Zj 63 5 rfl isAgg3 Y ?_
   refine Zi 575 9 rfl (p_move Y) <| Zi 1599 10 rfl (p_nilChk Y rfl) <| Zi 3647 11 rfl (p_fieldAddr0 (off := 4) underlying74 rfl rfl sizeOf52 Y) <| Zj 7743 12 rfl isAgg52 Y ?_
   refine Zi 15935 13 rfl (p_fieldAddr0 (off := 2) underlying78 rfl rfl sizeOf3 Y) <| Zj 32319 14 rfl isAgg3 Y ?_
   refine Zz (l := [6]) ?_
   refine Zy 48 32383 [14, 12, 5, 3] [true, true, false, true] [(14, (_, _)), (12, (_, _)), (3, (_, _))] rfl Y rfl rfl rfl rfl (Zu [_, _] Y call33 Y rfl (pick_spec nn 7 (by decide) (by decide) n1b n2b)) ?hk_6 (fun _ _ h => h.elim) ?hl_6
   case hk_6 =>
    rintro _ _ ⟨rfl, rfl⟩
    refine ⟨Zk (Zk (Zk (keep_nil))), ?_⟩
    first | (refine lin_v (D' := 32511) 7 (p_add_nat (m := 1) Y Y ?_) ?_; (focus (omega))) | (refine lin_v (D' := 32511) 7 (p_add Y Y (IntWalk.i64_in _ ?_)) ?_; (focus (omega)))
    refine Zz (l := [8]) ?_
    refine Zy 255 32767 [14, 12, 3] [true, true, false] [(14, (_, _)), (12, (_, _))] rfl Y rfl rfl rfl rfl (Zw [_, _] Y call34 Y rfl (disk_cut_any db b sdb hB.rb (1 + pickN nn 7) (by omega))) ?hk_7 no_pan ?hl_7
    case hk_7 =>
     rintro _ _ ⟨_, ⟨sdb1, rfl, rfl, hRb1⟩, rfl⟩
     refine ⟨Zk (Zk (keep_nil)), ?_⟩
     refine Zz (l := [15]) ?_
     refine Zy 25087 65535 [14, 12] [false, true] [(12, (_, _))] rfl Y rfl rfl rfl rfl (Zu [_, _] Y call33 Y rfl (pick_spec nn 7 (by decide) (by decide) n1b n2b)) ?hk_8 (fun _ _ h => h.elim) ?hl_8
     case hk_8 =>
      rintro _ _ ⟨rfl, rfl⟩
      refine ⟨Zk (keep_nil), ?_⟩
      first | (refine lin_v (D' := 131071) 16 (p_add_nat (m := 1) Y Y ?_) ?_; (focus (omega))) | (refine lin_v (D' := 131071) 16 (p_add Y Y (IntWalk.i64_in _ ?_)) ?_; (focus (omega)))
      refine Zz (l := [17]) ?_
      refine Zy 131071 262143 [12] [false] [] rfl Y rfl rfl rfl rfl (Zw [_, _] Y call75 Y rfl (rd_cut db d sdd hB.rd (1 + pickN nn 7) (by omega))) ?hk_9 no_pan ?hl_9
      case hk_9 =>
       rintro _ _ ⟨_, ⟨sdd1, rfl, rfl, hRd1⟩, rfl⟩
       refine ⟨keep_nil, ?_⟩
       first | refine lin_v (D' := 524287) 18 (p_eql_nat Y Y) ?_ | refine lin_v (D' := 524287) 18 (p_eql Y Y) ?_
       refine Zi 1048575 19 rfl (p_assign Y) <| lin_nil ?_
       refine Zn [4] ?_
       refine Zx <| at_ret <| nx_block_ret <| Zt ?_
       refine nx_end1 rfl results32 Y (by exact ⟨co, da, _, v, w, ss, sr, sja, sjb, st, su, ska, skb, sda, sdb1, sdc, sdd1, by simp, ⟨(hB.tw.cutB _).more (by omega), hB.mo, hB.ko, hB.ra, hRb1, hB.rc, hRd1⟩, rfl⟩)
      case hl_9 =>
       exact each_nil
     case hl_8 =>
      exact each_nil
    case hl_7 =>
     exact each_nil
   case hl_6 =>
    exact each_nil
 ·
  exfalso; omega

theorem bdoes_crash (n1 n2 k xp a b c d : Nat) (co : Option Core) (da db : DiskS) (v w : Value) (ss sr sja sjb st su ska skb sda sdb sdc sdd M : List Chunk) (pa : Addr) (Tx Tg : TypeId) (zx zg : Nat × Nat) (hab : a ≠ b) (hcd : c ≠ d) (z1 : 1 ≤ n1) (z2 : n1 ≤ 4194304) (z3 : 1 ≤ n2) (z4 : n2 ≤ 4194304) (hk : k ≤ 900000) (hB : Bth n1 n2 k a b c d co da db v w ss sr sja sjb st su ska skb sda sdb sdc sdd) (kind : Int) (vl : Value) (nn : Int) (vk : Value) (tn : Int) (ls : List (List UInt8)) (zs : List Int) (hM : (StepV.mk kind vl nn vk tn ls zs).ok M) (hkind : pickN kind 8 = 6) : Does Tryz.prog 32 #[.pointer (some ⟨xp, 0, none⟩), .agg #[.int .i64 kind, vl, .int .i64 nn, vk, .int .i64 tn]] [[(xp, .cells #[.pointer (some ⟨a, 0, none⟩), .pointer (some ⟨b, 0, none⟩), v, .pointer (some ⟨c, 0, none⟩), .pointer (some ⟨d, 0, none⟩), w] 74 (0, 0))], ss, sr, sja, sjb, st, su, ska, skb, sda, sdb, sdc, sdd, [(4, .cells (kTab.map u32v).toArray Tg zg)], [(0, .cells #[.iface 299 (.pointer (some pa))] Tx zx)], M] (fun r H' => ∃ co' da' db' v' w' ss' sr' sja' sjb' st' su' ska' skb' sda' sdb' sdc' sdd', r = .bool true ∧ Bth n1 n2 (k + 4) a b c d co' da' db' v' w' ss' sr' sja' sjb' st' su' ska' skb' sda' sdb' sdc' sdd' ∧ H' = [[(xp, .cells #[.pointer (some ⟨a, 0, none⟩), .pointer (some ⟨b, 0, none⟩), v', .pointer (some ⟨c, 0, none⟩), .pointer (some ⟨d, 0, none⟩), w'] 74 (0, 0))], ss', sr', sja', sjb', st', su', ska', skb', sda', sdb', sdc', sdd', [(4, .cells (kTab.map u32v).toArray Tg zg)], [(0, .cells #[.iface 299 (.pointer (some pa))] Tx zx)], M]) := by
 have hpk := pickN_lt kind 8 (by decide)
 have hpn := pickN_lt nn 7 (by decide)
 obtain ⟨k1, k2, n1b, n2b, t1b, t2b, hsl, hil⟩ := hM
 simp only at k1 k2 n1b n2b t1b t2b hsl hil
 obtain ⟨pz, cz, hvk, hzm, hzg⟩ := id hil
 subst hvk
 have hit := hil.take (min zs.length 10) (by omega)
 obtain ⟨pl, nl, cl, hvl⟩ : ∃ p n c, vl = .slice p n c := by
   rcases hsl with ⟨_, _, h, _⟩ | ⟨_, _, _, _, _, _, h, _⟩
   · exact ⟨_, _, _, h⟩
   · exact ⟨_, _, _, h⟩
 subst hvl
 have hfl := few_len ls
 have hfb := few_sm ls
 have hpa := hB.tw.wa.pend
 have hpb := hB.tw.wb.pend
 have hwa := hB.tw.wa.crash hB.ra.1.1 (zs.take (min zs.length 10)) tn
 have hwb := hB.tw.wb.crash hB.rb.1.1 (zs.take (min zs.length 10)) nn
 obtain ⟨dA, hdA⟩ : ∃ x, x = da.crash (zs.take (min zs.length 10)) tn := ⟨_, rfl⟩
 obtain ⟨dB, hdB⟩ : ∃ x, x = db.crash (zs.take (min zs.length 10)) nn := ⟨_, rfl⟩
 rw [← hdA] at hwa
 rw [← hdB] at hwb
 refine spec_enter func32 rfl ntmps32 rfl ?_
 intro u R
 refine Zb [0, 1] ?_
 refine Zq <| Zg <| Ze (w_box Y (cs := #[_, _, _, _, _]) rfl) ?_
 rintro _ _ ⟨bo, rfl, rfl⟩
 refine Za Y <| Z0 <| Zx <| Zq <| Zg <| Zh 3 underlying78 rfl rfl sizeOf76 Y <| Zl isAgg76 Y ?_
 refine Zh 3 underlying78 rfl rfl sizeOf76 Y <| Zl isAgg76 Y ?_
 refine Zv (p_len_slice underlying76 Y) ?_
 first | refine op_v (p_min_nat (n := 10) Y Y) ?_ | refine op_v (p_min_int Y Y) ?_
 (refine op_v (p_slice_slice_to underlying76 sizeOf3 Y Y ?_) ?_; (focus (omega)))
 refine Za Y <| Z0 <| Zx <| Zq <| Zq <| Zg <| Zh 0 underlying78 rfl rfl sizeOf3 Y <| Zl isAgg3 Y ?_
 refine Zr [_, _] Y call33 Y rfl (pick_spec kind 8 (by decide) (by decide) k1 k2) ?_
 rintro _ _ ⟨rfl, rfl⟩
 refine Z0 <| Zn [0, 3, 5, 15] ?_
 refine Zx <| at_block <| Zq <| Zg ?_
 first | refine op_v (p_eql_nat (n := 5) Y Y) ?_ | refine op_v (p_eql Y Y) ?_
 refine Za Y <| Z0 <| Zx ?_
 first | refine at_if Y (fun hx84 => ?_) (fun hx84 => ?_) | refine at_if_bool Y (fun hx84 => ?_) (fun hx84 => ?_)
 ·
  exfalso; omega
 ·
  refine Zq <| Zg ?_
  first | refine op_v (p_eql_nat (n := 6) Y Y) ?_ | refine op_v (p_eql Y Y) ?_
  refine Za Y <| Z0 <| Zx ?_
  first | refine at_if Y (fun hx89 => ?_) (fun hx89 => ?_) | refine at_if_bool Y (fun hx89 => ?_) (fun hx89 => ?_)
  ·
   refine Zq <| at_draw (n := 8) (0 :: 1 :: 3 :: 7 :: 0 :: 0 :: 32 :: 127 :: []) 128 (by kernel_rfl) (by kernel_rfl) rfl ?_
   refine Zi 1 0 rfl (p_move Y) <| Zi 3 1 rfl (p_nilChk Y rfl) <| Zi 7 2 rfl (p_fieldAddr0 (off := 0) underlying74 rfl rfl sizeOf26 Y) <| Zj 15 3 rfl isAgg26 Y ?_
   refine Zi 31 4 rfl (p_move Y) <| Zi 63 5 rfl (p_fieldAddr0 (off := 4) underlying78 rfl rfl sizeOf3 Y) <| Zj 127 6 rfl isAgg3 Y ?_
   refine Zz (l := [7]) ?_
   refine Zy 127 255 [6, 3] [false, false] [] rfl Y rfl rfl rfl rfl (Zw [_, _, _] Y call35 Y rfl (disk_crash da a sda M _ _ tn hB.ra (fun p hp => by have := hB.tw.wa.inr p hp; have := hB.ra.1.1; have := hB.tw.wa.len; omega) (by omega) hit (by rw [List.length_take]; omega) t1b t2b)) ?hk_1 no_pan ?hl_1
   case hk_1 =>
    rintro _ _ ⟨_, ⟨sda1, rfl, hRa, rfl⟩, rfl⟩
    refine ⟨keep_nil, ?_⟩
    rw [← hdA] at hRa
    refine lin_nil ?_
    refine Zx <| Zq <| at_draw (n := 8) (0 :: 1 :: 3 :: 7 :: 0 :: 0 :: 32 :: 127 :: []) 128 (by kernel_rfl) (by kernel_rfl) rfl ?_
    refine Zi 1 0 rfl (p_move Y) <| Zi 3 1 rfl (p_nilChk Y rfl) <| Zi 7 2 rfl (p_fieldAddr0 (off := 3) underlying74 rfl rfl sizeOf52 Y) <| Zj 15 3 rfl isAgg52 Y ?_
    refine Zi 31 4 rfl (p_move Y) <| Zi 63 5 rfl (p_fieldAddr0 (off := 4) underlying78 rfl rfl sizeOf3 Y) <| Zj 127 6 rfl isAgg3 Y ?_
    refine Zz (l := [7]) ?_
    refine Zy 127 255 [6, 3] [false, false] [] rfl Y rfl rfl rfl rfl (Zw [_, _, _] Y call76 Y rfl (rd_crash da c sdc M _ _ tn hB.rc (by omega) hit t1b t2b)) ?hk_2 no_pan ?hl_2
    case hk_2 =>
     rintro _ _ ⟨_, ⟨sdc1, rfl, hRc, rfl⟩, rfl⟩
     refine ⟨keep_nil, ?_⟩
     rw [← hdA] at hRc
     refine lin_nil ?_
     refine Zn [0, 3, 5] ?_
     refine Zx <| Zq <| at_draw (n := 8) (0 :: 1 :: 3 :: 7 :: 0 :: 0 :: 32 :: 127 :: []) 128 (by kernel_rfl) (by kernel_rfl) rfl ?_
     refine Zi 1 0 rfl (p_move Y) <| Zi 3 1 rfl (p_nilChk Y rfl) <| Zi 7 2 rfl (p_fieldAddr0 (off := 1) underlying74 rfl rfl sizeOf26 Y) <| Zj 15 3 rfl isAgg26 Y ?_
     refine Zi 31 4 rfl (p_move Y) <| Zi 63 5 rfl (p_fieldAddr0 (off := 2) underlying78 rfl rfl sizeOf3 Y) <| Zj 127 6 rfl isAgg3 Y ?_
     refine Zz (l := [7]) ?_
     refine Zy 127 255 [6, 3] [false, false] [] rfl Y rfl rfl rfl rfl (Zw [_, _, _] Y call35 Y rfl (disk_crash db b sdb M _ _ nn hB.rb (fun p hp => by have := hB.tw.wb.inr p hp; have := hB.rb.1.1; have := hB.tw.wb.len; omega) (by omega) hit (by rw [List.length_take]; omega) n1b n2b)) ?hk_3 no_pan ?hl_3
     case hk_3 =>
      rintro _ _ ⟨_, ⟨sdb1, rfl, hRb, rfl⟩, rfl⟩
      refine ⟨keep_nil, ?_⟩
      rw [← hdB] at hRb
      refine lin_nil ?_
      refine Zx <| Zq <| at_draw (n := 8) (0 :: 1 :: 3 :: 7 :: 0 :: 0 :: 32 :: 127 :: []) 128 (by kernel_rfl) (by kernel_rfl) rfl ?_
      refine Zi 1 0 rfl (p_move Y) <| Zi 3 1 rfl (p_nilChk Y rfl) <| Zi 7 2 rfl (p_fieldAddr0 (off := 4) underlying74 rfl rfl sizeOf52 Y) <| Zj 15 3 rfl isAgg52 Y ?_
      refine Zi 31 4 rfl (p_move Y) <| Zi 63 5 rfl (p_fieldAddr0 (off := 2) underlying78 rfl rfl sizeOf3 Y) <| Zj 127 6 rfl isAgg3 Y ?_
      refine Zz (l := [7]) ?_
      refine Zy 127 255 [6, 3] [false, false] [] rfl Y rfl rfl rfl rfl (Zw [_, _, _] Y call76 Y rfl (rd_crash db d sdd M _ _ nn hB.rd (by omega) hit n1b n2b)) ?hk_4 no_pan ?hl_4
      case hk_4 =>
       rintro _ _ ⟨_, ⟨sdd1, rfl, hRd, rfl⟩, rfl⟩
       refine ⟨keep_nil, ?_⟩
       rw [← hdB] at hRd
       refine lin_nil ?_
       refine Zn [0] ?_
       refine Zx <| Zq <| Zg <| Zm Y <| Zc [_] Y call31 Y rfl (bopen_any n1 n2 0 xp a b c d dA dB v w sda1 sdb1 sdc1 sdd1 pa Tx Tg zx zg hab hcd z1 z2 z3 z4 (by omega) hwa hwb hRa hRb hRc hRd) ?_
       rintro _ _ ⟨_, ⟨v2, w2, ss2, sr2, sja2, sjb2, st2, su2, ska2, skb2, sda2, sdb2, sdc2, sdd2, rfl, hB2, rfl⟩, rfl⟩
       refine Za Y <| Z0 <| Zx <| at_ret <| nx_block_ret <| Zt ?_
       refine nx_end1 rfl results32 Y (by exact ⟨_, _, _, v2, w2, ss2, sr2, sja2, sjb2, st2, su2, ska2, skb2, sda2, sdb2, sdc2, sdd2, rfl, hB2.more (by omega), rfl⟩)
      case hl_4 =>
       exact each_nil
     case hl_3 =>
      exact each_nil
    case hl_2 =>
     exact each_nil
   case hl_1 =>
    exact each_nil
  ·
   exfalso; omega

theorem bdoes_open (n1 n2 k xp a b c d : Nat) (co : Option Core) (da db : DiskS) (v w : Value) (ss sr sja sjb st su ska skb sda sdb sdc sdd M : List Chunk) (pa : Addr) (Tx Tg : TypeId) (zx zg : Nat × Nat) (hab : a ≠ b) (hcd : c ≠ d) (z1 : 1 ≤ n1) (z2 : n1 ≤ 4194304) (z3 : 1 ≤ n2) (z4 : n2 ≤ 4194304) (hk : k ≤ 900000) (hB : Bth n1 n2 k a b c d co da db v w ss sr sja sjb st su ska skb sda sdb sdc sdd) (kind : Int) (vl : Value) (nn : Int) (vk : Value) (tn : Int) (ls : List (List UInt8)) (zs : List Int) (hM : (StepV.mk kind vl nn vk tn ls zs).ok M) (hkind : pickN kind 8 = 7) : Does Tryz.prog 32 #[.pointer (some ⟨xp, 0, none⟩), .agg #[.int .i64 kind, vl, .int .i64 nn, vk, .int .i64 tn]] [[(xp, .cells #[.pointer (some ⟨a, 0, none⟩), .pointer (some ⟨b, 0, none⟩), v, .pointer (some ⟨c, 0, none⟩), .pointer (some ⟨d, 0, none⟩), w] 74 (0, 0))], ss, sr, sja, sjb, st, su, ska, skb, sda, sdb, sdc, sdd, [(4, .cells (kTab.map u32v).toArray Tg zg)], [(0, .cells #[.iface 299 (.pointer (some pa))] Tx zx)], M] (fun r H' => ∃ co' da' db' v' w' ss' sr' sja' sjb' st' su' ska' skb' sda' sdb' sdc' sdd', r = .bool true ∧ Bth n1 n2 (k + 4) a b c d co' da' db' v' w' ss' sr' sja' sjb' st' su' ska' skb' sda' sdb' sdc' sdd' ∧ H' = [[(xp, .cells #[.pointer (some ⟨a, 0, none⟩), .pointer (some ⟨b, 0, none⟩), v', .pointer (some ⟨c, 0, none⟩), .pointer (some ⟨d, 0, none⟩), w'] 74 (0, 0))], ss', sr', sja', sjb', st', su', ska', skb', sda', sdb', sdc', sdd', [(4, .cells (kTab.map u32v).toArray Tg zg)], [(0, .cells #[.iface 299 (.pointer (some pa))] Tx zx)], M]) := by
 have hpk := pickN_lt kind 8 (by decide)
 have hpn := pickN_lt nn 7 (by decide)
 obtain ⟨k1, k2, n1b, n2b, t1b, t2b, hsl, hil⟩ := hM
 simp only at k1 k2 n1b n2b t1b t2b hsl hil
 obtain ⟨pz, cz, hvk, hzm, hzg⟩ := id hil
 subst hvk
 have hit := hil.take (min zs.length 10) (by omega)
 obtain ⟨pl, nl, cl, hvl⟩ : ∃ p n c, vl = .slice p n c := by
   rcases hsl with ⟨_, _, h, _⟩ | ⟨_, _, _, _, _, _, h, _⟩
   · exact ⟨_, _, _, h⟩
   · exact ⟨_, _, _, h⟩
 subst hvl
 have hfl := few_len ls
 have hfb := few_sm ls
 have hpa := hB.tw.wa.pend
 have hpb := hB.tw.wb.pend
 refine spec_enter func32 rfl ntmps32 rfl ?_
 intro u R
 refine Zb [0, 1] ?_
 refine Zq <| Zg <| Ze (w_box Y (cs := #[_, _, _, _, _]) rfl) ?_
 rintro _ _ ⟨bo, rfl, rfl⟩
 refine Za Y <| Z0 <| Zx <| Zq <| Zg <| Zh 3 underlying78 rfl rfl sizeOf76 Y <| Zl isAgg76 Y ?_
 refine Zh 3 underlying78 rfl rfl sizeOf76 Y <| Zl isAgg76 Y ?_
 refine Zv (p_len_slice underlying76 Y) ?_
 first | refine op_v (p_min_nat (n := 10) Y Y) ?_ | refine op_v (p_min_int Y Y) ?_
 (refine op_v (p_slice_slice_to underlying76 sizeOf3 Y Y ?_) ?_; (focus (omega)))
 refine Za Y <| Z0 <| Zx <| Zq <| Zq <| Zg <| Zh 0 underlying78 rfl rfl sizeOf3 Y <| Zl isAgg3 Y ?_
 refine Zr [_, _] Y call33 Y rfl (pick_spec kind 8 (by decide) (by decide) k1 k2) ?_
 rintro _ _ ⟨rfl, rfl⟩
 refine Z0 <| Zn [0, 3, 5, 15] ?_
 refine Zx <| at_block <| Zq <| Zg ?_
 first | refine op_v (p_eql_nat (n := 5) Y Y) ?_ | refine op_v (p_eql Y Y) ?_
 refine Za Y <| Z0 <| Zx ?_
 first | refine at_if Y (fun hx84 => ?_) (fun hx84 => ?_) | refine at_if_bool Y (fun hx84 => ?_) (fun hx84 => ?_)
 ·
  exfalso; omega
 ·
  refine Zq <| Zg ?_
  first | refine op_v (p_eql_nat (n := 6) Y Y) ?_ | refine op_v (p_eql Y Y) ?_
  refine Za Y <| Z0 <| Zx ?_
  first | refine at_if Y (fun hx89 => ?_) (fun hx89 => ?_) | refine at_if_bool Y (fun hx89 => ?_) (fun hx89 => ?_)
  ·
   exfalso; omega
  ·
   refine Zq <| Zg ?_
   first | refine op_v (p_eql_nat (n := 7) Y Y) ?_ | refine op_v (p_eql Y Y) ?_
   refine Za Y <| Z0 <| Zx ?_
   first | refine at_if Y (fun hx95 => ?_) (fun hx95 => ?_) | refine at_if_bool Y (fun hx95 => ?_) (fun hx95 => ?_)
   ·
    refine Zq <| Zg <| Zm Y <| Zc [_] Y call31 Y rfl (bopen_any n1 n2 k xp a b c d da db v w sda sdb sdc sdd pa Tx Tg zx zg hab hcd z1 z2 z3 z4 hk hB.tw.wa hB.tw.wb hB.ra hB.rb hB.rc hB.rd) ?_
    rintro _ _ ⟨_, ⟨v2, w2, ss2, sr2, sja2, sjb2, st2, su2, ska2, skb2, sda2, sdb2, sdc2, sdd2, rfl, hB2, rfl⟩, rfl⟩
    refine Za Y <| Z0 <| Zx <| at_ret <| nx_block_ret <| Zt ?_
    refine nx_end1 rfl results32 Y (by exact ⟨_, _, _, v2, w2, ss2, sr2, sja2, sjb2, st2, su2, ska2, skb2, sda2, sdb2, sdc2, sdd2, rfl, hB2.more (by omega), rfl⟩)
   ·
    exfalso; omega

theorem bdoes_none (n1 n2 k xp a b c d : Nat) (da db : DiskS) (v w : Value) (ss sr sja sjb st su ska skb sda sdb sdc sdd M : List Chunk) (pa : Addr) (Tx Tg : TypeId) (zx zg : Nat × Nat) (hab : a ≠ b) (hcd : c ≠ d) (z1 : 1 ≤ n1) (z2 : n1 ≤ 4194304) (z3 : 1 ≤ n2) (z4 : n2 ≤ 4194304) (hk : k ≤ 900000) (hB : Bth n1 n2 k a b c d none da db v w ss sr sja sjb st su ska skb sda sdb sdc sdd) (kind : Int) (vl : Value) (nn : Int) (vk : Value) (tn : Int) (ls : List (List UInt8)) (zs : List Int) (hM : (StepV.mk kind vl nn vk tn ls zs).ok M) (hkind : pickN kind 8 < 5) : Does Tryz.prog 32 #[.pointer (some ⟨xp, 0, none⟩), .agg #[.int .i64 kind, vl, .int .i64 nn, vk, .int .i64 tn]] [[(xp, .cells #[.pointer (some ⟨a, 0, none⟩), .pointer (some ⟨b, 0, none⟩), v, .pointer (some ⟨c, 0, none⟩), .pointer (some ⟨d, 0, none⟩), w] 74 (0, 0))], ss, sr, sja, sjb, st, su, ska, skb, sda, sdb, sdc, sdd, [(4, .cells (kTab.map u32v).toArray Tg zg)], [(0, .cells #[.iface 299 (.pointer (some pa))] Tx zx)], M] (fun r H' => ∃ co' da' db' v' w' ss' sr' sja' sjb' st' su' ska' skb' sda' sdb' sdc' sdd', r = .bool true ∧ Bth n1 n2 (k + 4) a b c d co' da' db' v' w' ss' sr' sja' sjb' st' su' ska' skb' sda' sdb' sdc' sdd' ∧ H' = [[(xp, .cells #[.pointer (some ⟨a, 0, none⟩), .pointer (some ⟨b, 0, none⟩), v', .pointer (some ⟨c, 0, none⟩), .pointer (some ⟨d, 0, none⟩), w'] 74 (0, 0))], ss', sr', sja', sjb', st', su', ska', skb', sda', sdb', sdc', sdd', [(4, .cells (kTab.map u32v).toArray Tg zg)], [(0, .cells #[.iface 299 (.pointer (some pa))] Tx zx)], M]) := by
 have hpk := pickN_lt kind 8 (by decide)
 have hpn := pickN_lt nn 7 (by decide)
 obtain ⟨k1, k2, n1b, n2b, t1b, t2b, hsl, hil⟩ := hM
 simp only at k1 k2 n1b n2b t1b t2b hsl hil
 obtain ⟨pz, cz, hvk, hzm, hzg⟩ := id hil
 subst hvk
 have hit := hil.take (min zs.length 10) (by omega)
 obtain ⟨pl, nl, cl, hvl⟩ : ∃ p n c, vl = .slice p n c := by
   rcases hsl with ⟨_, _, h, _⟩ | ⟨_, _, _, _, _, _, h, _⟩
   · exact ⟨_, _, _, h⟩
   · exact ⟨_, _, _, h⟩
 subst hvl
 have hfl := few_len ls
 have hfb := few_sm ls
 have hpa := hB.tw.wa.pend
 have hpb := hB.tw.wb.pend
 obtain ⟨hv1, hs1, hs2, hs3, hs4⟩ := id hB.mo
 subst hv1
 refine spec_enter func32 rfl ntmps32 rfl ?_
 intro u R
 refine Zb [0, 1] ?_
 refine Zq <| Zg <| Ze (w_box Y (cs := #[_, _, _, _, _]) rfl) ?_
 rintro _ _ ⟨bo, rfl, rfl⟩
 refine Za Y <| Z0 <| Zx <| Zq <| Zg <| Zh 3 underlying78 rfl rfl sizeOf76 Y <| Zl isAgg76 Y ?_
 refine Zh 3 underlying78 rfl rfl sizeOf76 Y <| Zl isAgg76 Y ?_
 refine Zv (p_len_slice underlying76 Y) ?_
 first | refine op_v (p_min_nat (n := 10) Y Y) ?_ | refine op_v (p_min_int Y Y) ?_
 (refine op_v (p_slice_slice_to underlying76 sizeOf3 Y Y ?_) ?_; (focus (omega)))
 refine Za Y <| Z0 <| Zx <| Zq <| Zq <| Zg <| Zh 0 underlying78 rfl rfl sizeOf3 Y <| Zl isAgg3 Y ?_
 refine Zr [_, _] Y call33 Y rfl (pick_spec kind 8 (by decide) (by decide) k1 k2) ?_
 rintro _ _ ⟨rfl, rfl⟩
 refine Z0 <| Zn [0, 3, 5, 15] ?_
 refine Zx <| at_block <| Zq <| Zg ?_
 first | refine op_v (p_eql_nat (n := 5) Y Y) ?_ | refine op_v (p_eql Y Y) ?_
 refine Za Y <| Z0 <| Zx ?_
 first | refine at_if Y (fun hx84 => ?_) (fun hx84 => ?_) | refine at_if_bool Y (fun hx84 => ?_) (fun hx84 => ?_)
 ·
  exfalso; omega
 ·
  refine Zq <| Zg ?_
  first | refine op_v (p_eql_nat (n := 6) Y Y) ?_ | refine op_v (p_eql Y Y) ?_
  refine Za Y <| Z0 <| Zx ?_
  first | refine at_if Y (fun hx89 => ?_) (fun hx89 => ?_) | refine at_if_bool Y (fun hx89 => ?_) (fun hx89 => ?_)
  ·
   exfalso; omega
  ·
   refine Zq <| Zg ?_
   first | refine op_v (p_eql_nat (n := 7) Y Y) ?_ | refine op_v (p_eql Y Y) ?_
   refine Za Y <| Z0 <| Zx ?_
   first | refine at_if Y (fun hx95 => ?_) (fun hx95 => ?_) | refine at_if_bool Y (fun hx95 => ?_) (fun hx95 => ?_)
   ·
    exfalso; omega
   ·
    refine at_skip <| nx_block_normal <| Zx <| Zq <| Zq <| Zg <| Zm Y <| Zp Y rfl <| Zh 2 underlying74 rfl rfl sizeOf57 Y <| Zl isAgg57 Y ?_
    first | refine op_v (p_eql_nil_nil underlying57 Y Y) ?_ | refine op_v (p_eql_ptr_nil underlying57 Y Y) ?_
    refine Z0 <| Zx ?_
    refine at_if_bool Y (fun hnil => ?_) (fun hnil => ?_)
    ·
     refine Zq <| at_draw (n := 10) (0 :: 1 :: 3 :: 7 :: 0 :: 16 :: 48 :: 127 :: 255 :: 511 :: []) 192 (by kernel_rfl) (by kernel_rfl) rfl ?_
     refine Zi 1 0 rfl (p_move Y) <| Zi 3 1 rfl (p_nilChk Y rfl) <| Zi 7 2 rfl (p_fieldAddr0 (off := 2) underlying74 rfl rfl sizeOf57 Y) <| Zj 15 3 rfl isAgg57 Y ?_
     refine Zi 31 4 rfl (p_fieldAddr0 (off := 1) underlying78 rfl rfl sizeOf43 Y) <| Zj 63 5 rfl isAgg43 Y ?_
     refine Zz (l := [6]) ?_
     refine Zy 48 127 [5, 3] [false, true] [(3, (_, _))] rfl Y rfl rfl rfl rfl (Zw [_] Y call37 Y rfl (few_mem hsl)) ?hk_1 no_pan ?hl_1
     case hk_1 =>
      rintro _ _ ⟨_, ⟨sf, hf, rfl⟩, rfl⟩
      refine ⟨Zk (keep_nil), ?_⟩
      refine Zz (l := [7]) ?_
      refine Zy 127 255 [3] [false] [] rfl Y rfl rfl rfl rfl (Zu [_, _] Y call38 Y rfl (sappend_nil _)) ?hk_2 (fun _ _ h => h.elim) ?hl_2
      case hk_2 =>
       rintro _ _ ⟨rfl, rfl⟩
       refine ⟨keep_nil, ?_⟩
       first | refine lin_v (D' := 511) 8 (p_eql_nat (n := 1) Y Y) ?_ | refine lin_v (D' := 511) 8 (p_eql Y Y) ?_
       refine Zi 1023 9 rfl (p_assign Y) <| lin_nil ?_
       refine Zn [4] ?_
       refine Zx <| at_ret <| Zt ?_
       refine nx_end1 rfl results32 Y (by exact ⟨none, da, db, .pointer none, w, ss, sr, sja, sjb, st, su, ska, skb, sda, sdb, sdc, sdd, by simp, hB.more (by omega), rfl⟩)
      case hl_2 =>
       exact each_nil
     case hl_1 =>
      exact each_nil
    ·
     cases hnil

theorem bdoes_some (n1 n2 k xp a b c d : Nat) (co : Core) (da db : DiskS) (v w : Value) (ss sr sja sjb st su ska skb sda sdb sdc sdd M : List Chunk) (pa : Addr) (Tx Tg : TypeId) (zx zg : Nat × Nat) (hab : a ≠ b) (hcd : c ≠ d) (z1 : 1 ≤ n1) (z2 : n1 ≤ 4194304) (z3 : 1 ≤ n2) (z4 : n2 ≤ 4194304) (hk : k ≤ 900000) (hB : Bth n1 n2 k a b c d (some co) da db v w ss sr sja sjb st su ska skb sda sdb sdc sdd) (kind : Int) (vl : Value) (nn : Int) (vk : Value) (tn : Int) (ls : List (List UInt8)) (zs : List Int) (hM : (StepV.mk kind vl nn vk tn ls zs).ok M) (hkind : pickN kind 8 < 5) : Does Tryz.prog 32 #[.pointer (some ⟨xp, 0, none⟩), .agg #[.int .i64 kind, vl, .int .i64 nn, vk, .int .i64 tn]] [[(xp, .cells #[.pointer (some ⟨a, 0, none⟩), .pointer (some ⟨b, 0, none⟩), v, .pointer (some ⟨c, 0, none⟩), .pointer (some ⟨d, 0, none⟩), w] 74 (0, 0))], ss, sr, sja, sjb, st, su, ska, skb, sda, sdb, sdc, sdd, [(4, .cells (kTab.map u32v).toArray Tg zg)], [(0, .cells #[.iface 299 (.pointer (some pa))] Tx zx)], M] (fun r H' => ∃ co' da' db' v' w' ss' sr' sja' sjb' st' su' ska' skb' sda' sdb' sdc' sdd', r = .bool true ∧ Bth n1 n2 (k + 4) a b c d co' da' db' v' w' ss' sr' sja' sjb' st' su' ska' skb' sda' sdb' sdc' sdd' ∧ H' = [[(xp, .cells #[.pointer (some ⟨a, 0, none⟩), .pointer (some ⟨b, 0, none⟩), v', .pointer (some ⟨c, 0, none⟩), .pointer (some ⟨d, 0, none⟩), w'] 74 (0, 0))], ss', sr', sja', sjb', st', su', ska', skb', sda', sdb', sdc', sdd', [(4, .cells (kTab.map u32v).toArray Tg zg)], [(0, .cells #[.iface 299 (.pointer (some pa))] Tx zx)], M]) := by
 have hpk := pickN_lt kind 8 (by decide)
 have hpn := pickN_lt nn 7 (by decide)
 obtain ⟨k1, k2, n1b, n2b, t1b, t2b, hsl, hil⟩ := hM
 simp only at k1 k2 n1b n2b t1b t2b hsl hil
 obtain ⟨pz, cz, hvk, hzm, hzg⟩ := id hil
 subst hvk
 have hit := hil.take (min zs.length 10) (by omega)
 obtain ⟨pl, nl, cl, hvl⟩ : ∃ p n c, vl = .slice p n c := by
   rcases hsl with ⟨_, _, h, _⟩ | ⟨_, _, _, _, _, _, h, _⟩
   · exact ⟨_, _, _, h⟩
   · exact ⟨_, _, _, h⟩
 subst hvl
 have hfl := few_len ls
 have hfb := few_sm ls
 have hpa := hB.tw.wa.pend
 have hpb := hB.tw.wb.pend
 obtain ⟨sp, hv1, hC⟩ := id hB.mo
 obtain ⟨tp, hw1, hK⟩ := id hB.ko
 subst hv1 hw1
 have hOk := hB.tw.co co rfl
 refine spec_enter func32 rfl ntmps32 rfl ?_
 intro u R
 refine Zb [0, 1] ?_
 refine Zq <| Zg <| Ze (w_box Y (cs := #[_, _, _, _, _]) rfl) ?_
 rintro _ _ ⟨bo, rfl, rfl⟩
 refine Za Y <| Z0 <| Zx <| Zq <| Zg <| Zh 3 underlying78 rfl rfl sizeOf76 Y <| Zl isAgg76 Y ?_
 refine Zh 3 underlying78 rfl rfl sizeOf76 Y <| Zl isAgg76 Y ?_
 refine Zv (p_len_slice underlying76 Y) ?_
 first | refine op_v (p_min_nat (n := 10) Y Y) ?_ | refine op_v (p_min_int Y Y) ?_
 (refine op_v (p_slice_slice_to underlying76 sizeOf3 Y Y ?_) ?_; (focus (omega)))
 refine Za Y <| Z0 <| Zx <| Zq <| Zq <| Zg <| Zh 0 underlying78 rfl rfl sizeOf3 Y <| Zl isAgg3 Y ?_
 refine Zr [_, _] Y call33 Y rfl (pick_spec kind 8 (by decide) (by decide) k1 k2) ?_
 rintro _ _ ⟨rfl, rfl⟩
 refine Z0 <| Zn [0, 3, 5, 15] ?_
 refine Zx <| at_block <| Zq <| Zg ?_
 first | refine op_v (p_eql_nat (n := 5) Y Y) ?_ | refine op_v (p_eql Y Y) ?_
 refine Za Y <| Z0 <| Zx ?_
 first | refine at_if Y (fun hx84 => ?_) (fun hx84 => ?_) | refine at_if_bool Y (fun hx84 => ?_) (fun hx84 => ?_)
 ·
  exfalso; omega
 ·
  refine Zq <| Zg ?_
  first | refine op_v (p_eql_nat (n := 6) Y Y) ?_ | refine op_v (p_eql Y Y) ?_
  refine Za Y <| Z0 <| Zx ?_
  first | refine at_if Y (fun hx89 => ?_) (fun hx89 => ?_) | refine at_if_bool Y (fun hx89 => ?_) (fun hx89 => ?_)
  ·
   exfalso; omega
  ·
   refine Zq <| Zg ?_
   first | refine op_v (p_eql_nat (n := 7) Y Y) ?_ | refine op_v (p_eql Y Y) ?_
   refine Za Y <| Z0 <| Zx ?_
   first | refine at_if Y (fun hx95 => ?_) (fun hx95 => ?_) | refine at_if_bool Y (fun hx95 => ?_) (fun hx95 => ?_)
   ·
    exfalso; omega
   ·
    refine at_skip <| nx_block_normal <| Zx <| Zq <| Zq <| Zg <| Zm Y <| Zp Y rfl <| Zh 2 underlying74 rfl rfl sizeOf57 Y <| Zl isAgg57 Y ?_
    first | refine op_v (p_eql_nil_nil underlying57 Y Y) ?_ | refine op_v (p_eql_ptr_nil underlying57 Y Y) ?_
    refine Z0 <| Zx ?_
    refine at_if_bool Y (fun hnil => ?_) (fun hnil => ?_)
    ·
     cases hnil
    ·
     refine at_skip <| Zx <| Zq <| Zq <| Zg <| Zh 0 underlying78 rfl rfl sizeOf3 Y <| Zl isAgg3 Y ?_
     refine Zr [_, _] Y call33 Y rfl (pick_spec kind 8 (by decide) (by decide) k1 k2) ?_
     rintro _ _ ⟨rfl, rfl⟩
     first | refine op_v (p_geq_nat (n := 3) Y Y) ?_ | refine op_v (p_geq Y Y) ?_
     refine Z0 <| Zn [0, 3, 117] ?_
     refine Zx ?_
     first | refine at_if Y (fun h3 => ?_) (fun h3 => ?_) | refine at_if_bool Y (fun h3 => ?_) (fun h3 => ?_)
     ·
      refine Zq <| at_draw (n := 18) (0 :: 1 :: 3 :: 7 :: 0 :: 16 :: 48 :: 127 :: 0 :: 256 :: 768 :: 1792 :: 0 :: 4096 :: 12543 :: 32767 :: 65535 :: 131071 :: []) 49344 (by kernel_rfl) (by kernel_rfl) rfl ?_
      refine Zi 1 0 rfl (p_move Y) <| Zi 3 1 rfl (p_nilChk Y rfl) <| Zi 7 2 rfl (p_fieldAddr0 (off := 2) underlying74 rfl rfl sizeOf57 Y) <| Zj 15 3 rfl isAgg57 Y ?_
      refine Zi 31 4 rfl (p_fieldAddr0 (off := 1) underlying78 rfl rfl sizeOf43 Y) <| Zj 63 5 rfl isAgg43 Y ?_
      refine Zi 319 8 rfl (p_move Y) <| Zi 831 9 rfl (p_nilChk Y rfl) <| Zi 1855 10 rfl (p_fieldAddr0 (off := 5) underlying74 rfl rfl sizeOf60 Y) <| Zj 3903 11 rfl isAgg60 Y ?_
      refine Zi 7999 12 rfl (p_fieldAddr0 (off := 1) underlying78 rfl rfl sizeOf43 Y) <| Zj 16191 13 rfl isAgg43 Y ?_
      refine Zz (l := [6]) ?_
      refine Zy 48 16255 [13, 11, 5, 3] [true, true, false, true] [(13, (_, _)), (11, (_, _)), (3, (_, _))] rfl Y rfl rfl rfl rfl (Zw [_] Y call37 Y rfl (few_mem hsl)) ?hk_1 no_pan ?hl_1
      case hk_1 =>
       rintro _ _ ⟨_, ⟨sf, hf, rfl⟩, rfl⟩
       refine ⟨Zk (Zk (Zk (keep_nil))), ?_⟩
       refine Zz (l := [7]) ?_
       refine Zy 127 16383 [13, 11, 3] [true, true, false] [(13, (_, _)), (11, (_, _))] rfl Y rfl rfl rfl rfl (Zw [_, _] Y call36 Y rfl (core_cpt co sp a b n1 n2 k da db ss sr sja sjb sda sdb sf _ (fewL ls) pa Tx Tg zx zg hOk z1 z2 z3 z4 hk hC hB.ra hB.rb hf (by omega) hfb)) ?hk_2 no_pan ?hl_2
       case hk_2 =>
        rintro _ _ ⟨_, ⟨ss1, sr1, sja1, sjb1, sda1, sdb1, rfl, hC1, hRa1, hRb1, rfl⟩, rfl⟩
        refine ⟨Zk (Zk (keep_nil)), ?_⟩
        refine Zz (l := [14]) ?_
        refine Zy 12543 32767 [13, 11] [false, true] [(11, (_, _))] rfl Y rfl rfl rfl rfl (Zw [_] Y call37 Y rfl (few_mem hsl)) ?hk_3 no_pan ?hl_3
        case hk_3 =>
         rintro _ _ ⟨_, ⟨sf2, hf2, rfl⟩, rfl⟩
         refine ⟨Zk (keep_nil), ?_⟩
         refine Zz (l := [15]) ?_
         refine Zy 32767 65535 [11] [false] [] rfl Y rfl rfl rfl rfl (Zw [_, _] Y call65 Y rfl (kt_cpt co tp c d n1 n2 k da db st su ska skb sdc sdd sf2 _ (fewL ls) hOk z1 z2 z3 z4 hk hK hB.rc hB.rd hf2 (by omega) hfb)) ?hk_4 no_pan ?hl_4
         case hk_4 =>
          rintro _ _ ⟨_, ⟨st1, su1, ska1, skb1, sdc1, sdd1, rfl, hK1, hRc1, hRd1, rfl⟩, rfl⟩
          refine ⟨keep_nil, ?_⟩
          first | refine lin_v (D' := 131071) 16 (p_eql_nat Y Y) ?_ | refine lin_v (D' := 131071) 16 (p_eql Y Y) ?_
          refine Zi 262143 17 rfl (p_assign Y) <| lin_nil ?_
          refine Zn [4] ?_
          refine Zx <| at_ret <| Zt ?_
          refine nx_end1 rfl results32 Y (by exact ⟨some _, _, _, _, _, ss1, sr1, sja1, sjb1, st1, su1, ska1, skb1, sda1, sdb1, sdc1, sdd1, by simp, ⟨(CoOk.tw (hOk.cpt z1 z3 (fewL ls))).more (by omega), ⟨sp, rfl, hC1⟩, ⟨tp, rfl, hK1⟩, hRa1, hRb1, hRc1, hRd1⟩, rfl⟩)
         case hl_4 =>
          exact each_nil
        case hl_3 =>
         exact each_nil
       case hl_2 =>
        exact each_nil
      case hl_1 =>
       exact each_nil
     ·
      refine at_skip <| Zx <| Zq <| at_draw (n := 18) (0 :: 1 :: 3 :: 7 :: 0 :: 16 :: 48 :: 127 :: 0 :: 256 :: 768 :: 1792 :: 0 :: 4096 :: 12543 :: 32767 :: 65535 :: 131071 :: []) 49344 (by kernel_rfl) (by kernel_rfl) rfl ?_
      refine Zi 1 0 rfl (p_move Y) <| Zi 3 1 rfl (p_nilChk Y rfl) <| Zi 7 2 rfl (p_fieldAddr0 (off := 2) underlying74 rfl rfl sizeOf57 Y) <| Zj 15 3 rfl isAgg57 Y ?_
      refine Zi 31 4 rfl (p_fieldAddr0 (off := 1) underlying78 rfl rfl sizeOf43 Y) <| Zj 63 5 rfl isAgg43 Y ?_
      refine Zi 319 8 rfl (p_move Y) <| Zi 831 9 rfl (p_nilChk Y rfl) <| Zi 1855 10 rfl (p_fieldAddr0 (off := 5) underlying74 rfl rfl sizeOf60 Y) <| Zj 3903 11 rfl isAgg60 Y ?_
      refine Zi 7999 12 rfl (p_fieldAddr0 (off := 1) underlying78 rfl rfl sizeOf43 Y) <| Zj 16191 13 rfl isAgg43 Y ?_
      refine Zz (l := [6]) ?_
      refine Zy 48 16255 [13, 11, 5, 3] [true, true, false, true] [(13, (_, _)), (11, (_, _)), (3, (_, _))] rfl Y rfl rfl rfl rfl (Zw [_] Y call37 Y rfl (few_mem hsl)) ?hk_6 no_pan ?hl_6
      case hk_6 =>
       rintro _ _ ⟨_, ⟨sf, hf, rfl⟩, rfl⟩
       refine ⟨Zk (Zk (Zk (keep_nil))), ?_⟩
       refine Zz (l := [7]) ?_
       refine Zy 127 16383 [13, 11, 3] [true, true, false] [(13, (_, _)), (11, (_, _))] rfl Y rfl rfl rfl rfl (Zw [_, _] Y call38 Y rfl (core_app co sp a b n1 n2 k da db ss sr sja sjb sda sdb sf _ (fewL ls) Tg zg hOk z2 z4 hk hC hB.ra hB.rb (row_sub hf) (by omega) hfb)) ?hk_7 no_pan ?hl_7
       case hk_7 =>
        rintro _ _ ⟨_, ⟨ss1, sr1, sja1, sjb1, sda1, sdb1, rfl, hC1, hRa1, hRb1, rfl⟩, rfl⟩
        refine ⟨Zk (Zk (keep_nil)), ?_⟩
        refine Zz (l := [14]) ?_
        refine Zy 12543 32767 [13, 11] [false, true] [(11, (_, _))] rfl Y rfl rfl rfl rfl (Zw [_] Y call37 Y rfl (few_mem hsl)) ?hk_8 no_pan ?hl_8
        case hk_8 =>
         rintro _ _ ⟨_, ⟨sf2, hf2, rfl⟩, rfl⟩
         refine ⟨Zk (keep_nil), ?_⟩
         refine Zz (l := [15]) ?_
         refine Zy 32767 65535 [11] [false] [] rfl Y rfl rfl rfl rfl (Zw [_, _] Y call77 Y rfl (kt_app co tp c d n1 n2 k da db st su ska skb sdc sdd sf2 _ (fewL ls) hOk z2 z4 hk hK hB.rc hB.rd hf2 (by omega) hfb)) ?hk_9 no_pan ?hl_9
         case hk_9 =>
          rintro _ _ ⟨_, ⟨st1, su1, ska1, skb1, sdc1, sdd1, rfl, hK1, hRc1, hRd1, rfl⟩, rfl⟩
          refine ⟨keep_nil, ?_⟩
          first | refine lin_v (D' := 131071) 16 (p_eql_nat Y Y) ?_ | refine lin_v (D' := 131071) 16 (p_eql Y Y) ?_
          refine Zi 262143 17 rfl (p_assign Y) <| lin_nil ?_
          refine Zn [4] ?_
          refine Zx <| at_ret ?_
          refine nx_end1 rfl results32 Y (by exact ⟨some _, _, _, _, _, ss1, sr1, sja1, sjb1, st1, su1, ska1, skb1, sda1, sdb1, sdc1, sdd1, by simp, ⟨(CoOk.tw (hOk.app (fewL ls))).more (by omega), ⟨sp, rfl, hC1⟩, ⟨tp, rfl, hK1⟩, hRa1, hRb1, hRc1, hRd1⟩, rfl⟩)
         case hl_9 =>
          exact each_nil
        case hl_8 =>
         exact each_nil
       case hl_7 =>
        exact each_nil
      case hl_6 =>
       exact each_nil

theorem bdoes_any (n1 n2 k xp a b c d : Nat) (co : Option Core) (da db : DiskS) (v w : Value) (ss sr sja sjb st su ska skb sda sdb sdc sdd M : List Chunk) (pa : Addr) (Tx Tg : TypeId) (zx zg : Nat × Nat) (hab : a ≠ b) (hcd : c ≠ d) (z1 : 1 ≤ n1) (z2 : n1 ≤ 4194304) (z3 : 1 ≤ n2) (z4 : n2 ≤ 4194304) (hk : k ≤ 900000) (hB : Bth n1 n2 k a b c d co da db v w ss sr sja sjb st su ska skb sda sdb sdc sdd) (kind : Int) (vl : Value) (nn : Int) (vk : Value) (tn : Int) (ls : List (List UInt8)) (zs : List Int) (hM : (StepV.mk kind vl nn vk tn ls zs).ok M) : Does Tryz.prog 32 #[.pointer (some ⟨xp, 0, none⟩), .agg #[.int .i64 kind, vl, .int .i64 nn, vk, .int .i64 tn]] [[(xp, .cells #[.pointer (some ⟨a, 0, none⟩), .pointer (some ⟨b, 0, none⟩), v, .pointer (some ⟨c, 0, none⟩), .pointer (some ⟨d, 0, none⟩), w] 74 (0, 0))], ss, sr, sja, sjb, st, su, ska, skb, sda, sdb, sdc, sdd, [(4, .cells (kTab.map u32v).toArray Tg zg)], [(0, .cells #[.iface 299 (.pointer (some pa))] Tx zx)], M] (fun r H' => ∃ co' da' db' v' w' ss' sr' sja' sjb' st' su' ska' skb' sda' sdb' sdc' sdd', r = .bool true ∧ Bth n1 n2 (k + 4) a b c d co' da' db' v' w' ss' sr' sja' sjb' st' su' ska' skb' sda' sdb' sdc' sdd' ∧ H' = [[(xp, .cells #[.pointer (some ⟨a, 0, none⟩), .pointer (some ⟨b, 0, none⟩), v', .pointer (some ⟨c, 0, none⟩), .pointer (some ⟨d, 0, none⟩), w'] 74 (0, 0))], ss', sr', sja', sjb', st', su', ska', skb', sda', sdb', sdc', sdd', [(4, .cells (kTab.map u32v).toArray Tg zg)], [(0, .cells #[.iface 299 (.pointer (some pa))] Tx zx)], M]) := by
  have hpk := pickN_lt kind 8 (by decide)
  rcases (by omega : pickN kind 8 < 5 ∨ pickN kind 8 = 5 ∨ pickN kind 8 = 6 ∨ pickN kind 8 = 7) with h | h | h | h
  · cases co with
    | none => exact bdoes_none n1 n2 k xp a b c d da db v w ss sr sja sjb st su ska skb sda sdb sdc sdd M pa Tx Tg zx zg hab hcd z1 z2 z3 z4 hk hB kind vl nn vk tn ls zs hM h
    | some co => exact bdoes_some n1 n2 k xp a b c d co da db v w ss sr sja sjb st su ska skb sda sdb sdc sdd M pa Tx Tg zx zg hab hcd z1 z2 z3 z4 hk hB kind vl nn vk tn ls zs hM h
  · exact bdoes_cut n1 n2 k xp a b c d co da db v w ss sr sja sjb st su ska skb sda sdb sdc sdd M pa Tx Tg zx zg hab hcd z1 z2 z3 z4 hk hB kind vl nn vk tn ls zs hM h
  · exact bdoes_crash n1 n2 k xp a b c d co da db v w ss sr sja sjb st su ska skb sda sdb sdc sdd M pa Tx Tg zx zg hab hcd z1 z2 z3 z4 hk hB kind vl nn vk tn ls zs hM h
  · exact bdoes_open n1 n2 k xp a b c d co da db v w ss sr sja sjb st su ska skb sda sdb sdc sdd M pa Tx Tg zx zg hab hcd z1 z2 z3 z4 hk hB kind vl nn vk tn ls zs hM h

end Go.Proofs.YthbadolcncojbaaGreatDoor
