/- SnapshotMatchesReference: the law. -/
import Derived.Test.YthbadolcncojbaaGreatDoorEz
import Derived.Test.YthbadolcncojbaaGreatDoorMb2
import Derived.Test.YthbadolcncojbaaGreatDoorSn3
import Derived.Test.YthbadolcncojbaaGreatDoorJm6

namespace Go.Proofs.YthbadolcncojbaaGreatDoor
open Go.Proofs.Tryz
open Go Go.RowKit Gw
set_option linter.unusedVariables false
set_option maxRecDepth 100000
attribute [local irreducible] Gw.At Gw.Nx Gw.Ops
theorem wok_no (n : Nat) : Wok n 0 (DiskS.new n) none := ⟨by simp [DiskS.new], Nat.le_refl _, (by intro p hp; cases hp), fun j hj => by cases hj⟩

theorem smatches_law (m : Int) (m1 : -9223372036854775808 ≤ m) (m2 : m ≤ 9223372036854775807) (n : Int) (h1 : -9223372036854775808 ≤ n) (h2 : n ≤ 9223372036854775807) (p : Option Addr) (cap : Nat) (os : List StepV) (M : List Chunk) (hO : StepsIn M (.slice p os.length cap) os) (pa : Addr) (Tx Tg : TypeId) (zx zg : Nat × Nat) :
    DoesR Tryz.prog 5 #[.int .i64 m, .int .i64 n, .slice p os.length cap] [[(4, .cells (kTab.map u32v).toArray Tg zg)], [(0, .cells #[.iface 299 (.pointer (some pa))] Tx zx)], M] (.bool true) := by
 have hml : maxLen = 9223372036854775807 := rfl
 have hsm : sizeN m = 40 + pickN m 1200 := rfl
 have hsn : sizeN n = 40 + pickN n 1200 := rfl
 have hpm := pickN_lt m 1200 (by decide)
 have hpn := pickN_lt n 1200 (by decide)
 obtain ⟨pz, capz, hpz, hlz, hgz⟩ := hO
 injection hpz with e1 e2 e3
 subst e1 e3
 obtain ⟨n1, hn1⟩ : ∃ x, x = sizeN m := ⟨_, rfl⟩
 obtain ⟨n2, hn2⟩ : ∃ x, x = sizeN n := ⟨_, rfl⟩
 have z1 : 1 ≤ n1 := by omega
 have z2 : n1 ≤ 4194304 := by omega
 have z3 : 1 ≤ n2 := by omega
 have z4 : n2 ≤ 4194304 := by omega
 refine spec_enter func5 rfl ntmps5 rfl ?_
 intro u R
 refine Zb [0, 1, 2] ?_
 refine Zq <| Zg <| Za Y <| Z0 <| Zx <| Zq <| Zg <| Zr [] Y call18 Y rfl (sane24 pa Tx Tg zx zg) ?_
 rintro _ _ ⟨rfl, rfl⟩
 refine Za Y <| Z0 <| Zx <| Zq <| Zg <| Zm Y <| Zr [_] Y call30 Y rfl (size_law m m1 m2) ?_
 rintro _ _ ⟨rfl, rfl⟩
 rw [← hn1]
 refine Zc [_] Y call9 Y rfl (new_state n1 z1 z2) ?_
 rintro _ _ ⟨_, ⟨a, sda, rfl, rfl, hRa⟩, rfl⟩
 obtain ⟨csa, hca⟩ := disk_cell hRa
 refine Zm Y <| Zd Y rfl <| Zd Y rfl <| Za Y <| Za Y <| Z0 <| Zx <| Zq <| Zg <| Zm Y <| Zr [_] Y call30 Y rfl (size_law n h1 h2) ?_
 rintro _ _ ⟨rfl, rfl⟩
 rw [← hn2]
 refine Zc [_] Y call9 Y rfl (new_state n2 z3 z4) ?_
 rintro _ _ ⟨_, ⟨b, sdb, rfl, rfl, hRb⟩, rfl⟩
 obtain ⟨csb, hcb⟩ := disk_cell hRb
 refine Zm Y <| Zd Y rfl <| Zd Y rfl <| Za Y <| Za Y <| Z0 <| Zn [0, 1, 2, 7, 8, 10] ?_
 refine Zx <| Zq <| Zg <| Zm Y <| Zr [_] Y call30 Y rfl (size_law m m1 m2) ?_
 rintro _ _ ⟨rfl, rfl⟩
 rw [← hn1]
 refine Zc [_] Y call19 Y rfl (rd_new n1 z1 z2) ?_
 rintro _ _ ⟨_, ⟨c, sdc, rfl, hRc, rfl⟩, rfl⟩
 obtain ⟨csc, hcc⟩ := rd_cell hRc
 refine Zm Y <| Zd Y rfl <| Zd Y rfl <| Za Y <| Za Y <| Z0 <| Zx <| Zq <| Zg <| Zm Y <| Zr [_] Y call30 Y rfl (size_law n h1 h2) ?_
 rintro _ _ ⟨rfl, rfl⟩
 rw [← hn2]
 refine Zc [_] Y call19 Y rfl (rd_new n2 z3 z4) ?_
 rintro _ _ ⟨_, ⟨d, sdd, rfl, hRd, rfl⟩, rfl⟩
 obtain ⟨csd, hcd0⟩ := rd_cell hRd
 refine Zm Y <| Zd Y rfl <| Zd Y rfl <| Za Y <| Za Y <| Z0 <| Zn [2, 7, 8, 10, 12, 14] ?_
 refine Zx <| Zq ?_
 refine at_ne (s1 := sda) (s2 := sdb) (by repeat (first | exact One.here _ _ | apply One.there)) (by repeat (first | exact One.here _ _ | apply One.there)) hca hcb (fun hab => ?_)
 refine at_ne (s1 := sdc) (s2 := sdd) (by repeat (first | exact One.here _ _ | apply One.there)) (by repeat (first | exact One.here _ _ | apply One.there)) hcc hcd0 (fun hcd => ?_)
 refine Zg <| Zm Y <| Zm Y <| Zm Y <| Zm Y <| Zv (p_build (vs := [(0, _), (1, _), (3, _), (4, _)]) (cs := #[_, _, _, _, _, _]) Y (run_build_struct (pl := #[(0, 1), (1, 1), (2, 1), (3, 1), (4, 1), (5, 1)]) zeroValue74 underlying74 (fun _ => by kernel_rfl) rfl)) ?_
 refine Ze (w_box Y (cs := #[_, _, _, _, _, _]) rfl) ?_
 rintro _ _ ⟨xp, rfl, rfl⟩
 refine Za Y <| Z0 <| Zx <| Zq <| Zq <| Zg <| Zm Y <| Zc [_] Y call31 Y rfl (bopen_any n1 n2 0 xp a b c d (DiskS.new n1) (DiskS.new n2) _ _ sda sdb sdc sdd pa Tx Tg zx zg hab hcd z1 z2 z3 z4 (by omega) (wok_no n1) (wok_no n2) hRa hRb hRc hRd) ?_
 rintro _ _ ⟨_, ⟨v0, w0, ss0, sr0, sja0, sjb0, st0, su0, ska0, skb0, sda0, sdb0, sdc0, sdd0, rfl, hB0, rfl⟩, rfl⟩
 first | refine op_v (p_not_dec Y) ?_ | refine op_v (p_not Y) ?_
 refine Z0 <| Zx ?_
 refine at_if_bool Y (fun hop => ?_) (fun hop => ?_)
 ·
  exfalso; first | exact hop rfl | (cases hop; done) | contradiction | omega | (simp at hop; done) | (simp at hop; omega) | (simp_all; done) | (simp_all; omega)
 ·
  refine at_skip <| Zx <| Zq <| Zq <| Zg <| Za Y <| Z0 <| Zx <| at_block <| Zb [17, 2, 7, 16] ?_
  refine at_loopB (e0 := [(17, _)]) (H0 := _) (n := _) (fun m e H => ∃ (i : Nat) (co : Option Core) (da db : DiskS) (v w : Value) (ss sr sja sjb st su ska skb sda sdb sdc sdd : List Chunk), m = 25 - i ∧ (i ≤ 25 ∧ Bth n1 n2 (4 * i + 4) a b c d co da db v w ss sr sja sjb st su ska skb sda sdb sdc sdd) ∧ e = [(17, .int .i64 (i : Int))] ∧ H = [[(xp, .cells #[.pointer (some ⟨a, 0, none⟩), .pointer (some ⟨b, 0, none⟩), v, .pointer (some ⟨c, 0, none⟩), .pointer (some ⟨d, 0, none⟩), w] 74 (0, 0))], ss, sr, sja, sjb, st, su, ska, skb, sda, sdb, sdc, sdd]) (by exact ⟨0, _, _, _, v0, w0, ss0, sr0, sja0, sjb0, st0, su0, ska0, skb0, sda0, sdb0, sdc0, sdd0, rfl, ⟨Nat.zero_le _, hB0.more (by omega)⟩, rfl, rfl⟩) (by repeat (first | exact Pull.nil _ | (apply Pull.cons; (focus (repeat (first | exact One.here _ _ | apply One.there)))))) ?_
  rintro _ _ _ ⟨i, co, da, db, v, w, ss, sr, sja, sjb, st, su, ska, skb, sda, sdb, sdc, sdd, rfl, ⟨hi, hB⟩, rfl, rfl⟩
  refine Zq <| Zq <| Zg <| Zm Y <| Zm Y <| Zv (p_len_slice underlying70 Y) ?_
  first | refine op_v (p_lss_nat Y Y) ?_ | refine op_v (p_lss Y Y) ?_
  refine Zm Y ?_
  first | refine ops_split (t := 56) Y rfl (fun hlt => ?_) (fun hlt => ?_) | refine ops_split_bool (t := 56) Y rfl (fun hlt => ?_) (fun hlt => ?_)
  ·
   refine Zf Y Y ?_
   first | refine op_wg Y (p_lss_nat (n := 25) Y Y) rfl rfl ?_ | refine op_wg Y (p_lss Y Y) rfl rfl ?_
   refine Zv (p_pick_t Y Y) <| Z0 <| Zx ?_
   first | refine at_if Y (fun hl25 => ?_) (fun hl25 => ?_) | refine at_if_bool Y (fun hl25 => ?_) (fun hl25 => ?_)
   ·
    refine at_skip <| Zx <| Zq <| at_block <| Zq <| Zq ?_
    obtain ⟨o, ho⟩ : ∃ o, os[i]? = some o := ⟨_, List.getElem?_eq_getElem hlt⟩
    obtain ⟨hok, g, off, cur, T, zz, rfl, hm, hsz, hex⟩ := hgz i o ho
    refine Zg <| Zm Y <| Zm Y <| Zm Y ?_
    (refine op_v (p_indexAddr_nat underlying70 sizeOf78 Y Y ?_) ?_; (focus (omega)))
    refine op_rm (cs := [(g, .cells cur T zz)]) (by simp [hm]) (p_load_agg (cs := #[.int .i64 o.kind, o.vl, .int .i64 o.n, o.vk, .int .i64 o.torn]) isAgg78 sizeOf78 Y (by omega) hex) rfl rfl ?_
    refine Zc [_, _] Y call32 Y rfl (bdoes_any n1 n2 (4 * i + 4) xp a b c d co da db v w ss sr sja sjb st su ska skb sda sdb sdc sdd M pa Tx Tg zx zg hab hcd z1 z2 z3 z4 (by omega) hB o.kind o.vl o.n o.vk o.torn o.ls o.zs hok) ?_
    rintro _ _ ⟨_, ⟨co2, dA, dB, v2, w2, ss2, sr2, sja2, sjb2, st2, su2, ska2, skb2, sda2, sdb2, sdc2, sdd2, rfl, hB2, rfl⟩, rfl⟩
    rcases co2 with _ | co2
    ·
     obtain ⟨hv1, _⟩ := id hB2.mo
     subst hv1
     first | refine op_v (p_not_dec Y) ?_ | refine op_v (p_not Y) ?_
     refine Z0 <| Zn [2, 7, 16, 17, 68] ?_
     refine Zx ?_
     refine at_if_bool Y (fun hdo => ?_) (fun hdo => ?_)
     ·
      exfalso; first | exact hdo rfl | (cases hdo; done) | contradiction | omega | (simp at hdo; done) | (simp at hdo; omega) | (simp_all; done) | (simp_all; omega)
     ·
      refine at_skip <| Zx <| Zq <| at_draw (n := 49) (0 :: 1 :: 3 :: 7 :: 15 :: 31 :: 63 :: 127 :: 255 :: 511 :: 1023 :: 63 :: 2111 :: 6207 :: 14399 :: 30783 :: 63551 :: 129087 :: 262143 :: 524287 :: 1048575 :: 2097151 :: 4194303 :: 8388607 :: 16777215 :: 33554431 :: 2097151 :: 69206015 :: 203423743 :: 471859199 :: 1008730111 :: 2082471935 :: 4229955583 :: 8589934591 :: 17179869183 :: 34359738367 :: 68719476735 :: 137438953471 :: 274877906943 :: 549755813887 :: 1099511627775 :: 68719476735 :: 2267742732287 :: 6665789243391 :: 15461882265599 :: 35184372088831 :: 70368744177663 :: 140737488355327 :: 281474976710655 :: []) 36283917534208 (by kernel_rfl) (by kernel_rfl) rfl ?_
      refine Zi 1 0 rfl (p_move Y) <| Zi 3 1 rfl (p_nilChk Y rfl) <| Zi 7 2 rfl (p_fieldAddr0 (off := 2) underlying74 rfl rfl sizeOf57 Y) <| Zj 15 3 rfl isAgg57 Y ?_
      first | refine lin_v (D' := 31) 4 (p_neq_nil_nil underlying57 Y Y) ?_ | refine lin_v (D' := 31) 4 (p_neq_ptr_nil underlying57 Y Y) ?_
      refine Zi 63 5 rfl (p_move Y) ?_
      refine lin_split_bool (t := 74) Y (fun hw1 => ?_) (fun hw1 => ?_)
      ·
       first | rw [decide_eq_true hw1] | rw [hw1] | skip
       exfalso; first | exact hw1 rfl | (cases hw1; done) | contradiction | omega | (simp at hw1; done) | (simp at hw1; omega) | (simp_all; done) | (simp_all; omega)
      ·
       first | rw [decide_eq_false hw1] | rw [hw1] | skip
       refine lin_skip (D' := 127) 6 rfl Y rfl rfl ?_
       refine lin_skip (D' := 255) 7 rfl Y rfl rfl ?_
       refine lin_skip (D' := 511) 8 rfl Y rfl rfl ?_
       refine lin_skip (D' := 1023) 9 rfl Y rfl rfl ?_
       refine lin_skip (D' := 2047) 10 rfl Y rfl rfl ?_
       refine lin_skip (D' := 4095) 11 rfl Y rfl rfl ?_
       refine lin_skip (D' := 8191) 12 rfl Y rfl rfl ?_
       refine lin_skip (D' := 16383) 13 rfl Y rfl rfl ?_
       refine lin_skip (D' := 32767) 14 rfl Y rfl rfl ?_
       refine lin_skip (D' := 65535) 15 rfl Y rfl rfl ?_
       refine lin_skip (D' := 131071) 16 rfl Y rfl rfl ?_
       refine lin_skip (D' := 262143) 17 rfl Y rfl rfl ?_
       refine lin_skip (D' := 524287) 18 rfl Y rfl rfl ?_
       refine lin_skip (D' := 1048575) 19 rfl Y rfl rfl ?_
       refine lin_skip (D' := 2097151) 20 rfl Y rfl rfl ?_
       refine lin_skip (D' := 4194303) 21 rfl Y rfl rfl ?_
       refine lin_skip (D' := 8388607) 22 rfl Y rfl rfl ?_
       refine lin_skip (D' := 16777215) 23 rfl Y rfl rfl ?_
       refine lin_skip (D' := 33554431) 24 rfl Y rfl rfl ?_
       refine lin_skip (D' := 67108863) 25 rfl Y rfl rfl ?_
       refine lin_skip (D' := 134217727) 26 rfl Y rfl rfl ?_
       refine lin_skip (D' := 268435455) 27 rfl Y rfl rfl ?_
       refine lin_skip (D' := 536870911) 28 rfl Y rfl rfl ?_
       refine lin_skip (D' := 1073741823) 29 rfl Y rfl rfl ?_
       refine lin_skip (D' := 2147483647) 30 rfl Y rfl rfl ?_
       refine lin_skip (D' := 4294967295) 31 rfl Y rfl rfl ?_
       refine lin_skip (D' := 8589934591) 32 rfl Y rfl rfl ?_
       refine lin_skip (D' := 17179869183) 33 rfl Y rfl rfl ?_
       refine lin_skip (D' := 34359738367) 34 rfl Y rfl rfl ?_
       refine lin_skip (D' := 68719476735) 35 rfl Y rfl rfl ?_
       refine lin_skip (D' := 137438953471) 36 rfl Y rfl rfl ?_
       refine lin_skip (D' := 274877906943) 37 rfl Y rfl rfl ?_
       refine lin_skip (D' := 549755813887) 38 rfl Y rfl rfl ?_
       refine lin_skip (D' := 1099511627775) 39 rfl Y rfl rfl ?_
       refine lin_skip (D' := 2199023255551) 40 rfl Y rfl rfl ?_
       refine lin_skip (D' := 4398046511103) 41 rfl Y rfl rfl ?_
       refine lin_skip (D' := 8796093022207) 42 rfl Y rfl rfl ?_
       refine lin_skip (D' := 17592186044415) 43 rfl Y rfl rfl ?_
       refine lin_skip (D' := 35184372088831) 44 rfl Y rfl rfl ?_
       refine lin_skip (D' := 70368744177663) 45 rfl Y rfl rfl ?_
       refine lin_skip (D' := 140737488355327) 46 rfl Y rfl rfl ?_
       refine lin_skip (D' := 281474976710655) 47 rfl Y rfl rfl ?_
       refine Zi 562949953421311 48 rfl (p_pick_f Y Y) <| lin_nil ?_
       refine Zn [2, 7, 16, 17, 117] ?_
       refine Zx <| at_else Y <| at_skip <| nx_block_normal <| Zx <| Zg <| Zm Y ?_
       first | (refine op_v (p_add_nat (n := 1) Y Y ?_) ?_; (focus (omega))) | (refine op_v (p_add Y Y (IntWalk.i64_in _ ?_)) ?_; (focus (omega)))
       refine Za Y <| Z0 <| Zn [17, 2, 7, 16] ?_
       refine nx_againB (e' := [(17, _)]) (m := _) (H' := _) (by first | exact ⟨i + 1, none, dA, dB, _, _, ss2, sr2, sja2, sjb2, st2, su2, ska2, skb2, sda2, sdb2, sdc2, sdd2, rfl, ⟨by omega, hB2⟩, rfl, rfl⟩ | exact ⟨i + 1, some co2, dA, dB, _, _, ss2, sr2, sja2, sjb2, _, su2, ska2, skb2, sda2, sdb2, sdc2, sdd2, rfl, ⟨by omega, hB2⟩, rfl, rfl⟩)
    ·
     obtain ⟨sp, hv1, hC⟩ := id hB2.mo
     obtain ⟨tp, hw1, hK⟩ := id hB2.ko
     subst hv1 hw1
     have hOk := hB2.tw.co co2 rfl
     have hits := hOk.big z2 z4
     obtain ⟨ap9, bp9, v9, cs9, hKa9, hKb9, hrow9, hcs9, hst9⟩ := id hK
     obtain ⟨g9, c9, hv9⟩ := hrow9.form
     subst hcs9 hst9 hv9
     first | refine op_v (p_not_dec Y) ?_ | refine op_v (p_not Y) ?_
     refine Z0 <| Zn [2, 7, 16, 17, 68] ?_
     refine Zx ?_
     refine at_if_bool Y (fun hdo => ?_) (fun hdo => ?_)
     ·
      exfalso; first | exact hdo rfl | (cases hdo; done) | contradiction | omega | (simp at hdo; done) | (simp at hdo; omega) | (simp_all; done) | (simp_all; omega)
     ·
      refine at_skip <| Zx <| Zq <| at_draw (n := 49) (0 :: 1 :: 3 :: 7 :: 15 :: 31 :: 63 :: 127 :: 255 :: 511 :: 1023 :: 63 :: 2111 :: 6207 :: 14399 :: 30783 :: 63551 :: 129087 :: 262143 :: 524287 :: 1048575 :: 2097151 :: 4194303 :: 8388607 :: 16777215 :: 33554431 :: 2097151 :: 69206015 :: 203423743 :: 471859199 :: 1008730111 :: 2082471935 :: 4229955583 :: 8589934591 :: 17179869183 :: 34359738367 :: 68719476735 :: 137438953471 :: 274877906943 :: 549755813887 :: 1099511627775 :: 68719476735 :: 2267742732287 :: 6665789243391 :: 15461882265599 :: 35184372088831 :: 70368744177663 :: 140737488355327 :: 281474976710655 :: []) 36283917534208 (by kernel_rfl) (by kernel_rfl) rfl ?_
      refine Zi 1 0 rfl (p_move Y) <| Zi 3 1 rfl (p_nilChk Y rfl) <| Zi 7 2 rfl (p_fieldAddr0 (off := 2) underlying74 rfl rfl sizeOf57 Y) <| Zj 15 3 rfl isAgg57 Y ?_
      first | refine lin_v (D' := 31) 4 (p_neq_nil_nil underlying57 Y Y) ?_ | refine lin_v (D' := 31) 4 (p_neq_ptr_nil underlying57 Y Y) ?_
      refine Zi 63 5 rfl (p_move Y) ?_
      first | refine lin_split (t := 74) Y (fun hw1 => ?_) (fun hw1 => ?_) | refine lin_split_bool (t := 74) Y (fun hw1 => ?_) (fun hw1 => ?_)
      ·
       first | rw [decide_eq_true hw1] | rw [hw1] | skip
       refine lin_wg (D' := 127) 6 Y rfl rfl rfl (p_move Y) ?_
       refine lin_wg (D' := 255) 7 Y rfl rfl rfl (p_nilChk Y rfl) ?_
       refine lin_wg (D' := 511) 8 Y rfl rfl rfl (p_fieldAddr0 (off := 2) underlying74 rfl rfl sizeOf57 Y) ?_
       refine lin_rg (D' := 1023) 9 Y rfl rfl rfl (by repeat (first | exact Has.here _ | apply Has.there)) (p_load isAgg57 Y (by rfl)) ?_
       refine lin_wg (D' := 3071) 11 Y rfl rfl rfl (p_move Y) ?_
       refine lin_wg (D' := 7167) 12 Y rfl rfl rfl (p_nilChk Y rfl) ?_
       refine lin_wg (D' := 15359) 13 Y rfl rfl rfl (p_fieldAddr0 (off := 5) underlying74 rfl rfl sizeOf60 Y) ?_
       refine lin_rg (D' := 31743) 14 Y rfl rfl rfl (by repeat (first | exact Has.here _ | apply Has.there)) (p_load isAgg60 Y (by rfl)) ?_
       refine lin_wg (D' := 64511) 15 Y rfl rfl rfl (p_nilChk Y rfl) ?_
       refine lin_wg (D' := 130047) 16 Y rfl rfl rfl (p_fieldAddr0 (off := 4) underlying68 rfl rfl sizeOf43 Y) ?_
       refine lin_rg (D' := 261119) 17 Y rfl rfl rfl (by repeat (first | exact Has.here _ | apply Has.there)) (p_load isAgg43 Y (by rfl)) ?_
       refine Zz (l := [10]) ?_
       refine Zy 1023 262143 [17, 14, 9, 3] [true, true, false, false] [(17, (_, _)), (14, (_, _))] rfl Y rfl rfl rfl rfl (Zw [_] Y call26 Y rfl (core_items co2 sp a b ss2 sr2 sja2 sjb2 hits hC)) ?hk_3 no_pan ?hl_3
       case hk_3 =>
        rintro _ _ ⟨_, ⟨sv9, hv9i, rfl⟩, rfl⟩
        refine ⟨Zk (Zk (keep_nil)), ?_⟩
        refine Zz (l := [18]) ?_
        refine Zy 262143 524287 [17, 14] [false, false] [] rfl Y rfl rfl rfl rfl (Zu [_, _] Y call25 Y rfl (same_rows hv9i hrow9 hits)) ?hk_4 (fun _ _ h => h.elim) ?hl_4
        case hk_4 =>
         rintro _ _ ⟨rfl, rfl⟩
         refine ⟨keep_nil, ?_⟩
         first | refine lin_wg (D' := 1048575) 19 Y rfl rfl rfl (p_not_dec Y) ?_ | refine lin_wg (D' := 1048575) 19 Y rfl rfl rfl (p_not Y) ?_
         refine lin_wg (D' := 2097151) 20 Y rfl rfl rfl (p_move Y) ?_
         refine lin_split_bool (t := 89) Y (fun hw2 => ?_) (fun hw2 => ?_)
         ·
          first | rw [decide_eq_true hw2] | rw [hw2] | skip
          exfalso; first | exact hw2 rfl | (cases hw2; done) | contradiction | omega | (simp at hw2; done) | (simp at hw2; omega) | (simp_all; done) | (simp_all; omega)
         ·
          first | rw [decide_eq_false hw2] | rw [hw2] | skip
          refine lin_wg (D' := 4194303) 21 Y rfl rfl rfl (p_move Y) ?_
          refine lin_wg (D' := 8388607) 22 Y rfl rfl rfl (p_nilChk Y rfl) ?_
          refine lin_wg (D' := 16777215) 23 Y rfl rfl rfl (p_fieldAddr0 (off := 2) underlying74 rfl rfl sizeOf57 Y) ?_
          refine lin_rg (D' := 33554431) 24 Y rfl rfl rfl (by repeat (first | exact Has.here _ | apply Has.there)) (p_load isAgg57 Y (by rfl)) ?_
          refine lin_wg (D' := 100663295) 26 Y rfl rfl rfl (p_move Y) ?_
          refine lin_wg (D' := 234881023) 27 Y rfl rfl rfl (p_nilChk Y rfl) ?_
          refine lin_wg (D' := 503316479) 28 Y rfl rfl rfl (p_fieldAddr0 (off := 5) underlying74 rfl rfl sizeOf60 Y) ?_
          refine lin_rg (D' := 1040187391) 29 Y rfl rfl rfl (by repeat (first | exact Has.here _ | apply Has.there)) (p_load isAgg60 Y (by rfl)) ?_
          refine lin_wg (D' := 2113929215) 30 Y rfl rfl rfl (p_nilChk Y rfl) ?_
          refine lin_wg (D' := 4261412863) 31 Y rfl rfl rfl (p_fieldAddr0 (off := 3) underlying68 rfl rfl sizeOf3 Y) ?_
          refine lin_rg (D' := 8556380159) 32 Y rfl rfl rfl (by repeat (first | exact Has.here _ | apply Has.there)) (p_load isAgg3 Y (by rfl)) ?_
          refine Zz (l := [25]) ?_
          refine Zy 33554431 8589934591 [32, 29, 24] [true, true, false] [(32, (_, _)), (29, (_, _))] rfl Y rfl rfl rfl rfl (Zu [_] Y call27 Y rfl (core_gen co2 sp a b ss2 sr2 sja2 sjb2 hC)) ?hk_5 (fun _ _ h => h.elim) ?hl_5
          case hk_5 =>
           rintro _ _ ⟨rfl, rfl⟩
           refine ⟨Zk (Zk (keep_nil)), ?_⟩
           first | refine lin_wg (D' := 17179869183) 33 Y rfl rfl rfl (p_neq_nat Y Y) ?_ | refine lin_wg (D' := 17179869183) 33 Y rfl rfl rfl (p_neq Y Y) ?_
           refine lin_wg (D' := 34359738367) 34 Y rfl rfl rfl (p_pick_f Y Y) ?_
           refine lin_wg (D' := 68719476735) 35 Y rfl rfl rfl (p_move Y) ?_
           refine lin_split_bool (t := 104) Y (fun hw3 => ?_) (fun hw3 => ?_)
           ·
            first | rw [decide_eq_true hw3] | rw [hw3] | skip
            exfalso; first | exact hw3 rfl | (cases hw3; done) | contradiction | omega | (simp at hw3; done) | (simp at hw3; omega) | (simp_all; done) | (simp_all; omega)
           ·
            first | rw [decide_eq_false hw3] | rw [hw3] | skip
            refine lin_wg (D' := 137438953471) 36 Y rfl rfl rfl (p_move Y) ?_
            refine lin_wg (D' := 274877906943) 37 Y rfl rfl rfl (p_nilChk Y rfl) ?_
            refine lin_wg (D' := 549755813887) 38 Y rfl rfl rfl (p_fieldAddr0 (off := 2) underlying74 rfl rfl sizeOf57 Y) ?_
            refine lin_rg (D' := 1099511627775) 39 Y rfl rfl rfl (by repeat (first | exact Has.here _ | apply Has.there)) (p_load isAgg57 Y (by rfl)) ?_
            refine lin_wg (D' := 3298534883327) 41 Y rfl rfl rfl (p_move Y) ?_
            refine lin_wg (D' := 7696581394431) 42 Y rfl rfl rfl (p_nilChk Y rfl) ?_
            refine lin_wg (D' := 16492674416639) 43 Y rfl rfl rfl (p_fieldAddr0 (off := 5) underlying74 rfl rfl sizeOf60 Y) ?_
            refine lin_rg (D' := 34084860461055) 44 Y rfl rfl rfl (by repeat (first | exact Has.here _ | apply Has.there)) (p_load isAgg60 Y (by rfl)) ?_
            refine Zz (l := [40]) ?_
            refine Zy 1099511627775 35184372088831 [44, 39, 32, 29] [true, false, false, false] [(44, (_, _))] rfl Y rfl rfl rfl rfl (Zu [_] Y call28 Y rfl (core_room co2 sp a b n1 n2 _ dA dB ss2 sr2 sja2 sjb2 sda2 sdb2 hOk hC hB2.ra hB2.rb)) ?hk_6 (fun _ _ h => h.elim) ?hl_6
            case hk_6 =>
             rintro _ _ ⟨rfl, rfl⟩
             refine ⟨Zk (keep_nil), ?_⟩
             refine Zz (l := [45]) ?_
             refine Zy 35184372088831 70368744177663 [44] [false] [] rfl Y rfl rfl rfl rfl (Zu [_] Y call29 Y rfl (kt_room co2 tp c d n1 n2 _ dA dB _ su2 ska2 skb2 sdc2 sdd2 hOk z2 z4 hK hB2.rc hB2.rd)) ?hk_7 (fun _ _ h => h.elim) ?hl_7
             case hk_7 =>
              rintro _ _ ⟨rfl, rfl⟩
              refine ⟨keep_nil, ?_⟩
              first | refine lin_wg (D' := 140737488355327) 46 Y rfl rfl rfl (p_neq_nat Y Y) ?_ | refine lin_wg (D' := 140737488355327) 46 Y rfl rfl rfl (p_neq Y Y) ?_
              refine lin_wg (D' := 281474976710655) 47 Y rfl rfl rfl (p_pick_f Y Y) ?_
              refine Zi 562949953421311 48 rfl (p_pick_t Y Y) <| lin_nil ?_
              refine Zn [2, 7, 16, 17, 117] ?_
              refine Zx ?_
              first | refine at_if Y (fun hw4 => ?_) (fun hw4 => ?_) | refine at_if_bool Y (fun hw4 => ?_) (fun hw4 => ?_)
              ·
               exfalso; first | exact hw4 rfl | (cases hw4; done) | contradiction | omega | (simp at hw4; done) | (simp at hw4; omega) | (simp_all; done) | (simp_all; omega)
              ·
               refine at_skip <| nx_block_normal <| Zx <| Zg <| Zm Y ?_
               first | (refine op_v (p_add_nat (n := 1) Y Y ?_) ?_; (focus (omega))) | (refine op_v (p_add Y Y (IntWalk.i64_in _ ?_)) ?_; (focus (omega)))
               refine Za Y <| Z0 <| Zn [17, 2, 7, 16] ?_
               refine nx_againB (e' := [(17, _)]) (m := _) (H' := _) (by first | exact ⟨i + 1, none, dA, dB, _, _, ss2, sr2, sja2, sjb2, st2, su2, ska2, skb2, sda2, sdb2, sdc2, sdd2, rfl, ⟨by omega, hB2⟩, rfl, rfl⟩ | exact ⟨i + 1, some co2, dA, dB, _, _, ss2, sr2, sja2, sjb2, _, su2, ska2, skb2, sda2, sdb2, sdc2, sdd2, rfl, ⟨by omega, hB2⟩, rfl, rfl⟩)
             case hl_7 =>
              exact each_nil
            case hl_6 =>
             exact each_nil
          case hl_5 =>
           exact each_nil
        case hl_4 =>
         exact each_nil
       case hl_3 =>
        exact each_nil
      ·
       first | rw [decide_eq_false hw1] | rw [hw1] | skip
       exfalso; first | exact hw1 rfl | (cases hw1; done) | contradiction | omega | (simp at hw1; done) | (simp at hw1; omega) | (simp_all; done) | (simp_all; omega)
   ·
    refine at_exit <| Zt <| Zt <| nx_block_exit <| Zx <| Zq <| Zg <| Zm Y <| Za Y <| Z0 <| Zx <| at_ret ?_
    refine nx_end1 rfl results5 Y (by exact ⟨rfl, rfl⟩)
  ·
   refine op_skip Y rfl <| op_skip Y rfl <| Zv (p_pick_f Y Y) <| Z0 <| Zx <| at_else Y <| at_exit <| Zt <| Zt <| nx_block_exit <| Zx <| Zq <| Zg <| Zm Y <| Za Y <| Z0 <| Zx <| at_ret ?_
   refine nx_end1 rfl results5 Y (by exact ⟨rfl, rfl⟩)

end Go.Proofs.YthbadolcncojbaaGreatDoor
