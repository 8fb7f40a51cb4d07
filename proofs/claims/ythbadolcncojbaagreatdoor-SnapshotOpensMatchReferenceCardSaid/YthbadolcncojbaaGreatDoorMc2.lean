/- SnapshotOpensMatchReference: the law. -/
import Derived.Test.YthbadolcncojbaaGreatDoorEz
import Derived.Test.YthbadolcncojbaaGreatDoorMc1
import Derived.Test.YthbadolcncojbaaGreatDoorSn3
import Derived.Test.YthbadolcncojbaaGreatDoorTl2
import Derived.Test.YthbadolcncojbaaGreatDoorGs4

namespace Go.Proofs.YthbadolcncojbaaGreatDoor
open Go.Proofs.Tryz
open Go Go.RowKit Gw
set_option linter.unusedVariables false
set_option maxRecDepth 100000
attribute [local irreducible] Gw.At Gw.Nx Gw.Ops
theorem wok_wr (n : Nat) (s : List UInt8) (h1 : 1 ≤ n) (hs : s.length ≤ n) : Wok n 1 ((DiskS.new n).write 0 s).2 none := by
  have hv : (DiskS.new n).vi.length = n := List.length_replicate
  have h2 := write_len (DiskS.new n) 0 s (by rw [hv]; omega)
  have h3 := write_pend (DiskS.new n) 0 s
  have h4 : PendIn (DiskS.new n) n := by intro p hp; cases hp
  exact ⟨by rw [h2, hv], by have : (DiskS.new n).pend.length = 0 := rfl; omega, write_in h4 0 s (by omega) (by omega), fun j hj => by cases hj⟩

theorem sopens_law (p : Option Addr) (cap : Nat) (l1 : List (List UInt8)) (M : List Chunk) (hl1 : StrsIn M (.slice p l1.length cap) l1) (p2 : Option Addr) (cap2 : Nat) (l2 : List (List UInt8)) (hl2 : StrsIn M (.slice p2 l2.length cap2) l2) (m : Int) (m1 : -9223372036854775808 ≤ m) (m2 : m ≤ 9223372036854775807) (n : Int) (h1 : -9223372036854775808 ≤ n) (h2 : n ≤ 9223372036854775807) (dm : Bool) (pa : Addr) (Tx Tg : TypeId) (zx zg : Nat × Nat) :
    DoesR Tryz.prog 4 #[.slice p l1.length cap, .slice p2 l2.length cap2, .int .i64 m, .int .i64 n, .bool dm] [[(4, .cells (kTab.map u32v).toArray Tg zg)], [(0, .cells #[.iface 299 (.pointer (some pa))] Tx zx)], M] (.bool true) := by
 have hml : maxLen = 9223372036854775807 := rfl
 have ey : (⟨#[121]⟩ : ByteArray) = str [121] := rfl
 have hdv : (DiskS.new 2000).vi.length = 2000 := List.length_replicate
 have hdp : (DiskS.new 2000).pend.length = 0 := rfl
 refine spec_enter func4 rfl ntmps4 rfl ?_
 intro u R
 refine Zb [0, 1, 2, 3, 4] ?_
 refine Zq <| Zg <| Za Y <| Z0 <| Zx <| Zq <| Zg <| Zr [] Y call18 Y rfl (sane24 pa Tx Tg zx zg) ?_
 rintro _ _ ⟨rfl, rfl⟩
 refine Za Y <| Z0 <| Zx <| Zq <| Zg <| Zc [_] Y call9 Y rfl (new_state 2000 (by decide) (by decide)) ?_
 rintro _ _ ⟨_, ⟨a, sda, rfl, rfl, hRa⟩, rfl⟩
 obtain ⟨csa, hca⟩ := disk_cell hRa
 refine Zm Y <| Zd Y rfl <| Zd Y rfl <| Za Y <| Za Y <| Z0 <| Zx <| Zq <| Zg <| Zc [_] Y call9 Y rfl (new_state 2000 (by decide) (by decide)) ?_
 rintro _ _ ⟨_, ⟨b, sdb, rfl, rfl, hRb⟩, rfl⟩
 obtain ⟨csb, hcb⟩ := disk_cell hRb
 refine Zm Y <| Zd Y rfl <| Zd Y rfl <| Za Y <| Za Y <| Z0 <| Zn [0, 1, 2, 3, 4, 11, 12, 14] ?_
 refine Zx <| Zq <| Zg <| Zc [_] Y call19 Y rfl (rd_new 2000 (by decide) (by decide)) ?_
 rintro _ _ ⟨_, ⟨c, sdc, rfl, hRc, rfl⟩, rfl⟩
 obtain ⟨csc, hcc⟩ := rd_cell hRc
 refine Zm Y <| Zd Y rfl <| Zd Y rfl <| Za Y <| Za Y <| Z0 <| Zx <| Zq <| Zg <| Zc [_] Y call19 Y rfl (rd_new 2000 (by decide) (by decide)) ?_
 rintro _ _ ⟨_, ⟨d, sdd, rfl, hRd, rfl⟩, rfl⟩
 obtain ⟨csd, hcd0⟩ := rd_cell hRd
 refine Zm Y <| Zd Y rfl <| Zd Y rfl <| Za Y <| Za Y <| Z0 <| Zx <| Zq ?_
 refine at_ne (s1 := sda) (s2 := sdb) (by repeat (first | exact One.here _ _ | apply One.there)) (by repeat (first | exact One.here _ _ | apply One.there)) hca hcb (fun hab => ?_)
 refine at_ne (s1 := sdc) (s2 := sdd) (by repeat (first | exact One.here _ _ | apply One.there)) (by repeat (first | exact One.here _ _ | apply One.there)) hcc hcd0 (fun hcd => ?_)
 refine Zg <| Zm Y <| Zm Y <| Zc [_, _] Y call20 Y rfl (journaled_spec hl1 m m1 m2) ?_
 rintro _ _ ⟨_, ⟨x, rfl, hx, rfl⟩, rfl⟩
 have hxs := str_size x
 refine Za Y <| Z0 <| Zn [1, 3, 4, 11, 12, 14, 16, 18, 20] ?_
 refine Zx <| Zq <| Zg <| Zm Y <| Zm Y <| Zc [_, _] Y call20 Y rfl (journaled_spec hl2 n h1 h2) ?_
 rintro _ _ ⟨_, ⟨y, rfl, hy, rfl⟩, rfl⟩
 refine Za Y <| Z0 <| Zx <| Zb [4, 20, 11, 12, 14, 16, 18, 21] ?_
 refine at_cutB (e0 := [(4, _), (20, _)]) (H0 := []) (fun e H => ∃ (x2 : List UInt8), (x2.length ≤ 2000) ∧ e = [(20, .string (str x2))] ∧ H = []) (by repeat (first | exact Pull.nil _ | (apply Pull.cons; (focus (repeat (first | exact One.here _ _ | apply One.there)))))) ?hx_1 ?hy_1
 case hx_1 =>
  refine Zq <| Zg <| Zm Y <| Zm Y ?_
  refine ops_split_bool (t := 50) Y rfl (fun hdm => ?_) (fun hdm => ?_)
  ·
   refine Zf Y Y <| op_wg Y (p_len_str underlying9 Y) rfl rfl ?_
   first | refine op_wg Y (p_gtr_nat (n := 4) Y Y) rfl rfl ?_ | refine op_wg Y (p_gtr Y Y) rfl rfl ?_
   refine Zv (p_pick_t Y Y) <| Z0 <| Zx ?_
   first | refine at_if Y (fun hlen => ?_) (fun hlen => ?_) | refine at_if_bool Y (fun hlen => ?_) (fun hlen => ?_)
   ·
    refine Zg <| Zm Y <| Zm Y <| Zv (p_len_str underlying9 Y) ?_
    first | (refine op_v (p_sub_nat (n := 1) Y Y ?_ ?_) ?_; (focus (omega)); (focus (omega))) | (refine op_v (p_sub Y Y (IntWalk.i64_in _ ?_)) ?_; (focus (omega)))
    refine op_w (p_slice_take underlying9 Y Y (by omega)) rfl rfl ?_
    refine op_w (p_add_str Y Y (by rw [str_size, List.length_take]; show _ + 1 ≤ _; omega)) rfl rfl ?_
    rw [ey, str_app]
    refine Za Y <| Z0 <| Zn [20, 11, 12, 14, 16, 18, 21] ?_
    refine nx_cutB (e' := [(20, _)]) (H' := _) (by first | exact ⟨x.take ((str x).size - 1) ++ [121], by rw [List.length_append, List.length_take]; simp; omega, rfl, rfl⟩ | exact ⟨x, hx, rfl, rfl⟩)
   ·
    refine at_skip <| Zn [20, 11, 12, 14, 16, 18, 21] ?_
    refine nx_cutB (e' := [(20, _)]) (H' := _) (by first | exact ⟨x.take ((str x).size - 1) ++ [121], by rw [List.length_append, List.length_take]; simp; omega, rfl, rfl⟩ | exact ⟨x, hx, rfl, rfl⟩)
  ·
   refine op_skip Y rfl <| op_skip Y rfl <| op_skip Y rfl <| Zv (p_pick_f Y Y) <| Z0 <| Zx <| at_else Y <| at_skip <| Zn [20, 11, 12, 14, 16, 18, 21] ?_
   refine nx_cutB (e' := [(20, _)]) (H' := _) (by first | exact ⟨x.take ((str x).size - 1) ++ [121], by rw [List.length_append, List.length_take]; simp; omega, rfl, rfl⟩ | exact ⟨x, hx, rfl, rfl⟩)
 case hy_1 =>
  rintro _ _ ⟨x2, hx2, rfl, rfl⟩
  have hwa := wok_wr 2000 x2 (by decide) hx2
  have hwb := wok_wr 2000 y (by decide) hy
  obtain ⟨d1, hd1⟩ : ∃ q, q = ((DiskS.new 2000).write 0 x2).2 := ⟨_, rfl⟩
  obtain ⟨d2, hd2⟩ : ∃ q, q = ((DiskS.new 2000).write 0 y).2 := ⟨_, rfl⟩
  rw [← hd1] at hwa
  rw [← hd2] at hwb
  refine Zq <| Zg <| Zm Y <| Zm Y <| Zc [_, _, _] Y call21 Y rfl (disk_write (DiskS.new 2000) a sda hRa 0 x2 (by rw [hdv]; omega) (by rw [hdv]; omega) (by rw [hdp]; omega)) ?_
  rintro _ _ ⟨_, ⟨sa1, rfl, rfl, hsa1⟩, rfl⟩
  rw [← hd1] at hsa1
  refine Z0 <| Zx <| Zq <| Zg <| Zm Y <| Zm Y <| Zc [_, _, _] Y call22 Y rfl (rd_write (DiskS.new 2000) c sdc hRc 0 x2 (by rw [hdv]; omega) (by rw [hdp]; omega)) ?_
  rintro _ _ ⟨_, ⟨sc1, rfl, rfl, hsc1⟩, rfl⟩
  rw [← hd1] at hsc1
  refine Z0 <| Zx <| Zq <| Zg <| Zm Y <| Zm Y <| Zc [_, _, _] Y call21 Y rfl (disk_write (DiskS.new 2000) b sdb hRb 0 y (by rw [hdv]; omega) (by rw [hdv]; omega) (by rw [hdp]; omega)) ?_
  rintro _ _ ⟨_, ⟨sb1, rfl, rfl, hsb1⟩, rfl⟩
  rw [← hd2] at hsb1
  refine Z0 <| Zx <| Zq <| Zg <| Zm Y <| Zm Y <| Zc [_, _, _] Y call22 Y rfl (rd_write (DiskS.new 2000) d sdd hRd 0 y (by rw [hdv]; omega) (by rw [hdp]; omega)) ?_
  rintro _ _ ⟨_, ⟨sd1, rfl, rfl, hsd1⟩, rfl⟩
  rw [← hd2] at hsd1
  refine Z0 <| Zx <| Zq <| Zg <| Zm Y <| Zm Y <| Zc [_, _] Y call23 Y rfl (sopen_any a b 2000 2000 1 d1 d2 none none sa1 sb1 pa Tx Tg zx zg hab hsa1 hsb1 hwa hwb (by decide) (by decide) (by decide) (by decide)) ?_
  rintro _ _ ⟨_, ⟨v2, ss2, sr2, sja2, sjb2, sda2, sdb2, rfl, hC2, hRa2, hRb2, rfl⟩, rfl⟩
  have hTw := open_ok hwa hwb (by decide) (by decide)
  rcases openS_code d1 d2 with ⟨co, hs, he⟩ | ⟨hs, he⟩
  ·
   rw [hs] at hC2
   obtain ⟨sp, rfl, hC⟩ := hC2
   have hOk := hTw.co co hs
   have hits := hOk.big (by decide) (by decide)
   refine Zm Y <| Zd Y rfl <| Zd Y rfl <| Za Y <| Za Y <| Z0 <| Zn [11, 16, 18, 22, 23] ?_
   refine Zx <| Zq <| Zg <| Zm Y <| Zm Y <| Zc [_, _] Y call24 Y rfl (rsopen_any c d 2000 2000 1 d1 d2 none none sc1 sd1 hcd hsc1 hsd1 hwa hwb (by decide) (by decide) (by decide) (by decide)) ?_
   rintro _ _ ⟨_, ⟨w2, st2, su2, ska2, skb2, sdc2, sdd2, rfl, hK2, hRc2, hRd2, rfl⟩, rfl⟩
   rw [hs] at hK2
   obtain ⟨tp, rfl, hK⟩ := hK2
   obtain ⟨ap9, bp9, v9, cs9, hKa9, hKb9, hrow9, hcs9, hst9⟩ := id hK
   obtain ⟨g9, c9, hv9⟩ := hrow9.form
   subst hcs9 hst9 hv9
   refine Zm Y <| Zd Y rfl <| Zd Y rfl <| Za Y <| Za Y <| Z0 <| Zx <| Zq <| Zq <| Zg <| Zm Y <| Zm Y ?_
   first | refine op_v (p_neq_nat Y Y) ?_ | refine op_v (p_neq Y Y) ?_
   refine Zm Y ?_
   first | refine ops_split (t := 88) Y rfl (fun hg1 => ?_) (fun hg1 => ?_) | refine ops_split_bool (t := 88) Y rfl (fun hg1 => ?_) (fun hg1 => ?_)
   ·
    exfalso; first | exact hg1 rfl | (cases hg1; done) | contradiction | omega | (simp at hg1; done) | (simp at hg1; omega) | (simp_all; done) | (simp_all; omega)
   ·
    refine Zf Y Y ?_
    first | refine op_wg Y (p_eql_nil_nil underlying57 Y Y) rfl rfl ?_ | refine op_wg Y (p_eql_ptr_nil underlying57 Y Y) rfl rfl ?_
    refine Zf Y Y ?_
    first | refine op_wg Y (p_neq_nat (n := 0) Y Y) rfl rfl ?_ | refine op_wg Y (p_neq Y Y) rfl rfl ?_
    refine op_wg Y (p_neq_bool underlying4 Y Y) rfl rfl ?_
    refine Zv (p_pick_f Y Y) <| Z0 <| Zn [11, 22, 24, 94] ?_
    refine Zx ?_
    first | refine at_if Y (fun hg2 => ?_) (fun hg2 => ?_) | refine at_if_bool Y (fun hg2 => ?_) (fun hg2 => ?_)
    ·
     exfalso; first | exact hg2 rfl | (cases hg2; done) | contradiction | omega | (simp at hg2; done) | (simp at hg2; omega) | (simp_all; done) | (simp_all; omega)
    ·
     refine at_skip <| Zx <| Zq <| at_draw (n := 31) (0 :: 1 :: 3 :: 7 :: 15 :: 31 :: 63 :: 31 :: 159 :: 415 :: 927 :: 2047 :: 4095 :: 8191 :: 16383 :: 8191 :: 40959 :: 106495 :: 237567 :: 524287 :: 1048575 :: 2097151 :: 4194303 :: 8388607 :: 4194303 :: 33554431 :: 67108863 :: 134217727 :: 268435455 :: 536870911 :: 1073741823 :: []) 41961536 (by kernel_rfl) (by kernel_rfl) rfl ?_
     refine Zi 1 0 rfl (p_move Y) <| Zi 3 1 rfl (p_move Y) ?_
     refine lin_split_bool (t := 96) Y (fun hw1 => ?_) (fun hw1 => ?_)
     ·
      first | rw [decide_eq_true hw1] | rw [hw1] | skip
      refine lin_wg (D' := 7) 2 Y rfl rfl rfl (p_move Y) ?_
      first | refine lin_wg (D' := 15) 3 Y rfl rfl rfl (p_eql_nil_nil underlying57 Y Y) ?_ | refine lin_wg (D' := 15) 3 Y rfl rfl rfl (p_eql_ptr_nil underlying57 Y Y) ?_
      refine lin_wg (D' := 31) 4 Y rfl rfl rfl (p_move Y) ?_
      refine lin_split_bool (t := 99) Y (fun hw2 => ?_) (fun hw2 => ?_)
      ·
       first | rw [decide_eq_true hw2] | rw [hw2] | skip
       exfalso; first | exact hw2 rfl | (cases hw2; done) | contradiction | omega | (simp at hw2; done) | (simp at hw2; omega) | (simp_all; done) | (simp_all; omega)
      ·
       first | rw [decide_eq_false hw2] | rw [hw2] | skip
       refine lin_wg (D' := 63) 5 Y rfl rfl rfl (p_move Y) ?_
       refine lin_wg (D' := 191) 7 Y rfl rfl rfl (p_move Y) ?_
       refine lin_wg (D' := 447) 8 Y rfl rfl rfl (p_nilChk Y rfl) ?_
       refine lin_wg (D' := 959) 9 Y rfl rfl rfl (p_fieldAddr0 (off := 4) underlying68 rfl rfl sizeOf43 Y) ?_
       refine lin_rg (D' := 1983) 10 Y rfl rfl rfl (by repeat (first | exact Has.here _ | apply Has.there)) (p_load isAgg43 Y (by rfl)) ?_
       refine Zz (l := [6]) ?_
       refine Zy 63 2047 [10] [true] [(10, (_, _))] rfl Y rfl rfl rfl rfl (Zw [_] Y call26 Y rfl (core_items co sp a b ss2 sr2 sja2 sjb2 hits hC)) ?hk_5 no_pan ?hl_5
       case hk_5 =>
        rintro _ _ ⟨_, ⟨sv9, hv9i, rfl⟩, rfl⟩
        refine ⟨Zk (keep_nil), ?_⟩
        refine Zz (l := [11]) ?_
        refine Zy 2047 4095 [10] [false] [] rfl Y rfl rfl rfl rfl (Zu [_, _] Y call25 Y rfl (same_rows hv9i hrow9 hits)) ?hk_6 (fun _ _ h => h.elim) ?hl_6
        case hk_6 =>
         rintro _ _ ⟨rfl, rfl⟩
         refine ⟨keep_nil, ?_⟩
         refine lin_wg (D' := 8191) 12 Y rfl rfl rfl (p_move Y) ?_
         refine lin_split_bool (t := 107) Y (fun hw3 => ?_) (fun hw3 => ?_)
         ·
          first | rw [decide_eq_true hw3] | rw [hw3] | skip
          refine lin_wg (D' := 16383) 13 Y rfl rfl rfl (p_move Y) ?_
          refine lin_wg (D' := 49151) 15 Y rfl rfl rfl (p_move Y) ?_
          refine lin_wg (D' := 114687) 16 Y rfl rfl rfl (p_nilChk Y rfl) ?_
          refine lin_wg (D' := 245759) 17 Y rfl rfl rfl (p_fieldAddr0 (off := 3) underlying68 rfl rfl sizeOf3 Y) ?_
          refine lin_rg (D' := 507903) 18 Y rfl rfl rfl (by repeat (first | exact Has.here _ | apply Has.there)) (p_load isAgg3 Y (by rfl)) ?_
          refine Zz (l := [14]) ?_
          refine Zy 16383 524287 [18] [true] [(18, (_, _))] rfl Y rfl rfl rfl rfl (Zu [_] Y call27 Y rfl (core_gen co sp a b ss2 sr2 sja2 sjb2 hC)) ?hk_7 (fun _ _ h => h.elim) ?hl_7
          case hk_7 =>
           rintro _ _ ⟨rfl, rfl⟩
           refine ⟨Zk (keep_nil), ?_⟩
           first | refine lin_wg (D' := 1048575) 19 Y rfl rfl rfl (p_eql_nat Y Y) ?_ | refine lin_wg (D' := 1048575) 19 Y rfl rfl rfl (p_eql Y Y) ?_
           refine lin_wg (D' := 2097151) 20 Y rfl rfl rfl (p_pick_t Y Y) ?_
           refine lin_wg (D' := 4194303) 21 Y rfl rfl rfl (p_move Y) ?_
           refine lin_split_bool (t := 116) Y (fun hw4 => ?_) (fun hw4 => ?_)
           ·
            first | rw [decide_eq_true hw4] | rw [hw4] | skip
            refine lin_wg (D' := 8388607) 22 Y rfl rfl rfl (p_move Y) ?_
            refine lin_wg (D' := 25165823) 24 Y rfl rfl rfl (p_move Y) ?_
            refine Zz (l := [23]) ?_
            refine Zy 8388607 33554431 [18] [false] [] rfl Y rfl rfl rfl rfl (Zu [_] Y call28 Y rfl (core_room co sp a b 2000 2000 _ _ _ ss2 sr2 sja2 sjb2 sda2 sdb2 hOk hC hRa2 hRb2)) ?hk_8 (fun _ _ h => h.elim) ?hl_8
            case hk_8 =>
             rintro _ _ ⟨rfl, rfl⟩
             refine ⟨keep_nil, ?_⟩
             refine Zz (l := [25]) ?_
             refine Zy 33554431 67108863 [] [] [] rfl Y rfl rfl rfl rfl (Zu [_] Y call29 Y rfl (kt_room co tp c d 2000 2000 _ _ _ _ su2 ska2 skb2 sdc2 sdd2 hOk (by decide) (by decide) hK hRc2 hRd2)) ?hk_9 (fun _ _ h => h.elim) ?hl_9
             case hk_9 =>
              rintro _ _ ⟨rfl, rfl⟩
              refine ⟨keep_nil, ?_⟩
              first | refine lin_wg (D' := 134217727) 26 Y rfl rfl rfl (p_eql_nat Y Y) ?_ | refine lin_wg (D' := 134217727) 26 Y rfl rfl rfl (p_eql Y Y) ?_
              refine lin_wg (D' := 268435455) 27 Y rfl rfl rfl (p_pick_t Y Y) ?_
              refine lin_wg (D' := 536870911) 28 Y rfl rfl rfl (p_pick_f Y Y) ?_
              refine Zi 1073741823 29 rfl (p_pick_t Y Y) <| Zi 2147483647 30 rfl (p_assign Y) <| lin_nil ?_
              refine Zn [10] ?_
              refine Zx <| at_ret ?_
              refine nx_end1 rfl results4 Y (by exact ⟨by first | rfl | simp, rfl⟩)
             case hl_9 =>
              exact each_nil
            case hl_8 =>
             exact each_nil
           ·
            first | rw [decide_eq_false hw4] | rw [hw4] | skip
            exfalso; first | exact hw4 rfl | (cases hw4; done) | contradiction | omega | (simp at hw4; done) | (simp at hw4; omega) | (simp_all; done) | (simp_all; omega)
          case hl_7 =>
           exact each_nil
         ·
          first | rw [decide_eq_false hw3] | rw [hw3] | skip
          exfalso; first | exact hw3 rfl | (cases hw3; done) | contradiction | omega | (simp at hw3; done) | (simp at hw3; omega) | (simp_all; done) | (simp_all; omega)
        case hl_6 =>
         exact each_nil
       case hl_5 =>
        exact each_nil
     ·
      first | rw [decide_eq_false hw1] | rw [hw1] | skip
      exfalso; first | exact hw1 rfl | (cases hw1; done) | contradiction | omega | (simp at hw1; done) | (simp at hw1; omega) | (simp_all; done) | (simp_all; omega)
  ·
   rw [hs] at hC2
   obtain ⟨rfl, rfl, rfl, rfl, rfl⟩ := hC2
   refine Zm Y <| Zd Y rfl <| Zd Y rfl <| Za Y <| Za Y <| Z0 <| Zn [11, 16, 18, 22, 23] ?_
   refine Zx <| Zq <| Zg <| Zm Y <| Zm Y <| Zc [_, _] Y call24 Y rfl (rsopen_any c d 2000 2000 1 d1 d2 none none sc1 sd1 hcd hsc1 hsd1 hwa hwb (by decide) (by decide) (by decide) (by decide)) ?_
   rintro _ _ ⟨_, ⟨w2, st2, su2, ska2, skb2, sdc2, sdd2, rfl, hK2, hRc2, hRd2, rfl⟩, rfl⟩
   rw [hs] at hK2
   obtain ⟨rfl, rfl, rfl, rfl, rfl⟩ := hK2
   refine Zm Y <| Zd Y rfl <| Zd Y rfl <| Za Y <| Za Y <| Z0 <| Zx <| Zq <| Zq <| Zg <| Zm Y <| Zm Y ?_
   first | refine op_v (p_neq_nat Y Y) ?_ | refine op_v (p_neq Y Y) ?_
   refine Zm Y ?_
   first | refine ops_split (t := 88) Y rfl (fun hg1 => ?_) (fun hg1 => ?_) | refine ops_split_bool (t := 88) Y rfl (fun hg1 => ?_) (fun hg1 => ?_)
   ·
    exfalso; first | exact hg1 rfl | (cases hg1; done) | contradiction | omega | (simp at hg1; done) | (simp at hg1; omega) | (simp_all; done) | (simp_all; omega)
   ·
    refine Zf Y Y ?_
    first | refine op_wg Y (p_eql_nil_nil underlying57 Y Y) rfl rfl ?_ | refine op_wg Y (p_eql_ptr_nil underlying57 Y Y) rfl rfl ?_
    refine Zf Y Y ?_
    first | refine op_wg Y (p_neq_nat (n := 0) Y Y) rfl rfl ?_ | refine op_wg Y (p_neq Y Y) rfl rfl ?_
    refine op_wg Y (p_neq_bool underlying4 Y Y) rfl rfl ?_
    refine Zv (p_pick_f Y Y) <| Z0 <| Zn [11, 22, 24, 94] ?_
    refine Zx ?_
    first | refine at_if Y (fun hg2 => ?_) (fun hg2 => ?_) | refine at_if_bool Y (fun hg2 => ?_) (fun hg2 => ?_)
    ·
     exfalso; first | exact hg2 rfl | (cases hg2; done) | contradiction | omega | (simp at hg2; done) | (simp at hg2; omega) | (simp_all; done) | (simp_all; omega)
    ·
     refine at_skip <| Zx <| Zq <| at_draw (n := 31) (0 :: 1 :: 3 :: 7 :: 15 :: 31 :: 63 :: 31 :: 159 :: 415 :: 927 :: 2047 :: 4095 :: 8191 :: 16383 :: 8191 :: 40959 :: 106495 :: 237567 :: 524287 :: 1048575 :: 2097151 :: 4194303 :: 8388607 :: 4194303 :: 33554431 :: 67108863 :: 134217727 :: 268435455 :: 536870911 :: 1073741823 :: []) 41961536 (by kernel_rfl) (by kernel_rfl) rfl ?_
     refine Zi 1 0 rfl (p_move Y) <| Zi 3 1 rfl (p_move Y) ?_
     refine lin_split_bool (t := 96) Y (fun hw1 => ?_) (fun hw1 => ?_)
     ·
      first | rw [decide_eq_true hw1] | rw [hw1] | skip
      refine lin_wg (D' := 7) 2 Y rfl rfl rfl (p_move Y) ?_
      first | refine lin_wg (D' := 15) 3 Y rfl rfl rfl (p_eql_nil_nil underlying57 Y Y) ?_ | refine lin_wg (D' := 15) 3 Y rfl rfl rfl (p_eql_ptr_nil underlying57 Y Y) ?_
      refine lin_wg (D' := 31) 4 Y rfl rfl rfl (p_move Y) ?_
      refine lin_split_bool (t := 99) Y (fun hw2 => ?_) (fun hw2 => ?_)
      ·
       first | rw [decide_eq_true hw2] | rw [hw2] | skip
       refine lin_skip (D' := 63) 5 rfl Y rfl rfl ?_
       refine lin_skip (D' := 127) 6 rfl Y rfl rfl ?_
       refine lin_skip (D' := 255) 7 rfl Y rfl rfl ?_
       refine lin_skip (D' := 511) 8 rfl Y rfl rfl ?_
       refine lin_skip (D' := 1023) 9 rfl Y rfl rfl ?_
       refine lin_skip (D' := 2047) 10 rfl Y rfl rfl ?_
       refine lin_skip (D' := 4095) 11 rfl Y rfl rfl ?_
       refine lin_skip (D' := 8191) 12 rfl Y rfl rfl ?_
       refine lin_skip (D' := 16383) 13 rfl Y rfl rfl ?_
       refine lin_skip (D' := 32767) 14 rfl Y rfl rfl ?_
       refine lin_skip (D' := 65535) 15 rfl Y rfl rfl ?_
       refine lin_skip (D' := 131071) 16 rfl Y rfl rfl ?_
       refine lin_skip (D' := 262143) 17 rfl Y rfl rfl ?_
       refine lin_skip (D' := 524287) 18 rfl Y rfl rfl ?_
       refine lin_skip (D' := 1048575) 19 rfl Y rfl rfl ?_
       refine lin_skip (D' := 2097151) 20 rfl Y rfl rfl ?_
       refine lin_skip (D' := 4194303) 21 rfl Y rfl rfl ?_
       refine lin_skip (D' := 8388607) 22 rfl Y rfl rfl ?_
       refine lin_skip (D' := 16777215) 23 rfl Y rfl rfl ?_
       refine lin_skip (D' := 33554431) 24 rfl Y rfl rfl ?_
       refine lin_skip (D' := 67108863) 25 rfl Y rfl rfl ?_
       refine lin_skip (D' := 134217727) 26 rfl Y rfl rfl ?_
       refine lin_skip (D' := 268435455) 27 rfl Y rfl rfl ?_
       refine lin_wg (D' := 536870911) 28 Y rfl rfl rfl (p_pick_t Y Y) ?_
       refine Zi 1073741823 29 rfl (p_pick_t Y Y) <| Zi 2147483647 30 rfl (p_assign Y) <| lin_nil ?_
       refine Zn [10] ?_
       refine Zx <| at_ret ?_
       refine nx_end1 rfl results4 Y (by exact ⟨by first | rfl | simp, rfl⟩)
      ·
       first | rw [decide_eq_false hw2] | rw [hw2] | skip
       exfalso; first | exact hw2 rfl | (cases hw2; done) | contradiction | omega | (simp at hw2; done) | (simp at hw2; omega) | (simp_all; done) | (simp_all; omega)
     ·
      first | rw [decide_eq_false hw1] | rw [hw1] | skip
      exfalso; first | exact hw1 rfl | (cases hw1; done) | contradiction | omega | (simp at hw1; done) | (simp at hw1; omega) | (simp_all; done) | (simp_all; omega)

end Go.Proofs.YthbadolcncojbaaGreatDoor
