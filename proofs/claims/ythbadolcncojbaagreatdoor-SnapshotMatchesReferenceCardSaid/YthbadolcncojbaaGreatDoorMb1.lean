/- The world of chapter 24: open, a call. -/
import Derived.Test.YthbadolcncojbaaGreatDoorEz
import Derived.Test.YthbadolcncojbaaGreatDoorSt1
import Derived.Test.YthbadolcncojbaaGreatDoorMa2
import Derived.Test.YthbadolcncojbaaGreatDoorGs4

namespace Go.Proofs.YthbadolcncojbaaGreatDoor
open Go.Proofs.Tryz
open Go Go.RowKit Gw
set_option linter.unusedVariables false
set_option maxRecDepth 100000
attribute [local irreducible] Gw.At Gw.Nx Gw.Ops
theorem TwOk.more {n1 n2 k k' : Nat} {co : Option Core} {da db : DiskS} (h : TwOk n1 n2 k co da db) (hk : k ≤ k') : TwOk n1 n2 k' co da db := ⟨h.wa.more hk, h.wb.more hk, fun c hc => (h.co c hc).more hk⟩
theorem TwOk.cutA {n1 n2 k : Nat} {co : Option Core} {da db : DiskS} (h : TwOk n1 n2 k co da db) (m : Nat) : TwOk n1 n2 (k + 1) co (da.cut m).2 db :=
  ⟨h.wa.cut m, h.wb.more (by omega), fun c hc => ⟨(h.co c hc).wa.cut m, (h.co c hc).wb.more (by omega), (h.co c hc).g1, (h.co c hc).g2, (h.co c hc).ln⟩⟩
theorem TwOk.cutB {n1 n2 k : Nat} {co : Option Core} {da db : DiskS} (h : TwOk n1 n2 k co da db) (m : Nat) : TwOk n1 n2 (k + 1) co da (db.cut m).2 :=
  ⟨h.wa.more (by omega), h.wb.cut m, fun c hc => ⟨(h.co c hc).wa.more (by omega), (h.co c hc).wb.cut m, (h.co c hc).g1, (h.co c hc).g2, (h.co c hc).ln⟩⟩
/-- Both stores on their disks. -/
structure Bth (n1 n2 k a b c d : Nat) (co : Option Core) (da db : DiskS) (v w : Value) (ss sr sja sjb st su ska skb sda sdb sdc sdd : List Chunk) : Prop where
  tw : TwOk n1 n2 k co da db
  mo : CoO co a b v ss sr sja sjb
  ko : KtO co c d w st su ska skb
  ra : DiskR da a sda
  rb : DiskR db b sdb
  rc : RdR da c sdc
  rd : RdR db d sdd
theorem few_sm (ls : List (List UInt8)) : (fewL ls).any isBig = false := by
  rw [List.any_eq_false]
  intro r hr
  unfold fewL at hr
  obtain ⟨x, _, rfl⟩ := List.mem_map.1 hr
  unfold isBig
  simp only [List.length_take, decide_eq_true_eq]
  omega

theorem bopen_some (n1 n2 k xp a b c d : Nat) (da db : DiskS) (v w : Value) (sda sdb sdc sdd : List Chunk) (pa : Addr) (Tx Tg : TypeId) (zx zg : Nat × Nat) (hab : a ≠ b) (hcd : c ≠ d) (z1 : 1 ≤ n1) (z2 : n1 ≤ 4194304) (z3 : 1 ≤ n2) (z4 : n2 ≤ 4194304) (hk : k ≤ 900000) (hWa : Wok n1 k da none) (hWb : Wok n2 k db none) (hRa : DiskR da a sda) (hRb : DiskR db b sdb) (hRc : RdR da c sdc) (hRd : RdR db d sdd) (co : Core) (hs : (openS da db).2.1 = some co) (he : (openS da db).1 = 0) : Does Tryz.prog 31 #[.pointer (some ⟨xp, 0, none⟩)] [[(xp, .cells #[.pointer (some ⟨a, 0, none⟩), .pointer (some ⟨b, 0, none⟩), v, .pointer (some ⟨c, 0, none⟩), .pointer (some ⟨d, 0, none⟩), w] 74 (0, 0))], sda, sdb, sdc, sdd, [(4, .cells (kTab.map u32v).toArray Tg zg)], [(0, .cells #[.iface 299 (.pointer (some pa))] Tx zx)]] (fun r H' => ∃ v' w' ss' sr' sja' sjb' st' su' ska' skb' sda' sdb' sdc' sdd', r = .bool true ∧ Bth n1 n2 (k + 2) a b c d (openS da db).2.1 (openS da db).2.2.1 (openS da db).2.2.2 v' w' ss' sr' sja' sjb' st' su' ska' skb' sda' sdb' sdc' sdd' ∧ H' = [[(xp, .cells #[.pointer (some ⟨a, 0, none⟩), .pointer (some ⟨b, 0, none⟩), v', .pointer (some ⟨c, 0, none⟩), .pointer (some ⟨d, 0, none⟩), w'] 74 (0, 0))], ss', sr', sja', sjb', st', su', ska', skb', sda', sdb', sdc', sdd', [(4, .cells (kTab.map u32v).toArray Tg zg)], [(0, .cells #[.iface 299 (.pointer (some pa))] Tx zx)]]) := by
 have hTw := open_ok hWa hWb z1 z3
 refine spec_enter func31 rfl ntmps31 rfl ?_
 intro u R
 refine Zb [0] ?_
 refine Zq <| Zg <| Za Y <| Z0 <| Zx <| Zq <| at_draw (n := 14) (0 :: 1 :: 3 :: 7 :: 0 :: 16 :: 48 :: 112 :: 255 :: 511 :: 1023 :: 1023 :: 2047 :: 8191 :: []) 256 (by kernel_rfl) (by kernel_rfl) rfl ?_
 refine Zi 1 0 rfl (p_move Y) <| Zi 3 1 rfl (p_nilChk Y rfl) <| Zi 7 2 rfl (p_fieldAddr0 (off := 0) underlying74 rfl rfl sizeOf26 Y) <| Zj 15 3 rfl isAgg26 Y ?_
 refine Zi 31 4 rfl (p_move Y) <| Zi 63 5 rfl (p_nilChk Y rfl) <| Zi 127 6 rfl (p_fieldAddr0 (off := 1) underlying74 rfl rfl sizeOf26 Y) <| Zj 255 7 rfl isAgg26 Y ?_
 refine Zz (l := [8]) ?_
 refine Zy 255 511 [7, 3] [false, false] [] rfl Y rfl rfl rfl rfl (Zw [_, _] Y call23 Y rfl (sopen_any a b n1 n2 k da db none none sda sdb pa Tx Tg zx zg hab hRa hRb hWa hWb z1 z3 z2 hk)) ?hk_1 no_pan ?hl_1
 case hk_1 =>
  rintro _ _ ⟨_, ⟨v2, ss2, sr2, sja2, sjb2, sda2, sdb2, rfl, hC2, hRa2, hRb2, rfl⟩, rfl⟩
  refine ⟨keep_nil, ?_⟩
  rw [hs] at hC2
  obtain ⟨sp2, rfl, hC2⟩ := hC2
  refine Zi 1023 9 rfl (p_move Y) <| Zi 2047 10 rfl (p_extract Y rfl) <| Zi 4095 11 rfl (p_extract Y rfl) <| Zi 8191 12 rfl (p_assign Y) <| Zi 16383 13 rfl (p_assign Y) <| lin_nil ?_
  refine Zn [0, 3, 4] ?_
  refine Zx <| Zq <| at_draw (n := 14) (0 :: 1 :: 3 :: 7 :: 0 :: 16 :: 48 :: 112 :: 255 :: 511 :: 1023 :: 1023 :: 2047 :: 8191 :: []) 256 (by kernel_rfl) (by kernel_rfl) rfl ?_
  refine Zi 1 0 rfl (p_move Y) <| Zi 3 1 rfl (p_nilChk Y rfl) <| Zi 7 2 rfl (p_fieldAddr0 (off := 3) underlying74 rfl rfl sizeOf52 Y) <| Zj 15 3 rfl isAgg52 Y ?_
  refine Zi 31 4 rfl (p_move Y) <| Zi 63 5 rfl (p_nilChk Y rfl) <| Zi 127 6 rfl (p_fieldAddr0 (off := 4) underlying74 rfl rfl sizeOf52 Y) <| Zj 255 7 rfl isAgg52 Y ?_
  refine Zz (l := [8]) ?_
  refine Zy 255 511 [7, 3] [false, false] [] rfl Y rfl rfl rfl rfl (Zw [_, _] Y call24 Y rfl (rsopen_any c d n1 n2 k da db none none sdc sdd hcd hRc hRd hWa hWb z1 z3 z2 hk)) ?hk_2 no_pan ?hl_2
  case hk_2 =>
   rintro _ _ ⟨_, ⟨w2, st2, su2, ska2, skb2, sdc2, sdd2, rfl, hK2, hRc2, hRd2, rfl⟩, rfl⟩
   refine ⟨keep_nil, ?_⟩
   rw [hs] at hK2
   obtain ⟨tp2, rfl, hK2⟩ := hK2
   refine Zi 1023 9 rfl (p_move Y) <| Zi 2047 10 rfl (p_extract Y rfl) <| Zi 4095 11 rfl (p_extract Y rfl) <| Zi 8191 12 rfl (p_assign Y) <| Zi 16383 13 rfl (p_assign Y) <| lin_nil ?_
   refine Zn [0, 3, 4, 5, 6] ?_
   refine Zx <| Zq <| Zg <| Zm Y <| Zm Y <| Zp Y rfl <| Zh 2 underlying74 rfl rfl sizeOf57 Y <| Ze (Zs sizeOf57 Y Y rfl) ?_
   rintro _ _ ⟨rfl, rfl⟩
   refine Z0 <| Zx <| Zq <| Zg <| Zm Y <| Zm Y <| Zp Y rfl <| Zh 5 underlying74 rfl rfl sizeOf60 Y <| Ze (Zs sizeOf60 Y Y rfl) ?_
   rintro _ _ ⟨rfl, rfl⟩
   refine Z0 <| Zx <| Zq <| Zg <| Zm Y <| Zm Y ?_
   first | refine op_v (p_eql_nat Y Y) ?_ | refine op_v (p_eql Y Y) ?_
   refine Zm Y ?_
   first | refine ops_split (t := 42) Y rfl (fun hg1 => ?_) (fun hg1 => ?_) | refine ops_split_bool (t := 42) Y rfl (fun hg1 => ?_) (fun hg1 => ?_)
   ·
    refine Zf Y Y ?_
    first | refine op_wg Y (p_eql_nil_nil underlying57 Y Y) rfl rfl ?_ | refine op_wg Y (p_eql_ptr_nil underlying57 Y Y) rfl rfl ?_
    refine Zf Y Y ?_
    first | refine op_wg Y (p_neq_nat (n := 0) Y Y) rfl rfl ?_ | refine op_wg Y (p_neq Y Y) rfl rfl ?_
    refine op_wg Y (p_eql_bool underlying4 Y Y) rfl rfl ?_
    refine Zv (p_pick_t Y Y) <| Za Y <| Z0 <| Zn [2] ?_
    refine Zx <| at_ret ?_
    refine nx_end1 rfl results31 Y (by exact ⟨_, _, ss2, sr2, sja2, sjb2, st2, su2, ska2, skb2, sda2, sdb2, sdc2, sdd2, by simp [he], ⟨hTw, by rw [hs]; exact ⟨sp2, rfl, hC2⟩, by rw [hs]; exact ⟨tp2, rfl, hK2⟩, hRa2, hRb2, hRc2, hRd2⟩, rfl⟩)
   ·
    exfalso; first | exact hg1 rfl | (cases hg1; done) | contradiction | omega | (simp at hg1; done) | (simp at hg1; omega) | (simp_all; done) | (simp_all; omega)
  case hl_2 =>
   exact each_nil
 case hl_1 =>
  exact each_nil

theorem bopen_none (n1 n2 k xp a b c d : Nat) (da db : DiskS) (v w : Value) (sda sdb sdc sdd : List Chunk) (pa : Addr) (Tx Tg : TypeId) (zx zg : Nat × Nat) (hab : a ≠ b) (hcd : c ≠ d) (z1 : 1 ≤ n1) (z2 : n1 ≤ 4194304) (z3 : 1 ≤ n2) (z4 : n2 ≤ 4194304) (hk : k ≤ 900000) (hWa : Wok n1 k da none) (hWb : Wok n2 k db none) (hRa : DiskR da a sda) (hRb : DiskR db b sdb) (hRc : RdR da c sdc) (hRd : RdR db d sdd) (hs : (openS da db).2.1 = none) (he : (openS da db).1 ≠ 0) : Does Tryz.prog 31 #[.pointer (some ⟨xp, 0, none⟩)] [[(xp, .cells #[.pointer (some ⟨a, 0, none⟩), .pointer (some ⟨b, 0, none⟩), v, .pointer (some ⟨c, 0, none⟩), .pointer (some ⟨d, 0, none⟩), w] 74 (0, 0))], sda, sdb, sdc, sdd, [(4, .cells (kTab.map u32v).toArray Tg zg)], [(0, .cells #[.iface 299 (.pointer (some pa))] Tx zx)]] (fun r H' => ∃ v' w' ss' sr' sja' sjb' st' su' ska' skb' sda' sdb' sdc' sdd', r = .bool true ∧ Bth n1 n2 (k + 2) a b c d (openS da db).2.1 (openS da db).2.2.1 (openS da db).2.2.2 v' w' ss' sr' sja' sjb' st' su' ska' skb' sda' sdb' sdc' sdd' ∧ H' = [[(xp, .cells #[.pointer (some ⟨a, 0, none⟩), .pointer (some ⟨b, 0, none⟩), v', .pointer (some ⟨c, 0, none⟩), .pointer (some ⟨d, 0, none⟩), w'] 74 (0, 0))], ss', sr', sja', sjb', st', su', ska', skb', sda', sdb', sdc', sdd', [(4, .cells (kTab.map u32v).toArray Tg zg)], [(0, .cells #[.iface 299 (.pointer (some pa))] Tx zx)]]) := by
 have hTw := open_ok hWa hWb z1 z3
 refine spec_enter func31 rfl ntmps31 rfl ?_
 intro u R
 refine Zb [0] ?_
 refine Zq <| Zg <| Za Y <| Z0 <| Zx <| Zq <| at_draw (n := 14) (0 :: 1 :: 3 :: 7 :: 0 :: 16 :: 48 :: 112 :: 255 :: 511 :: 1023 :: 1023 :: 2047 :: 8191 :: []) 256 (by kernel_rfl) (by kernel_rfl) rfl ?_
 refine Zi 1 0 rfl (p_move Y) <| Zi 3 1 rfl (p_nilChk Y rfl) <| Zi 7 2 rfl (p_fieldAddr0 (off := 0) underlying74 rfl rfl sizeOf26 Y) <| Zj 15 3 rfl isAgg26 Y ?_
 refine Zi 31 4 rfl (p_move Y) <| Zi 63 5 rfl (p_nilChk Y rfl) <| Zi 127 6 rfl (p_fieldAddr0 (off := 1) underlying74 rfl rfl sizeOf26 Y) <| Zj 255 7 rfl isAgg26 Y ?_
 refine Zz (l := [8]) ?_
 refine Zy 255 511 [7, 3] [false, false] [] rfl Y rfl rfl rfl rfl (Zw [_, _] Y call23 Y rfl (sopen_any a b n1 n2 k da db none none sda sdb pa Tx Tg zx zg hab hRa hRb hWa hWb z1 z3 z2 hk)) ?hk_1 no_pan ?hl_1
 case hk_1 =>
  rintro _ _ ⟨_, ⟨v2, ss2, sr2, sja2, sjb2, sda2, sdb2, rfl, hC2, hRa2, hRb2, rfl⟩, rfl⟩
  refine ⟨keep_nil, ?_⟩
  rw [hs] at hC2
  obtain ⟨rfl, rfl, rfl, rfl, rfl⟩ := hC2
  refine Zi 1023 9 rfl (p_move Y) <| Zi 2047 10 rfl (p_extract Y rfl) <| Zi 4095 11 rfl (p_extract Y rfl) <| Zi 8191 12 rfl (p_assign Y) <| Zi 16383 13 rfl (p_assign Y) <| lin_nil ?_
  refine Zn [0, 3, 4] ?_
  refine Zx <| Zq <| at_draw (n := 14) (0 :: 1 :: 3 :: 7 :: 0 :: 16 :: 48 :: 112 :: 255 :: 511 :: 1023 :: 1023 :: 2047 :: 8191 :: []) 256 (by kernel_rfl) (by kernel_rfl) rfl ?_
  refine Zi 1 0 rfl (p_move Y) <| Zi 3 1 rfl (p_nilChk Y rfl) <| Zi 7 2 rfl (p_fieldAddr0 (off := 3) underlying74 rfl rfl sizeOf52 Y) <| Zj 15 3 rfl isAgg52 Y ?_
  refine Zi 31 4 rfl (p_move Y) <| Zi 63 5 rfl (p_nilChk Y rfl) <| Zi 127 6 rfl (p_fieldAddr0 (off := 4) underlying74 rfl rfl sizeOf52 Y) <| Zj 255 7 rfl isAgg52 Y ?_
  refine Zz (l := [8]) ?_
  refine Zy 255 511 [7, 3] [false, false] [] rfl Y rfl rfl rfl rfl (Zw [_, _] Y call24 Y rfl (rsopen_any c d n1 n2 k da db none none sdc sdd hcd hRc hRd hWa hWb z1 z3 z2 hk)) ?hk_2 no_pan ?hl_2
  case hk_2 =>
   rintro _ _ ⟨_, ⟨w2, st2, su2, ska2, skb2, sdc2, sdd2, rfl, hK2, hRc2, hRd2, rfl⟩, rfl⟩
   refine ⟨keep_nil, ?_⟩
   rw [hs] at hK2
   obtain ⟨rfl, rfl, rfl, rfl, rfl⟩ := hK2
   refine Zi 1023 9 rfl (p_move Y) <| Zi 2047 10 rfl (p_extract Y rfl) <| Zi 4095 11 rfl (p_extract Y rfl) <| Zi 8191 12 rfl (p_assign Y) <| Zi 16383 13 rfl (p_assign Y) <| lin_nil ?_
   refine Zn [0, 3, 4, 5, 6] ?_
   refine Zx <| Zq <| Zg <| Zm Y <| Zm Y <| Zp Y rfl <| Zh 2 underlying74 rfl rfl sizeOf57 Y <| Ze (Zs sizeOf57 Y Y rfl) ?_
   rintro _ _ ⟨rfl, rfl⟩
   refine Z0 <| Zx <| Zq <| Zg <| Zm Y <| Zm Y <| Zp Y rfl <| Zh 5 underlying74 rfl rfl sizeOf60 Y <| Ze (Zs sizeOf60 Y Y rfl) ?_
   rintro _ _ ⟨rfl, rfl⟩
   refine Z0 <| Zx <| Zq <| Zg <| Zm Y <| Zm Y ?_
   first | refine op_v (p_eql_nat Y Y) ?_ | refine op_v (p_eql Y Y) ?_
   refine Zm Y ?_
   first | refine ops_split (t := 42) Y rfl (fun hg1 => ?_) (fun hg1 => ?_) | refine ops_split_bool (t := 42) Y rfl (fun hg1 => ?_) (fun hg1 => ?_)
   ·
    refine Zf Y Y ?_
    first | refine op_wg Y (p_eql_nil_nil underlying57 Y Y) rfl rfl ?_ | refine op_wg Y (p_eql_ptr_nil underlying57 Y Y) rfl rfl ?_
    refine Zf Y Y ?_
    first | refine op_wg Y (p_neq_nat (n := 0) Y Y) rfl rfl ?_ | refine op_wg Y (p_neq Y Y) rfl rfl ?_
    refine op_wg Y (p_eql_bool underlying4 Y Y) rfl rfl ?_
    refine Zv (p_pick_t Y Y) <| Za Y <| Z0 <| Zn [2] ?_
    refine Zx <| at_ret <| nx_nil ?_
    refine nx_nil ?_
    refine nx_nil ?_
    refine nx_nil ?_
    refine nx_nil ?_
    refine nx_nil ?_
    refine nx_nil ?_
    refine nx_nil ?_
    refine nx_end1 rfl results31 Y (by
      exact ⟨.pointer none, .pointer none, [], [], [], [], [], [], [], [], sda2, sdb2, sdc2, sdd2, by simp [he], ⟨hTw, by rw [hs]; exact ⟨rfl, rfl, rfl, rfl, rfl⟩, by rw [hs]; exact ⟨rfl, rfl, rfl, rfl, rfl⟩, hRa2, hRb2, hRc2, hRd2⟩, rfl⟩) ?_
    repeat (first | exact Sub.refl _ | exact Sub.nil _ | (apply Sub.cons; (focus (repeat (first | exact One.here _ _ | apply One.there)))) | refine Sub.drop _ ?_)
   ·
    exfalso; first | exact hg1 rfl | (cases hg1; done) | contradiction | omega | (simp at hg1; done) | (simp at hg1; omega) | (simp_all; done) | (simp_all; omega)
  case hl_2 =>
   exact each_nil
 case hl_1 =>
  exact each_nil

theorem bopen_any (n1 n2 k xp a b c d : Nat) (da db : DiskS) (v w : Value) (sda sdb sdc sdd : List Chunk) (pa : Addr) (Tx Tg : TypeId) (zx zg : Nat × Nat) (hab : a ≠ b) (hcd : c ≠ d) (z1 : 1 ≤ n1) (z2 : n1 ≤ 4194304) (z3 : 1 ≤ n2) (z4 : n2 ≤ 4194304) (hk : k ≤ 900000) (hWa : Wok n1 k da none) (hWb : Wok n2 k db none) (hRa : DiskR da a sda) (hRb : DiskR db b sdb) (hRc : RdR da c sdc) (hRd : RdR db d sdd) : Does Tryz.prog 31 #[.pointer (some ⟨xp, 0, none⟩)] [[(xp, .cells #[.pointer (some ⟨a, 0, none⟩), .pointer (some ⟨b, 0, none⟩), v, .pointer (some ⟨c, 0, none⟩), .pointer (some ⟨d, 0, none⟩), w] 74 (0, 0))], sda, sdb, sdc, sdd, [(4, .cells (kTab.map u32v).toArray Tg zg)], [(0, .cells #[.iface 299 (.pointer (some pa))] Tx zx)]] (fun r H' => ∃ v' w' ss' sr' sja' sjb' st' su' ska' skb' sda' sdb' sdc' sdd', r = .bool true ∧ Bth n1 n2 (k + 2) a b c d (openS da db).2.1 (openS da db).2.2.1 (openS da db).2.2.2 v' w' ss' sr' sja' sjb' st' su' ska' skb' sda' sdb' sdc' sdd' ∧ H' = [[(xp, .cells #[.pointer (some ⟨a, 0, none⟩), .pointer (some ⟨b, 0, none⟩), v', .pointer (some ⟨c, 0, none⟩), .pointer (some ⟨d, 0, none⟩), w'] 74 (0, 0))], ss', sr', sja', sjb', st', su', ska', skb', sda', sdb', sdc', sdd', [(4, .cells (kTab.map u32v).toArray Tg zg)], [(0, .cells #[.iface 299 (.pointer (some pa))] Tx zx)]]) := by
  rcases openS_code da db with ⟨co, hs, he⟩ | ⟨hs, he⟩
  · exact bopen_some n1 n2 k xp a b c d da db v w sda sdb sdc sdd pa Tx Tg zx zg hab hcd z1 z2 z3 z4 hk hWa hWb hRa hRb hRc hRd co hs he
  · exact bopen_none n1 n2 k xp a b c d da db v w sda sdb sdc sdd pa Tx Tg zx zg hab hcd z1 z2 z3 z4 hk hWa hWb hRa hRb hRc hRd hs he

end Go.Proofs.YthbadolcncojbaaGreatDoor
