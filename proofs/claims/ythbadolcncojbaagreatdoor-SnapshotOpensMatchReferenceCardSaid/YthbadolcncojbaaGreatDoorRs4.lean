/- The reference of layer 24: Open; a store over plain states. -/
import Derived.Test.YthbadolcncojbaaGreatDoorEz
import Derived.Test.YthbadolcncojbaaGreatDoorRs3
import Derived.Test.YthbadolcncojbaaGreatDoorMa2

namespace Go.Proofs.YthbadolcncojbaaGreatDoor
open Go.Proofs.Tryz
open Go Go.RowKit Gw
set_option linter.unusedVariables false
set_option maxRecDepth 100000
attribute [local irreducible] Gw.At Gw.Nx Gw.Ops
/-- The memory of a store of the reference. -/
def KtR (c : Core) (sp a b : Nat) (ss sr ska skb : List Chunk) : Prop := ∃ ap bp v cs, KrR c.ja ap a ska ∧ KrR c.jb bp b skb ∧ Row 9 v (c.its.map strV) sr ∧
  cs = #[.pointer (some ⟨ap, 0, none⟩), .pointer (some ⟨bp, 0, none⟩), .int .i64 ((swI c.sw : Nat) : Int), .int .i64 (c.gen : Int), v, .int .i64 c.err] ∧ ss = [(sp, .cells cs 68 (0, 0))]
def KtO (co : Option Core) (a b : Nat) (v : Value) (ss sr ska skb : List Chunk) : Prop :=
  match co with
  | none => v = .pointer none ∧ ss = [] ∧ sr = [] ∧ ska = [] ∧ skb = []
  | some c => ∃ sp, v = .pointer (some ⟨sp, 0, none⟩) ∧ KtR c sp a b ss sr ska skb
theorem rd_cell {d : DiskS} {rp : Nat} {sd : List Chunk} (h : RdR d rp sd) : ∃ cs, (rp, .cells cs 136 (0, 0)) ∈ sd := by
  obtain ⟨_, _, v, pv, sv, sp, _, _, rfl⟩ := h
  exact ⟨_, List.mem_cons_self ..⟩

theorem rsopen_any (a b n1 n2 k : Nat) (da db : DiskS) (jo1 jo2 : Option JrS) (sda sdb : List Chunk) (hab : a ≠ b) (hRa : RdR da a sda) (hRb : RdR db b sdb) (hWa : Wok n1 k da jo1) (hWb : Wok n2 k db jo2) (h1 : 1 ≤ n1) (h2 : 1 ≤ n2) (h3 : n1 ≤ 4194304) (hk : k ≤ 900000) :
    Does Tryz.prog 24 #[.pointer (some ⟨a, 0, none⟩), .pointer (some ⟨b, 0, none⟩)] [sda, sdb] (fun r H' => ∃ v ss sr sja sjb sda' sdb', r = .tuple #[v, .int .i64 (openS da db).1] ∧ KtO (openS da db).2.1 a b v ss sr sja sjb ∧ RdR (openS da db).2.2.1 a sda' ∧ RdR (openS da db).2.2.2 b sdb' ∧ H' = [ss, sr, sja, sjb, sda', sdb']) := by
 have hml : maxLen = 9223372036854775807 := rfl
 obtain ⟨csa, hca⟩ := rd_cell hRa
 obtain ⟨csb, hcb⟩ := rd_cell hRb
 have hwa := hWa.open h1
 have hpa := hWa.pend
 have hpb := hWb.pend
 refine spec_enter func24 rfl ntmps24 rfl ?_
 intro u R
 refine Zb [0, 1] ?_
 refine Zq <| Zg <| Za Y <| Za Y <| Z0 <| Zx <| Zq <| Zq <| Zg <| Zm Y <| Zm Y ?_
 refine op_rm (cs := [(a, .cells csa 136 (0, 0)), (b, .cells csb 136 (0, 0))]) (by simp [hca, hcb]) (p_eql_ptr_ne underlying52 (rfl : Tryz.prog.info? 136 = some Tryz.t136) (by decide) hab Y Y) rfl rfl ?_
 refine Z0 <| Zx ?_
 refine at_if_bool Y (fun hq3 => ?_) (fun hq3 => ?_)
 ·
  cases hq3
 ·
  refine at_skip <| Zx <| Zq <| Zg <| Zm Y <| Zc [_] Y call71 Y rfl (kopen_any da a sda hRa (by omega)) ?_
  rintro _ _ ⟨_, ⟨v1, ska, sda2, hK1, hR1, rfl, rfl⟩, rfl⟩
  refine Zm Y <| Zd Y rfl <| Zd Y rfl <| Za Y <| Za Y <| Z0 <| Zx <| Zq <| Zq <| Zg <| Zm Y ?_
  first | refine op_v (p_neq_nat (n := 0) Y Y) ?_ | refine op_v (p_neq Y Y) ?_
  refine Z0 <| Zn [1, 6, 7, 27] ?_
  refine Zx ?_
  first | refine at_if Y (fun he1 => ?_) (fun he1 => ?_) | refine at_if_bool Y (fun he1 => ?_) (fun he1 => ?_)
  ·
   have hx1 : da.openJ.2.1 = none := by
     rcases openJ_code da with ⟨j, _, h9⟩ | ⟨h9, _⟩
     · exact absurd h9 he1
     · exact h9
   rw [openS_a hx1]
   rw [hx1] at hK1
   obtain ⟨rfl, rfl⟩ := hK1
   refine Zq <| at_nil ?_
   refine at_nil ?_
   refine at_nil ?_
   refine at_nil ?_
   refine Zg <| Zm Y <| Za Y <| Za Y <| Z0 <| Zx <| at_ret <| Zt ?_
   refine nx_end2 rfl results24 Y Y (by exact ⟨.pointer none, [], [], [], [], _, _, rfl, ⟨rfl, rfl, rfl, rfl, rfl⟩, hR1, hRb, by first | rfl | simp⟩)
  ·
   obtain ⟨j1, hx1⟩ : ∃ j, da.openJ.2.1 = some j := by
     rcases openJ_code da with ⟨j, h9, _⟩ | ⟨_, h9⟩
     · exact ⟨j, h9⟩
     · exact absurd h9 he1
   rw [hx1] at hK1 hwa
   obtain ⟨ap, rfl, hKa⟩ := hK1
   refine at_skip <| Zx <| Zq <| Zg <| Zm Y <| Zc [_] Y call71 Y rfl (kopen_any db b sdb hRb (by omega)) ?_
   rintro _ _ ⟨_, ⟨v2, skb, sdb2, hK2, hR2, rfl, rfl⟩, rfl⟩
   refine Zm Y <| Zd Y rfl <| Zd Y rfl <| Za Y <| Za Y <| Z0 <| Zx <| Zq <| Zq <| Zg <| Zm Y ?_
   first | refine op_v (p_neq_nat (n := 0) Y Y) ?_ | refine op_v (p_neq Y Y) ?_
   refine Z0 <| Zx ?_
   first | refine at_if Y (fun he2 => ?_) (fun he2 => ?_) | refine at_if_bool Y (fun he2 => ?_) (fun he2 => ?_)
   ·
    have hx2 : db.openJ.2.1 = none := by
      rcases openJ_code db with ⟨j, _, h9⟩ | ⟨h9, _⟩
      · exact absurd h9 he2
      · exact h9
    rw [openS_b hx1 hx2]
    rw [hx2] at hK2
    obtain ⟨rfl, rfl⟩ := hK2
    refine Zq <| at_nil ?_
    refine at_nil ?_
    refine at_nil ?_
    refine at_nil ?_
    refine Zg <| Zm Y <| Za Y <| Za Y <| Z0 <| Zx <| at_ret <| Zt ?_
    refine nx_end2 rfl results24 Y Y (by exact ⟨.pointer none, [], [], [], [], _, _, rfl, ⟨rfl, rfl, rfl, rfl, rfl⟩, hR1, hR2, by first | rfl | simp⟩)
   ·
    obtain ⟨j2, hx2⟩ : ∃ j, db.openJ.2.1 = some j := by
      rcases openJ_code db with ⟨j, h9, _⟩ | ⟨_, h9⟩
      · exact ⟨j, h9⟩
      · exact absurd h9 he2
    rw [hx2] at hK2
    obtain ⟨bp, rfl, hKb⟩ := hK2
    refine at_skip <| Zx <| Zq <| Zg <| Zm Y <| Zm Y <| Zv (p_build (vs := [(0, _), (1, _)]) (cs := #[_, _]) Y (run_build_array zeroValue66 underlying66 sizeOf65 rfl)) ?_
    refine Zv (p_build (vs := [(0, _)]) (cs := #[_, _, _, _, _, _]) Y (run_build_struct (pl := #[(0, 2), (2, 1), (3, 1), (4, 1), (5, 1)]) zeroValue68 underlying68 (fun _ => by kernel_rfl) rfl)) ?_
    refine Ze (w_box Y (cs := #[_, _, _, _, _, _]) rfl) ?_
    rintro _ _ ⟨sp, rfl, rfl⟩
    refine Za Y <| Z0 <| Zn [6, 8, 10] ?_
    refine Zx <| Zq ?_
    obtain ⟨hha, hna, hsha, va, sra, hrowa, hska⟩ := id hKa
    obtain ⟨bva, cva, hva⟩ := hrowa.form
    subst hska hva
    obtain ⟨hhb, hnb, hshb, vb, srb, hrowb, hskb⟩ := id hKb
    obtain ⟨bvb, cvb, hvb⟩ := hrowb.form
    subst hskb hvb
    refine at_cutA (s1 := [(ap, _)]) (s2 := sra) (by repeat (first | exact CutA.here _ | apply CutA.there)) ?_
    refine at_cutA (s1 := [(bp, _)]) (s2 := srb) (by repeat (first | exact CutA.here _ | apply CutA.there)) ?_
    refine Zg <| Zm Y <| Zp Y rfl <| Zh 1 underlying156 rfl rfl sizeOf43 Y <| Zl isAgg43 Y ?_
    refine Zc [_] Y call72 Y rfl (rread_any hrowa hna hsha) ?_
    rintro _ _ ⟨_, ⟨mi, w1, sw1, ia, ok1, rfl, hL1, hl1, hw1, rfl⟩, rfl⟩
    obtain ⟨gw1, cw1, rfl⟩ := hw1.form
    refine Zm Y <| Zd Y rfl <| Zd Y rfl <| Zd Y rfl <| Za Y <| Za Y <| Za Y <| Z0 <| Zx <| Zq <| Zg <| Zm Y <| Zp Y rfl <| Zh 1 underlying156 rfl rfl sizeOf43 Y <| Zl isAgg43 Y ?_
    refine Zc [_] Y call72 Y rfl (rread_any hrowb hnb hshb) ?_
    rintro _ _ ⟨_, ⟨ni, w2, sw2, ib, ok2, rfl, hL2, hl2, hw2, rfl⟩, rfl⟩
    obtain ⟨gw2, cw2, rfl⟩ := hw2.form
    refine Zm Y <| Zd Y rfl <| Zd Y rfl <| Zd Y rfl <| Za Y <| Za Y <| Za Y <| Z0 <| Zn [6, 10, 11, 12, 13, 14, 15, 16] ?_
    refine Zx <| Zq <| Zq <| Zg <| Zm Y ?_
    first | refine op_v (p_not_dec Y) ?_ | refine op_v (p_not Y) ?_
    refine Zm Y ?_
    refine ops_split_bool (t := 62) Y rfl (fun hg1 => ?_) (fun hg1 => ?_)
    ·
     have hf : ok1 = false := by simpa using hg1
     subst hf
     rw [openS_bad1 hx1 hx2 hL1.f]
     refine op_skip Y rfl <| op_skip Y rfl <| Zv (p_pick_t Y Y) <| Zm Y <| op_skip Y rfl <| op_skip Y rfl <| op_skip Y rfl <| op_skip Y rfl <| op_skip Y rfl <| op_skip Y rfl <| op_skip Y rfl <| Zv (p_pick_t Y Y) <| Z0 <| Zn [6, 10, 11, 12, 14, 15, 74] ?_
     refine Zx <| at_then Y <| Zq <| at_nil ?_
     refine at_nil ?_
     refine at_nil ?_
     refine at_nil ?_
     refine Zg <| Za Y <| Za Y <| Z0 <| Zx <| at_ret <| Zt ?_
     refine nx_end2 rfl results24 Y Y (by exact ⟨.pointer none, [], [], [], [], _, _, rfl, ⟨rfl, rfl, rfl, rfl, rfl⟩, hR1, hR2, by first | rfl | simp⟩)
    ·
     have ht : ok1 = true := by simpa using hg1
     subst ht
     obtain ⟨m, rfl, hm⟩ := hL1.t
     refine Zf Y Y ?_
     first | refine op_wg Y (p_not_dec Y) rfl rfl ?_ | refine op_wg Y (p_not Y) rfl rfl ?_
     refine Zv (p_pick_f Y Y) <| Zm Y ?_
     refine ops_split_bool (t := 66) Y rfl (fun hg2 => ?_) (fun hg2 => ?_)
     ·
      have hf : ok2 = false := by simpa using hg2
      subst hf
      rw [openS_bad2 hx1 hx2 hL2.f]
      refine op_skip Y rfl <| op_skip Y rfl <| op_skip Y rfl <| op_skip Y rfl <| op_skip Y rfl <| op_skip Y rfl <| op_skip Y rfl <| Zv (p_pick_t Y Y) <| Z0 <| Zn [6, 10, 11, 12, 14, 15, 74] ?_
      refine Zx <| at_then Y <| Zq <| at_nil ?_
      refine at_nil ?_
      refine at_nil ?_
      refine at_nil ?_
      refine Zg <| Za Y <| Za Y <| Z0 <| Zx <| at_ret <| Zt ?_
      refine nx_end2 rfl results24 Y Y (by exact ⟨.pointer none, [], [], [], [], _, _, rfl, ⟨rfl, rfl, rfl, rfl, rfl⟩, hR1, hR2, by first | rfl | simp⟩)
     ·
      have ht : ok2 = true := by simpa using hg2
      subst ht
      obtain ⟨n, rfl, hn⟩ := hL2.t
      refine Zf Y Y <| Zf Y Y ?_
      first | refine op_wg Y (p_eql_nat Y Y) rfl rfl ?_ | refine op_wg Y (p_eql Y Y) rfl rfl ?_
      refine Zf Y Y ?_
      first | refine ops_split (t := 70) Y rfl (fun hg3 => ?_) (fun hg3 => ?_) | refine ops_split_bool (t := 70) Y rfl (fun hg3 => ?_) (fun hg3 => ?_)
      ·
       refine Zf Y Y ?_
       first | refine op_wg Y (p_gtr_nat (n := 0) Y Y) rfl rfl ?_ | refine op_wg Y (p_gtr Y Y) rfl rfl ?_
       refine op_wg Y (p_pick_t Y Y) rfl rfl ?_
       refine Zv (p_pick_f Y Y) <| Z0 <| Zn [6, 10, 11, 12, 14, 15, 74] ?_
       refine Zx ?_
       first | refine at_if Y (fun hi => ?_) (fun hi => ?_) | refine at_if_bool Y (fun hi => ?_) (fun hi => ?_)
       ·
        rw [openS_same hx1 hx2 hm hn (by omega) (by omega)]
        refine Zq <| at_nil ?_
        refine at_nil ?_
        refine at_nil ?_
        refine at_nil ?_
        refine Zg <| Za Y <| Za Y <| Z0 <| Zx <| at_ret <| Zt ?_
        refine nx_end2 rfl results24 Y Y (by exact ⟨.pointer none, [], [], [], [], _, _, rfl, ⟨rfl, rfl, rfl, rfl, rfl⟩, hR1, hR2, by first | rfl | simp⟩)
       ·
        refine at_skip <| Zx <| Zq <| Zq <| Zg <| Zm Y ?_
        first | refine op_v (p_eql_nat (n := 0) Y Y) ?_ | refine op_v (p_eql Y Y) ?_
        refine Zm Y ?_
        first | refine ops_split (t := 77) Y rfl (fun hz1 => ?_) (fun hz1 => ?_) | refine ops_split_bool (t := 77) Y rfl (fun hz1 => ?_) (fun hz1 => ?_)
        ·
         refine Zf Y Y ?_
         first | refine op_wg Y (p_eql_nat (n := 0) Y Y) rfl rfl ?_ | refine op_wg Y (p_eql Y Y) rfl rfl ?_
         refine Zv (p_pick_t Y Y) <| Z0 <| Zx ?_
         first | refine at_if Y (fun hz2 => ?_) (fun hz2 => ?_) | refine at_if_bool Y (fun hz2 => ?_) (fun hz2 => ?_)
         ·
          refine Zq <| at_join (s1 := [(ap, _)]) (s2 := sra) (by repeat (first | exact One.here _ _ | apply One.there)) (by repeat (first | exact One.here _ _ | apply One.there)) ?_
          refine Zg <| Zm Y <| Zr [_] Y call73 Y rfl (rheader_spec 1 (by decide)) ?_
          rintro _ _ ⟨rfl, rfl⟩
          refine Ze (w_buildSlice (vs := [_]) (cs := [_]) underlying43 sizeOf9 zeroValue9 Y rfl rfl rfl rfl rfl) ?_
          rintro _ _ ⟨gh, rfl, rfl⟩
          refine Zc [_, _] Y call63 Y rfl (kr_app_any j1 _ ap a _ _ sda2 _ [hdr 1] hwa h3 hKa hR1 (row_new _ gh ([hdr 1].map strV) 1 rfl (by decide)) (by omega) (by decide) (by intro r hr; rw [List.mem_singleton.1 hr]; have := hdr_len 1 (by decide); omega)) ?_
          rintro _ _ ⟨_, ⟨sk1, sd1, rfl, hK3, hR3, rfl⟩, rfl⟩
          refine Za Y <| Z0 <| Zx <| Zq <| Zq <| Zg <| Zm Y ?_
          first | refine op_v (p_neq_nat (n := 0) Y Y) ?_ | refine op_v (p_neq Y Y) ?_
          refine Z0 <| Zn [10, 17, 86] ?_
          refine Zx ?_
          first | refine at_if Y (fun hq8 => ?_) (fun hq8 => ?_) | refine at_if_bool Y (fun hq8 => ?_) (fun hq8 => ?_)
          ·
           rw [openS_full hx1 hx2 hm hn (by omega) (by omega) hq8]
           refine Zq <| at_nil ?_
           refine at_nil ?_
           refine at_nil ?_
           refine at_nil ?_
           refine Zg <| Zm Y <| Za Y <| Za Y <| Z0 <| Zx <| at_ret <| Zt <| Zt ?_
           refine nx_end2 rfl results24 Y Y (by exact ⟨.pointer none, [], [], [], [], _, _, rfl, ⟨rfl, rfl, rfl, rfl, rfl⟩, hR3, hR2, by first | rfl | simp⟩)
          ·
           rw [openS_new hx1 hx2 hm hn (by omega) (by omega) hq8]
           refine at_skip <| Zx <| Zq <| Zg <| Zm Y <| Zp Y rfl <| Zh 3 underlying68 rfl rfl sizeOf3 Y <| Ze (Zs sizeOf3 Y Y rfl) ?_
           rintro _ _ ⟨rfl, rfl⟩
           refine Z0 <| Zx <| Zq <| at_join (s1 := [(bp, _)]) (s2 := srb) (by repeat (first | exact One.here _ _ | apply One.there)) (by repeat (first | exact One.here _ _ | apply One.there)) ?_
           refine at_nil ?_
           refine Zg <| Zm Y <| Za Y <| Za Y <| Z0 <| Zx <| at_ret <| Zt ?_
           refine nx_end2 rfl results24 Y Y (by exact ⟨.pointer (some ⟨sp, 0, none⟩), _, [], sk1, _, sd1, sdb2, rfl, ⟨sp, rfl, ap, bp, _, #[.pointer (some ⟨ap, 0, none⟩), .pointer (some ⟨bp, 0, none⟩), .int .i64 ((swI false : Nat) : Int), .int .i64 ((1 : Nat) : Int), .slice none 0 0, .int .i64 0], hK3, hKb, row_nil _, rfl, rfl⟩, hR3, hR2, rfl⟩)
         ·
          refine at_skip <| Zx <| Zq <| Zg <| Zm Y <| Zm Y <| Zp Y rfl <| Zh 3 underlying68 rfl rfl sizeOf3 Y <| Ze (Zs sizeOf3 Y Y rfl) ?_
          rintro _ _ ⟨rfl, rfl⟩
          refine Z0 <| Zx <| Zq <| Zg <| Zm Y <| Zm Y <| Zp Y rfl <| Zh 4 underlying68 rfl rfl sizeOf43 Y <| Ze (Zs sizeOf43 Y Y rfl) ?_
          rintro _ _ ⟨rfl, rfl⟩
          refine Z0 <| Zn [10, 11, 14, 15] ?_
          refine Zx <| Zq <| Zq <| Zg <| Zm Y <| Zm Y ?_
          first | refine op_v (p_gtr_nat Y Y) ?_ | refine op_v (p_gtr Y Y) ?_
          refine Z0 <| Zx ?_
          first | refine at_if Y (fun hnm => ?_) (fun hnm => ?_) | refine at_if_bool Y (fun hnm => ?_) (fun hnm => ?_)
          ·
           rw [openS_two hx1 hx2 hm hn (by omega)]
           refine Zq <| Zg <| Zm Y <| Zp Y rfl <| Zh 2 underlying68 rfl rfl sizeOf3 Y <| Ze (Zs sizeOf3 Y Y rfl) ?_
           rintro _ _ ⟨rfl, rfl⟩
           refine Z0 <| Zx <| Zq <| Zg <| Zm Y <| Zm Y <| Zp Y rfl <| Zh 3 underlying68 rfl rfl sizeOf3 Y <| Ze (Zs sizeOf3 Y Y rfl) ?_
           rintro _ _ ⟨rfl, rfl⟩
           refine Z0 <| Zx <| Zg <| Zm Y <| Zm Y <| Zp Y rfl <| Zh 4 underlying68 rfl rfl sizeOf43 Y <| Ze (Zs sizeOf43 Y Y rfl) ?_
           rintro _ _ ⟨rfl, rfl⟩
           refine Z0 <| Zn [10] ?_
           refine Zx <| Zq <| at_join (s1 := [(ap, _)]) (s2 := sra) (by repeat (first | exact One.here _ _ | apply One.there)) (by repeat (first | exact One.here _ _ | apply One.there)) ?_
           refine at_join (s1 := [(bp, _)]) (s2 := srb) (by repeat (first | exact One.here _ _ | apply One.there)) (by repeat (first | exact One.here _ _ | apply One.there)) ?_
           refine Zg <| Zm Y <| Za Y <| Za Y <| Z0 <| Zx <| at_ret ?_
           refine nx_end2 rfl results24 Y Y (by first | exact ⟨.pointer (some ⟨sp, 0, none⟩), _, sw2, _, _, sda2, sdb2, rfl, ⟨sp, rfl, ap, bp, _, #[.pointer (some ⟨ap, 0, none⟩), .pointer (some ⟨bp, 0, none⟩), .int .i64 ((swI true : Nat) : Int), .int .i64 (n : Int), .slice gw2 (ib.map strV).length cw2, .int .i64 0], hKa, hKb, hw2, rfl, rfl⟩, hR1, hR2, rfl⟩ | exact ⟨.pointer (some ⟨sp, 0, none⟩), _, sw1, _, _, sda2, sdb2, rfl, ⟨sp, rfl, ap, bp, _, #[.pointer (some ⟨ap, 0, none⟩), .pointer (some ⟨bp, 0, none⟩), .int .i64 ((swI false : Nat) : Int), .int .i64 (m : Int), .slice gw1 (ia.map strV).length cw1, .int .i64 0], hKa, hKb, hw1, rfl, rfl⟩, hR1, hR2, rfl⟩)
          ·
           rw [openS_one hx1 hx2 hm hn (by omega)]
           refine at_skip <| Zx <| Zq <| at_join (s1 := [(ap, _)]) (s2 := sra) (by repeat (first | exact One.here _ _ | apply One.there)) (by repeat (first | exact One.here _ _ | apply One.there)) ?_
           refine at_join (s1 := [(bp, _)]) (s2 := srb) (by repeat (first | exact One.here _ _ | apply One.there)) (by repeat (first | exact One.here _ _ | apply One.there)) ?_
           refine Zg <| Zm Y <| Za Y <| Za Y <| Z0 <| Zx <| at_ret ?_
           refine nx_end2 rfl results24 Y Y (by first | exact ⟨.pointer (some ⟨sp, 0, none⟩), _, sw2, _, _, sda2, sdb2, rfl, ⟨sp, rfl, ap, bp, _, #[.pointer (some ⟨ap, 0, none⟩), .pointer (some ⟨bp, 0, none⟩), .int .i64 ((swI true : Nat) : Int), .int .i64 (n : Int), .slice gw2 (ib.map strV).length cw2, .int .i64 0], hKa, hKb, hw2, rfl, rfl⟩, hR1, hR2, rfl⟩ | exact ⟨.pointer (some ⟨sp, 0, none⟩), _, sw1, _, _, sda2, sdb2, rfl, ⟨sp, rfl, ap, bp, _, #[.pointer (some ⟨ap, 0, none⟩), .pointer (some ⟨bp, 0, none⟩), .int .i64 ((swI false : Nat) : Int), .int .i64 (m : Int), .slice gw1 (ia.map strV).length cw1, .int .i64 0], hKa, hKb, hw1, rfl, rfl⟩, hR1, hR2, rfl⟩)
        ·
         refine op_skip Y rfl <| op_skip Y rfl <| Zv (p_pick_f Y Y) <| Z0 <| Zx <| at_else Y <| at_skip <| Zx <| Zq <| Zg <| Zm Y <| Zm Y <| Zp Y rfl <| Zh 3 underlying68 rfl rfl sizeOf3 Y <| Ze (Zs sizeOf3 Y Y rfl) ?_
         rintro _ _ ⟨rfl, rfl⟩
         refine Z0 <| Zx <| Zq <| Zg <| Zm Y <| Zm Y <| Zp Y rfl <| Zh 4 underlying68 rfl rfl sizeOf43 Y <| Ze (Zs sizeOf43 Y Y rfl) ?_
         rintro _ _ ⟨rfl, rfl⟩
         refine Z0 <| Zn [10, 11, 14, 15] ?_
         refine Zx <| Zq <| Zq <| Zg <| Zm Y <| Zm Y ?_
         first | refine op_v (p_gtr_nat Y Y) ?_ | refine op_v (p_gtr Y Y) ?_
         refine Z0 <| Zx ?_
         first | refine at_if Y (fun hnm => ?_) (fun hnm => ?_) | refine at_if_bool Y (fun hnm => ?_) (fun hnm => ?_)
         ·
          rw [openS_two hx1 hx2 hm hn (by omega)]
          refine Zq <| Zg <| Zm Y <| Zp Y rfl <| Zh 2 underlying68 rfl rfl sizeOf3 Y <| Ze (Zs sizeOf3 Y Y rfl) ?_
          rintro _ _ ⟨rfl, rfl⟩
          refine Z0 <| Zx <| Zq <| Zg <| Zm Y <| Zm Y <| Zp Y rfl <| Zh 3 underlying68 rfl rfl sizeOf3 Y <| Ze (Zs sizeOf3 Y Y rfl) ?_
          rintro _ _ ⟨rfl, rfl⟩
          refine Z0 <| Zx <| Zg <| Zm Y <| Zm Y <| Zp Y rfl <| Zh 4 underlying68 rfl rfl sizeOf43 Y <| Ze (Zs sizeOf43 Y Y rfl) ?_
          rintro _ _ ⟨rfl, rfl⟩
          refine Z0 <| Zn [10] ?_
          refine Zx <| Zq <| at_join (s1 := [(ap, _)]) (s2 := sra) (by repeat (first | exact One.here _ _ | apply One.there)) (by repeat (first | exact One.here _ _ | apply One.there)) ?_
          refine at_join (s1 := [(bp, _)]) (s2 := srb) (by repeat (first | exact One.here _ _ | apply One.there)) (by repeat (first | exact One.here _ _ | apply One.there)) ?_
          refine Zg <| Zm Y <| Za Y <| Za Y <| Z0 <| Zx <| at_ret ?_
          refine nx_end2 rfl results24 Y Y (by first | exact ⟨.pointer (some ⟨sp, 0, none⟩), _, sw2, _, _, sda2, sdb2, rfl, ⟨sp, rfl, ap, bp, _, #[.pointer (some ⟨ap, 0, none⟩), .pointer (some ⟨bp, 0, none⟩), .int .i64 ((swI true : Nat) : Int), .int .i64 (n : Int), .slice gw2 (ib.map strV).length cw2, .int .i64 0], hKa, hKb, hw2, rfl, rfl⟩, hR1, hR2, rfl⟩ | exact ⟨.pointer (some ⟨sp, 0, none⟩), _, sw1, _, _, sda2, sdb2, rfl, ⟨sp, rfl, ap, bp, _, #[.pointer (some ⟨ap, 0, none⟩), .pointer (some ⟨bp, 0, none⟩), .int .i64 ((swI false : Nat) : Int), .int .i64 (m : Int), .slice gw1 (ia.map strV).length cw1, .int .i64 0], hKa, hKb, hw1, rfl, rfl⟩, hR1, hR2, rfl⟩)
         ·
          rw [openS_one hx1 hx2 hm hn (by omega)]
          refine at_skip <| Zx <| Zq <| at_join (s1 := [(ap, _)]) (s2 := sra) (by repeat (first | exact One.here _ _ | apply One.there)) (by repeat (first | exact One.here _ _ | apply One.there)) ?_
          refine at_join (s1 := [(bp, _)]) (s2 := srb) (by repeat (first | exact One.here _ _ | apply One.there)) (by repeat (first | exact One.here _ _ | apply One.there)) ?_
          refine Zg <| Zm Y <| Za Y <| Za Y <| Z0 <| Zx <| at_ret ?_
          refine nx_end2 rfl results24 Y Y (by first | exact ⟨.pointer (some ⟨sp, 0, none⟩), _, sw2, _, _, sda2, sdb2, rfl, ⟨sp, rfl, ap, bp, _, #[.pointer (some ⟨ap, 0, none⟩), .pointer (some ⟨bp, 0, none⟩), .int .i64 ((swI true : Nat) : Int), .int .i64 (n : Int), .slice gw2 (ib.map strV).length cw2, .int .i64 0], hKa, hKb, hw2, rfl, rfl⟩, hR1, hR2, rfl⟩ | exact ⟨.pointer (some ⟨sp, 0, none⟩), _, sw1, _, _, sda2, sdb2, rfl, ⟨sp, rfl, ap, bp, _, #[.pointer (some ⟨ap, 0, none⟩), .pointer (some ⟨bp, 0, none⟩), .int .i64 ((swI false : Nat) : Int), .int .i64 (m : Int), .slice gw1 (ia.map strV).length cw1, .int .i64 0], hKa, hKb, hw1, rfl, rfl⟩, hR1, hR2, rfl⟩)
      ·
       refine op_skip Y rfl <| op_skip Y rfl <| op_wg Y (p_pick_f Y Y) rfl rfl ?_
       refine Zv (p_pick_f Y Y) <| Z0 <| Zn [6, 10, 11, 12, 14, 15, 74] ?_
       refine Zx <| at_else Y <| at_skip <| Zx <| Zq <| Zq <| Zg <| Zm Y ?_
       first | refine op_v (p_eql_nat (n := 0) Y Y) ?_ | refine op_v (p_eql Y Y) ?_
       refine Zm Y ?_
       first | refine ops_split (t := 77) Y rfl (fun hz1 => ?_) (fun hz1 => ?_) | refine ops_split_bool (t := 77) Y rfl (fun hz1 => ?_) (fun hz1 => ?_)
       ·
        refine Zf Y Y ?_
        first | refine op_wg Y (p_eql_nat (n := 0) Y Y) rfl rfl ?_ | refine op_wg Y (p_eql Y Y) rfl rfl ?_
        refine Zv (p_pick_t Y Y) <| Z0 <| Zx ?_
        first | refine at_if Y (fun hz2 => ?_) (fun hz2 => ?_) | refine at_if_bool Y (fun hz2 => ?_) (fun hz2 => ?_)
        ·
         refine Zq <| at_join (s1 := [(ap, _)]) (s2 := sra) (by repeat (first | exact One.here _ _ | apply One.there)) (by repeat (first | exact One.here _ _ | apply One.there)) ?_
         refine Zg <| Zm Y <| Zr [_] Y call73 Y rfl (rheader_spec 1 (by decide)) ?_
         rintro _ _ ⟨rfl, rfl⟩
         refine Ze (w_buildSlice (vs := [_]) (cs := [_]) underlying43 sizeOf9 zeroValue9 Y rfl rfl rfl rfl rfl) ?_
         rintro _ _ ⟨gh, rfl, rfl⟩
         refine Zc [_, _] Y call63 Y rfl (kr_app_any j1 _ ap a _ _ sda2 _ [hdr 1] hwa h3 hKa hR1 (row_new _ gh ([hdr 1].map strV) 1 rfl (by decide)) (by omega) (by decide) (by intro r hr; rw [List.mem_singleton.1 hr]; have := hdr_len 1 (by decide); omega)) ?_
         rintro _ _ ⟨_, ⟨sk1, sd1, rfl, hK3, hR3, rfl⟩, rfl⟩
         refine Za Y <| Z0 <| Zx <| Zq <| Zq <| Zg <| Zm Y ?_
         first | refine op_v (p_neq_nat (n := 0) Y Y) ?_ | refine op_v (p_neq Y Y) ?_
         refine Z0 <| Zn [10, 17, 86] ?_
         refine Zx ?_
         first | refine at_if Y (fun hq8 => ?_) (fun hq8 => ?_) | refine at_if_bool Y (fun hq8 => ?_) (fun hq8 => ?_)
         ·
          rw [openS_full hx1 hx2 hm hn (by omega) (by omega) hq8]
          refine Zq <| at_nil ?_
          refine at_nil ?_
          refine at_nil ?_
          refine at_nil ?_
          refine Zg <| Zm Y <| Za Y <| Za Y <| Z0 <| Zx <| at_ret <| Zt <| Zt ?_
          refine nx_end2 rfl results24 Y Y (by exact ⟨.pointer none, [], [], [], [], _, _, rfl, ⟨rfl, rfl, rfl, rfl, rfl⟩, hR3, hR2, by first | rfl | simp⟩)
         ·
          rw [openS_new hx1 hx2 hm hn (by omega) (by omega) hq8]
          refine at_skip <| Zx <| Zq <| Zg <| Zm Y <| Zp Y rfl <| Zh 3 underlying68 rfl rfl sizeOf3 Y <| Ze (Zs sizeOf3 Y Y rfl) ?_
          rintro _ _ ⟨rfl, rfl⟩
          refine Z0 <| Zx <| Zq <| at_join (s1 := [(bp, _)]) (s2 := srb) (by repeat (first | exact One.here _ _ | apply One.there)) (by repeat (first | exact One.here _ _ | apply One.there)) ?_
          refine at_nil ?_
          refine Zg <| Zm Y <| Za Y <| Za Y <| Z0 <| Zx <| at_ret <| Zt ?_
          refine nx_end2 rfl results24 Y Y (by exact ⟨.pointer (some ⟨sp, 0, none⟩), _, [], sk1, _, sd1, sdb2, rfl, ⟨sp, rfl, ap, bp, _, #[.pointer (some ⟨ap, 0, none⟩), .pointer (some ⟨bp, 0, none⟩), .int .i64 ((swI false : Nat) : Int), .int .i64 ((1 : Nat) : Int), .slice none 0 0, .int .i64 0], hK3, hKb, row_nil _, rfl, rfl⟩, hR3, hR2, rfl⟩)
        ·
         refine at_skip <| Zx <| Zq <| Zg <| Zm Y <| Zm Y <| Zp Y rfl <| Zh 3 underlying68 rfl rfl sizeOf3 Y <| Ze (Zs sizeOf3 Y Y rfl) ?_
         rintro _ _ ⟨rfl, rfl⟩
         refine Z0 <| Zx <| Zq <| Zg <| Zm Y <| Zm Y <| Zp Y rfl <| Zh 4 underlying68 rfl rfl sizeOf43 Y <| Ze (Zs sizeOf43 Y Y rfl) ?_
         rintro _ _ ⟨rfl, rfl⟩
         refine Z0 <| Zn [10, 11, 14, 15] ?_
         refine Zx <| Zq <| Zq <| Zg <| Zm Y <| Zm Y ?_
         first | refine op_v (p_gtr_nat Y Y) ?_ | refine op_v (p_gtr Y Y) ?_
         refine Z0 <| Zx ?_
         first | refine at_if Y (fun hnm => ?_) (fun hnm => ?_) | refine at_if_bool Y (fun hnm => ?_) (fun hnm => ?_)
         ·
          rw [openS_two hx1 hx2 hm hn (by omega)]
          refine Zq <| Zg <| Zm Y <| Zp Y rfl <| Zh 2 underlying68 rfl rfl sizeOf3 Y <| Ze (Zs sizeOf3 Y Y rfl) ?_
          rintro _ _ ⟨rfl, rfl⟩
          refine Z0 <| Zx <| Zq <| Zg <| Zm Y <| Zm Y <| Zp Y rfl <| Zh 3 underlying68 rfl rfl sizeOf3 Y <| Ze (Zs sizeOf3 Y Y rfl) ?_
          rintro _ _ ⟨rfl, rfl⟩
          refine Z0 <| Zx <| Zg <| Zm Y <| Zm Y <| Zp Y rfl <| Zh 4 underlying68 rfl rfl sizeOf43 Y <| Ze (Zs sizeOf43 Y Y rfl) ?_
          rintro _ _ ⟨rfl, rfl⟩
          refine Z0 <| Zn [10] ?_
          refine Zx <| Zq <| at_join (s1 := [(ap, _)]) (s2 := sra) (by repeat (first | exact One.here _ _ | apply One.there)) (by repeat (first | exact One.here _ _ | apply One.there)) ?_
          refine at_join (s1 := [(bp, _)]) (s2 := srb) (by repeat (first | exact One.here _ _ | apply One.there)) (by repeat (first | exact One.here _ _ | apply One.there)) ?_
          refine Zg <| Zm Y <| Za Y <| Za Y <| Z0 <| Zx <| at_ret ?_
          refine nx_end2 rfl results24 Y Y (by first | exact ⟨.pointer (some ⟨sp, 0, none⟩), _, sw2, _, _, sda2, sdb2, rfl, ⟨sp, rfl, ap, bp, _, #[.pointer (some ⟨ap, 0, none⟩), .pointer (some ⟨bp, 0, none⟩), .int .i64 ((swI true : Nat) : Int), .int .i64 (n : Int), .slice gw2 (ib.map strV).length cw2, .int .i64 0], hKa, hKb, hw2, rfl, rfl⟩, hR1, hR2, rfl⟩ | exact ⟨.pointer (some ⟨sp, 0, none⟩), _, sw1, _, _, sda2, sdb2, rfl, ⟨sp, rfl, ap, bp, _, #[.pointer (some ⟨ap, 0, none⟩), .pointer (some ⟨bp, 0, none⟩), .int .i64 ((swI false : Nat) : Int), .int .i64 (m : Int), .slice gw1 (ia.map strV).length cw1, .int .i64 0], hKa, hKb, hw1, rfl, rfl⟩, hR1, hR2, rfl⟩)
         ·
          rw [openS_one hx1 hx2 hm hn (by omega)]
          refine at_skip <| Zx <| Zq <| at_join (s1 := [(ap, _)]) (s2 := sra) (by repeat (first | exact One.here _ _ | apply One.there)) (by repeat (first | exact One.here _ _ | apply One.there)) ?_
          refine at_join (s1 := [(bp, _)]) (s2 := srb) (by repeat (first | exact One.here _ _ | apply One.there)) (by repeat (first | exact One.here _ _ | apply One.there)) ?_
          refine Zg <| Zm Y <| Za Y <| Za Y <| Z0 <| Zx <| at_ret ?_
          refine nx_end2 rfl results24 Y Y (by first | exact ⟨.pointer (some ⟨sp, 0, none⟩), _, sw2, _, _, sda2, sdb2, rfl, ⟨sp, rfl, ap, bp, _, #[.pointer (some ⟨ap, 0, none⟩), .pointer (some ⟨bp, 0, none⟩), .int .i64 ((swI true : Nat) : Int), .int .i64 (n : Int), .slice gw2 (ib.map strV).length cw2, .int .i64 0], hKa, hKb, hw2, rfl, rfl⟩, hR1, hR2, rfl⟩ | exact ⟨.pointer (some ⟨sp, 0, none⟩), _, sw1, _, _, sda2, sdb2, rfl, ⟨sp, rfl, ap, bp, _, #[.pointer (some ⟨ap, 0, none⟩), .pointer (some ⟨bp, 0, none⟩), .int .i64 ((swI false : Nat) : Int), .int .i64 (m : Int), .slice gw1 (ia.map strV).length cw1, .int .i64 0], hKa, hKb, hw1, rfl, rfl⟩, hR1, hR2, rfl⟩)
       ·
        refine op_skip Y rfl <| op_skip Y rfl <| Zv (p_pick_f Y Y) <| Z0 <| Zx <| at_else Y <| at_skip <| Zx <| Zq <| Zg <| Zm Y <| Zm Y <| Zp Y rfl <| Zh 3 underlying68 rfl rfl sizeOf3 Y <| Ze (Zs sizeOf3 Y Y rfl) ?_
        rintro _ _ ⟨rfl, rfl⟩
        refine Z0 <| Zx <| Zq <| Zg <| Zm Y <| Zm Y <| Zp Y rfl <| Zh 4 underlying68 rfl rfl sizeOf43 Y <| Ze (Zs sizeOf43 Y Y rfl) ?_
        rintro _ _ ⟨rfl, rfl⟩
        refine Z0 <| Zn [10, 11, 14, 15] ?_
        refine Zx <| Zq <| Zq <| Zg <| Zm Y <| Zm Y ?_
        first | refine op_v (p_gtr_nat Y Y) ?_ | refine op_v (p_gtr Y Y) ?_
        refine Z0 <| Zx ?_
        first | refine at_if Y (fun hnm => ?_) (fun hnm => ?_) | refine at_if_bool Y (fun hnm => ?_) (fun hnm => ?_)
        ·
         rw [openS_two hx1 hx2 hm hn (by omega)]
         refine Zq <| Zg <| Zm Y <| Zp Y rfl <| Zh 2 underlying68 rfl rfl sizeOf3 Y <| Ze (Zs sizeOf3 Y Y rfl) ?_
         rintro _ _ ⟨rfl, rfl⟩
         refine Z0 <| Zx <| Zq <| Zg <| Zm Y <| Zm Y <| Zp Y rfl <| Zh 3 underlying68 rfl rfl sizeOf3 Y <| Ze (Zs sizeOf3 Y Y rfl) ?_
         rintro _ _ ⟨rfl, rfl⟩
         refine Z0 <| Zx <| Zg <| Zm Y <| Zm Y <| Zp Y rfl <| Zh 4 underlying68 rfl rfl sizeOf43 Y <| Ze (Zs sizeOf43 Y Y rfl) ?_
         rintro _ _ ⟨rfl, rfl⟩
         refine Z0 <| Zn [10] ?_
         refine Zx <| Zq <| at_join (s1 := [(ap, _)]) (s2 := sra) (by repeat (first | exact One.here _ _ | apply One.there)) (by repeat (first | exact One.here _ _ | apply One.there)) ?_
         refine at_join (s1 := [(bp, _)]) (s2 := srb) (by repeat (first | exact One.here _ _ | apply One.there)) (by repeat (first | exact One.here _ _ | apply One.there)) ?_
         refine Zg <| Zm Y <| Za Y <| Za Y <| Z0 <| Zx <| at_ret ?_
         refine nx_end2 rfl results24 Y Y (by first | exact ⟨.pointer (some ⟨sp, 0, none⟩), _, sw2, _, _, sda2, sdb2, rfl, ⟨sp, rfl, ap, bp, _, #[.pointer (some ⟨ap, 0, none⟩), .pointer (some ⟨bp, 0, none⟩), .int .i64 ((swI true : Nat) : Int), .int .i64 (n : Int), .slice gw2 (ib.map strV).length cw2, .int .i64 0], hKa, hKb, hw2, rfl, rfl⟩, hR1, hR2, rfl⟩ | exact ⟨.pointer (some ⟨sp, 0, none⟩), _, sw1, _, _, sda2, sdb2, rfl, ⟨sp, rfl, ap, bp, _, #[.pointer (some ⟨ap, 0, none⟩), .pointer (some ⟨bp, 0, none⟩), .int .i64 ((swI false : Nat) : Int), .int .i64 (m : Int), .slice gw1 (ia.map strV).length cw1, .int .i64 0], hKa, hKb, hw1, rfl, rfl⟩, hR1, hR2, rfl⟩)
        ·
         rw [openS_one hx1 hx2 hm hn (by omega)]
         refine at_skip <| Zx <| Zq <| at_join (s1 := [(ap, _)]) (s2 := sra) (by repeat (first | exact One.here _ _ | apply One.there)) (by repeat (first | exact One.here _ _ | apply One.there)) ?_
         refine at_join (s1 := [(bp, _)]) (s2 := srb) (by repeat (first | exact One.here _ _ | apply One.there)) (by repeat (first | exact One.here _ _ | apply One.there)) ?_
         refine Zg <| Zm Y <| Za Y <| Za Y <| Z0 <| Zx <| at_ret ?_
         refine nx_end2 rfl results24 Y Y (by first | exact ⟨.pointer (some ⟨sp, 0, none⟩), _, sw2, _, _, sda2, sdb2, rfl, ⟨sp, rfl, ap, bp, _, #[.pointer (some ⟨ap, 0, none⟩), .pointer (some ⟨bp, 0, none⟩), .int .i64 ((swI true : Nat) : Int), .int .i64 (n : Int), .slice gw2 (ib.map strV).length cw2, .int .i64 0], hKa, hKb, hw2, rfl, rfl⟩, hR1, hR2, rfl⟩ | exact ⟨.pointer (some ⟨sp, 0, none⟩), _, sw1, _, _, sda2, sdb2, rfl, ⟨sp, rfl, ap, bp, _, #[.pointer (some ⟨ap, 0, none⟩), .pointer (some ⟨bp, 0, none⟩), .int .i64 ((swI false : Nat) : Int), .int .i64 (m : Int), .slice gw1 (ia.map strV).length cw1, .int .i64 0], hKa, hKb, hw1, rfl, rfl⟩, hR1, hR2, rfl⟩)

end Go.Proofs.YthbadolcncojbaaGreatDoor
