/- SnapshotOpensMatchReference: journaled. -/
import Derived.Test.YthbadolcncojbaaGreatDoorEz
import Derived.Test.YthbadolcncojbaaGreatDoorRs5
import Derived.Test.YthbadolcncojbaaGreatDoorJm4
import Derived.Test.YthbadolcncojbaaGreatDoorMa2

namespace Go.Proofs.YthbadolcncojbaaGreatDoor
open Go.Proofs.Tryz
open Go Go.RowKit Gw
set_option linter.unusedVariables false
set_option maxRecDepth 100000
attribute [local irreducible] Gw.At Gw.Nx Gw.Ops
theorem wok_no2 (n : Nat) : Wok n 0 (DiskS.new n) none := ⟨by simp [DiskS.new], Nat.le_refl _, (by intro p hp; cases hp), fun j hj => by cases hj⟩
theorem new_two : ∃ c, (openS (DiskS.new 2000) (DiskS.new 2000)).2.1 = some c := by
  have ea := openJ_new 2000 (by decide)
  have hd := JD.append (JD.new 2000 (by decide)) [hdr 1] (by intro r hr; rw [List.mem_singleton.1 hr]; have := hdr_len 1 (by decide); omega)
  have hok : (JrS.append ⟨[], zero32, 0, false⟩ (DiskS.new 2000) [hdr 1]).1 = 0 := by
    rcases hd.2.2 with ⟨h1, _⟩ | ⟨_, h2, _⟩
    · have hx : (outL zero32 [hdr 1]).length ≤ 33 + 65545 := by
        have := recS_len zero32 (hdr 1) (by have := hdr_len 1 (by decide); omega)
        have := encS_len (hdr 1) (by have := hdr_len 1 (by decide); omega)
        simp only [outL, List.append_nil]; omega
      have h8 := hdr_len 1 (by decide)
      have h9 : (encS (hdr 1)).length ≤ 9 + 10 := by
        have := encI_len (hdr 1).length (by omega) (by omega)
        unfold encS; rw [List.length_append]; omega
      have h7 := recS_len zero32 (hdr 1) (by omega)
      have hv : (DiskS.new 2000).vi.length = 2000 := List.length_replicate
      rw [hv] at h1
      have e : outL zero32 [hdr 1] = recS zero32 (hdr 1) ++ [] := rfl
      have h6 : (0 : Nat) + (outL zero32 [hdr 1]).length ≤ 52 := by rw [e, List.append_nil, h7]; omega
      exact absurd h1 (by show ¬ 2000 < 0 + (outL zero32 [hdr 1]).length; omega)
    · exact h2
  have hx := openS_new (da := DiskS.new 2000) (db := DiskS.new 2000) (m := 0) (n := 0) (l := []) (o := []) (by rw [ea]) (by rw [ea]) rfl rfl rfl rfl (by rw [ea]; exact Classical.not_not.2 hok)
  exact ⟨_, by rw [hx]⟩
theorem few_sm2 (ls : List (List UInt8)) : (fewL ls).any isBig = false := by
  rw [List.any_eq_false]
  intro r hr
  unfold fewL at hr
  obtain ⟨x, _, rfl⟩ := List.mem_map.1 hr
  unfold isBig
  simp only [List.length_take, decide_eq_true_eq]
  omega

theorem journaled_spec {ls : List (List UInt8)} {v : Value} {M : List Chunk} (hls : StrsIn M v ls) (n : Int) (h1 : -9223372036854775808 ≤ n) (h2 : n ≤ 9223372036854775807) : Does Tryz.prog 20 #[v, .int .i64 n] [M] (fun r H' => ∃ x, r = .string (str x) ∧ x.length ≤ 2000 ∧ H' = [M]) := by
 have hml : maxLen = 9223372036854775807 := rfl
 have hpk := pickN_lt n 4 (by decide)
 obtain ⟨c0, hs0⟩ := new_two
 have hok0 := (open_ok (wok_no2 2000) (wok_no2 2000) (by decide) (by decide)).co c0 hs0
 have hfl := few_len ls
 have hfb := few_sm2 ls
 obtain ⟨pv, nv, cv, hvv⟩ : ∃ p n c, v = .slice p n c := by
   rcases hls with ⟨_, _, h, _⟩ | ⟨_, _, _, _, _, _, h, _⟩
   · exact ⟨_, _, _, h⟩
   · exact ⟨_, _, _, h⟩
 refine spec_enter func20 rfl ntmps20 rfl ?_
 intro u R
 refine Zb [0, 1] ?_
 refine Zq <| Zg <| Za Y <| Z0 <| Zx <| Zq <| Zg <| Zc [_] Y call19 Y rfl (rd_new 2000 (by decide) (by decide)) ?_
 rintro _ _ ⟨_, ⟨d, sdc0, rfl, hRc, rfl⟩, rfl⟩
 obtain ⟨csc, hcc⟩ := rd_cell hRc
 refine Zm Y <| Zd Y rfl <| Zd Y rfl <| Za Y <| Za Y <| Z0 <| Zx <| Zq <| Zg <| Zc [_] Y call19 Y rfl (rd_new 2000 (by decide) (by decide)) ?_
 rintro _ _ ⟨_, ⟨ep, sdd0, rfl, hRd, rfl⟩, rfl⟩
 obtain ⟨csd, hcd0⟩ := rd_cell hRd
 refine Zm Y <| Zd Y rfl <| Zd Y rfl <| Za Y <| Za Y <| Z0 <| Zn [0, 1, 5, 7] ?_
 refine Zx <| Zq ?_
 refine at_ne (s1 := sdc0) (s2 := sdd0) (by repeat (first | exact One.here _ _ | apply One.there)) (by repeat (first | exact One.here _ _ | apply One.there)) hcc hcd0 (fun hcd => ?_)
 refine Zg <| Zm Y <| Zm Y <| Zc [_, _] Y call24 Y rfl (rsopen_any d ep 2000 2000 0 (DiskS.new 2000) (DiskS.new 2000) none none sdc0 sdd0 hcd hRc hRd (wok_no2 2000) (wok_no2 2000) (by decide) (by decide) (by decide) (by decide)) ?_
 rintro _ _ ⟨_, ⟨w0, st0, su0, ska0, skb0, sdc1, sdd1, rfl, hK0, hRc1, hRd1, rfl⟩, rfl⟩
 rw [hs0] at hK0
 obtain ⟨sp, rfl, hK0⟩ := hK0
 obtain ⟨q, hq⟩ : ∃ q, q = openS (DiskS.new 2000) (DiskS.new 2000) := ⟨_, rfl⟩
 rw [← hq] at hok0 hRc1 hRd1
 refine Zm Y <| Zd Y rfl <| Zd Y rfl <| Za Y <| Za Y <| Z0 <| Zx <| Zq <| Zg <| Zm Y <| Zc [_] Y call37 Y rfl (few_mem hls) ?_
 rintro _ _ ⟨_, ⟨sf, hf, rfl⟩, rfl⟩
 refine Za Y <| Z0 <| Zx <| Zq <| Zq <| Zg <| Zm Y ?_
 first | (refine op_v (p_rem_nat (n := 5) Y Y ?_) ?_; (focus (omega))) | (refine op_v (p_rem Y Y ?_ rfl) ?_; (focus (omega)))
 first | refine op_v (p_eql_nat (n := 0) Y Y) ?_ | refine op_v (p_eql Y Y) ?_
 refine Z0 <| Zn [0, 1, 5, 7, 9, 30] ?_
 refine Zx ?_
 first | refine at_if Y (fun h50 => ?_) (fun h50 => ?_) | refine at_if_bool Y (fun h50 => ?_) (fun h50 => ?_)
 ·
  refine Zq <| Zg ?_
  refine Ze (w_makeSlice (by_ := 1) (l := 40) (c := 40) underlying36 (rfl : Tryz.prog.info? 5 = some Tryz.t5) rfl rfl rfl rfl Y Y ?_ ?_ ?_) ?_
  (focus (omega))
  (focus (omega))
  (focus (omega))
  rintro _ _ ⟨b1, rfl, rfl⟩
  refine Zo (by repeat (first | exact Has.here _ | apply Has.there)) (p_conv_bytes_str underlying36 underlying5 underlying9 Y (by exact (show (_ = List.map u8v (List.replicate 40 0)) ∧ _ from ⟨by simp [u8v], by simp⟩))) ?_
  refine Za Y <| Z0 <| Zx <| at_ret <| Zt ?_
  refine nx_end1 rfl results20 Y (by exact ⟨List.replicate 40 0, rfl, by simp, rfl⟩)
 ·
  refine at_skip <| Zx <| Zq <| Zq <| Zg <| Zm Y ?_
  first | (refine op_v (p_rem_nat (n := 5) Y Y ?_) ?_; (focus (omega))) | (refine op_v (p_rem Y Y ?_ rfl) ?_; (focus (omega)))
  first | refine op_v (p_eql_nat (n := 1) Y Y) ?_ | refine op_v (p_eql Y Y) ?_
  refine Z0 <| Zx ?_
  first | refine at_if Y (fun h51 => ?_) (fun h51 => ?_) | refine at_if_bool Y (fun h51 => ?_) (fun h51 => ?_)
  ·
   refine Zq ?_
   obtain ⟨ap, bp, v9, cs9, hKa, hKb, hrow9, hcs9, hst9⟩ := id hK0
   subst hcs9 hst9
   refine Zg <| Zm Y <| Zp Y rfl <| Zh 0 underlying68 rfl rfl sizeOf66 Y ?_
   first | (refine op_v (p_indexAddr_arr0 (j := 1) underlying66 sizeOf65 Y Y ?_) ?_; (focus (omega))) | (refine op_v (p_indexAddr_arr (j := 1) underlying66 sizeOf65 Y Y ?_) ?_; (focus (omega)))
   refine Zl isAgg65 Y ?_
   refine Zm Y <| Zc [_, _] Y call63 Y rfl (kr_app_any c0.jb q.2.2.2 bp ep skb0 sf sdd1 _ (fewL ls) hok0.wb (by decide) hKb hRd1 hf (by omega) (by omega) few_short) ?_
   rintro _ _ ⟨_, ⟨sk2, sd2, rfl, hK2, hR2, rfl⟩, rfl⟩
   have hwb2 := hok0.wb.append (fewL ls) few_short
   refine Z0 <| Zx <| Zq <| Zg <| Zm Y <| Zc [_] Y call64 Y rfl (rd_vis _ ep sd2 hR2 (by have := hwb2.pend; omega)) ?_
   rintro _ _ ⟨_, ⟨s4, hv4, rfl⟩, rfl⟩
   obtain ⟨g4, cap4, cur4, z4, rfl, rfl, hle4, hcm4, hcs4, htk4, hfr4⟩ := hv4.some (by rw [List.length_map]; have := hwb2.len; omega)
   refine Zo (by repeat (first | exact Has.here _ | apply Has.there)) (p_conv_bytes_str underlying36 underlying5 underlying9 Y (by exact ⟨htk4, by simp⟩)) ?_
   refine Za Y <| Z0 <| Zn [4] ?_
   refine Zx <| at_ret <| Zt ?_
   refine nx_end1 rfl results20 Y (by exact ⟨_, rfl, by have := hwb2.len; omega, rfl⟩)
  ·
   refine at_skip <| Zx <| Zq <| Zq <| Zg <| Za Y <| Z0 <| Zx <| at_block <| Zb [11, 0, 1, 5, 7, 9] ?_
   refine at_loopB (e0 := [(11, _)]) (H0 := _) (n := _) (fun m e H => ∃ (i : Nat) (c : Core) (da db : DiskS) (st su ska skb sdc sdd : List Chunk), m = 4 - i ∧ (i ≤ 4 ∧ CoOk 2000 2000 (3 * i + 2) c da db ∧ KtR c sp d ep st su ska skb ∧ RdR da d sdc ∧ RdR db ep sdd) ∧ e = [(11, .int .i64 (i : Int))] ∧ H = [st, su, ska, skb, sdc, sdd]) (by exact ⟨0, c0, _, _, st0, su0, ska0, skb0, sdc1, sdd1, rfl, ⟨Nat.zero_le _, hok0, hK0, hRc1, hRd1⟩, rfl, rfl⟩) (by repeat (first | exact Pull.nil _ | (apply Pull.cons; (focus (repeat (first | exact One.here _ _ | apply One.there)))))) ?_
   rintro _ _ _ ⟨i, c, da, db, st, su, ska, skb, sdc, sdd, rfl, ⟨hi, hok, hK, hRc, hRd⟩, rfl, rfl⟩
   refine Zq <| Zq <| Zg <| Zm Y <| Zm Y <| Zr [_, _] Y call33 Y rfl (pick_spec n 4 (by decide) (by decide) h1 h2) ?_
   rintro _ _ ⟨rfl, rfl⟩
   first | refine op_v (p_lss_nat Y Y) ?_ | refine op_v (p_lss Y Y) ?_
   refine Z0 <| Zx ?_
   first | refine at_if Y (fun hlt => ?_) (fun hlt => ?_) | refine at_if_bool Y (fun hlt => ?_) (fun hlt => ?_)
   ·
    refine at_skip <| Zx <| Zq <| at_block <| at_nil ?_
    refine Zg <| Zm Y <| Zc [_, _] Y call65 Y rfl (kt_cpt c sp d ep 2000 2000 (3 * i + 2) da db st su ska skb sdc sdd [] _ [] hok (by decide) (by decide) (by decide) (by decide) (by omega) hK hRc hRd (row_nil _) (by decide) rfl) ?_
    rintro _ _ ⟨_, ⟨st2, su2, ska2, skb2, sdc2, sdd2, rfl, hK2, hRc2, hRd2, rfl⟩, rfl⟩
    refine Z0 <| nx_block_normal <| Zx <| Zg <| Zm Y ?_
    first | (refine op_v (p_add_nat (n := 1) Y Y ?_) ?_; (focus (omega))) | (refine op_v (p_add Y Y (IntWalk.i64_in _ ?_)) ?_; (focus (omega)))
    refine Za Y <| Z0 <| Zn [11, 0, 1, 5, 7, 9] ?_
    refine nx_againB (e' := [(11, _)]) (m := _) (H' := _) (by exact ⟨i + 1, _, _, _, st2, su2, ska2, skb2, sdc2, sdd2, rfl, ⟨by omega, (hok.cpt (by decide) (by decide) []).more (by omega), hK2, hRc2, hRd2⟩, rfl, rfl⟩)
   ·
    refine at_exit <| Zt <| Zt <| nx_block_exit <| Zx <| Zq <| Zg <| Zm Y <| Zm Y <| Zc [_, _] Y call65 Y rfl (kt_cpt c sp d ep 2000 2000 (3 * i + 2) da db st su ska skb sdc sdd sf _ (fewL ls) hok (by decide) (by decide) (by decide) (by decide) (by omega) hK hRc hRd hf (by omega) hfb) ?_
    rintro _ _ ⟨_, ⟨st2, su2, ska2, skb2, sdc2, sdd2, rfl, hK2, hRc2, hRd2, rfl⟩, rfl⟩
    have hok2 := hok.cpt (by decide) (by decide) (fewL ls)
    obtain ⟨ap, bp, v9, cs9, hKa, hKb, hrow9, hcs9, hst9⟩ := id hK2
    subst hcs9 hst9
    refine Z0 <| Zx <| Zq <| Zq <| Zg <| Zm Y <| Zp Y rfl <| Zh 2 underlying68 rfl rfl sizeOf3 Y <| Zl isAgg3 Y ?_
    first | refine op_v (p_eql_nat (n := 1) Y Y) ?_ | refine op_v (p_eql Y Y) ?_
    refine Z0 <| Zx ?_
    first | refine at_if Y (fun hcur => ?_) (fun hcur => ?_) | refine at_if_bool Y (fun hcur => ?_) (fun hcur => ?_)
    ·
     refine Zq <| Zg <| Zm Y <| Zc [_] Y call64 Y rfl (rd_vis _ ep sdd2 hRd2 (by have := hok2.wb.pend; omega)) ?_
     rintro _ _ ⟨_, ⟨s5, hv5, rfl⟩, rfl⟩
     obtain ⟨g5, cap5, cur5, z5, rfl, rfl, hle5, hcm5, hcs5, htk5, hfr5⟩ := hv5.some (by rw [List.length_map]; have := hok2.wb.len; omega)
     refine Zo (by repeat (first | exact Has.here _ | apply Has.there)) (p_conv_bytes_str underlying36 underlying5 underlying9 Y (by exact ⟨htk5, by simp⟩)) ?_
     refine Za Y <| Z0 <| Zn [4] ?_
     refine Zx <| at_ret <| Zt ?_
     refine nx_end1 rfl results20 Y (by exact ⟨_, rfl, by have := hok2.wb.len; omega, rfl⟩)
    ·
     refine at_skip <| Zx <| Zq <| Zg <| Zm Y <| Zc [_] Y call64 Y rfl (rd_vis _ d sdc2 hRc2 (by have := hok2.wa.pend; omega)) ?_
     rintro _ _ ⟨_, ⟨s6, hv6, rfl⟩, rfl⟩
     obtain ⟨g6, cap6, cur6, z6, rfl, rfl, hle6, hcm6, hcs6, htk6, hfr6⟩ := hv6.some (by rw [List.length_map]; have := hok2.wa.len; omega)
     refine Zo (by repeat (first | exact Has.here _ | apply Has.there)) (p_conv_bytes_str underlying36 underlying5 underlying9 Y (by exact ⟨htk6, by simp⟩)) ?_
     refine Za Y <| Z0 <| Zn [4] ?_
     refine Zx <| at_ret ?_
     refine nx_end1 rfl results20 Y (by exact ⟨_, rfl, by have := hok2.wa.len; omega, rfl⟩)

end Go.Proofs.YthbadolcncojbaaGreatDoor
