/- The reference of layer 1: PutInt, Int, String. -/
import Derived.Test.YthbadolcncojbaaGreatDoorEz
import Derived.Test.YthbadolcncojbaaGreatDoorPl3
import Derived.Test.YthbadolcncojbaaGreatDoorLw3

namespace Go.Proofs.YthbadolcncojbaaGreatDoor
open Go.Proofs.Tryz
open Go Go.RowKit Gw
set_option linter.unusedVariables false
set_option maxRecDepth 100000
attribute [local irreducible] Gw.At Gw.Nx Gw.Ops
theorem zz_neg (m : Nat) (h : 0 < m) : zz (-(m : Int)) = 2 * m - 1 := by unfold zz; rw [if_pos (by omega)]; omega
theorem zz_uz (z : Nat) : zz (uz z) = z := by
  unfold uz
  by_cases h : z % 2 = 0
  · rw [if_pos h, zz_nat]; omega
  · rw [if_neg h]; unfold zz; rw [if_pos (by omega)]; omega
/-- The number of a list of groups. -/
def valB : List UInt8 → Nat
  | [] => 0
  | b :: t => b.toNat % 128 + 128 * valB t
theorem valB_append : ∀ (l : List UInt8) (b : UInt8), valB (l ++ [b]) = valB l + b.toNat % 128 * 2 ^ (7 * l.length)
  | [], b => by simp [valB]
  | a :: l, b => by
    have e : 2 ^ (7 * (l.length + 1)) = 128 * 2 ^ (7 * l.length) := by rw [show 7 * (l.length + 1) = 7 * l.length + 7 by omega, Nat.pow_add, Nat.mul_comm]
    simp only [List.cons_append, valB, List.length_cons]
    rw [valB_append l b, e, Nat.mul_add, Nat.mul_left_comm]; omega
theorem gb_more (b : UInt8) (h : 128 ≤ b.toNat) : gb (b.toNat % 128, false) = b := by
  have := u8_lt b
  unfold gb
  simp only [Bool.false_eq_true, if_false]
  rw [show b.toNat % 128 + 128 = b.toNat by omega, UInt8.ofNat_toNat]
theorem valB_pos : ∀ (l : List UInt8) (b : UInt8), b.toNat < 128 → b.toNat ≠ 0 → 1 ≤ valB (l ++ [b])
  | [], b, h, h0 => by simp only [List.nil_append, valB]; omega
  | a :: l, b, h, h0 => by have := valB_pos l b h h0; simp only [List.cons_append, valB]; omega
theorem enc_val : ∀ (l : List UInt8) (b : UInt8), (∀ x ∈ l, 128 ≤ x.toNat) → b.toNat < 128 → (l = [] ∨ b.toNat ≠ 0) → (grps (valB (l ++ [b]))).map gb = l ++ [b]
  | [], b, _, hb, _ => by
    simp only [List.nil_append, valB, Nat.mul_zero, Nat.add_zero]
    rw [Nat.mod_eq_of_lt hb, grps_eq, if_pos hb, decide_eq_true hb, Nat.mod_eq_of_lt hb]
    simp [gb]
  | a :: l, b, hl, hb, h0 => by
    have hb0 : b.toNat ≠ 0 := by rcases h0 with h | h; cases h; exact h
    have hv := valB_pos l b hb hb0
    have ha := hl a (by simp)
    have ih := enc_val l b (fun x hx => hl x (by simp [hx])) hb (.inr hb0)
    simp only [List.cons_append, valB]
    rw [grps_eq, if_neg (by omega), decide_eq_false (by omega)]
    rw [show (a.toNat % 128 + 128 * valB (l ++ [b])) % 128 = a.toNat % 128 by omega, show (a.toNat % 128 + 128 * valB (l ++ [b])) / 128 = valB (l ++ [b]) by omega]
    rw [List.map_cons, ih, gb_more a ha]
theorem enc_last (z : Nat) : ∀ l : List UInt8, (grps z).map gb = l ++ [0] → l = [] := by
  induction z using Nat.strongRecOn with
  | _ z ih =>
    intro l h
    rw [grps_eq] at h
    by_cases hz : z < 128
    · rw [if_pos hz] at h
      have := congrArg List.length h
      simp only [List.map_cons, List.map_nil, List.length_cons, List.length_nil, List.length_append] at this
      exact List.eq_nil_of_length_eq_zero (by omega)
    · rw [if_neg hz, List.map_cons] at h
      cases l with
      | nil => rfl
      | cons a l =>
        rw [List.cons_append] at h
        injection h with _ h
        have h1 := ih (z / 128) (by omega) l h
        subst h1
        rw [List.nil_append, grps_eq] at h
        by_cases hz2 : z / 128 < 128
        · rw [if_pos hz2, decide_eq_true hz2, Nat.mod_eq_of_lt hz2] at h
          simp only [List.map_cons, List.map_nil] at h
          injection h with h _
          have h2 := congrArg UInt8.toNat h
          unfold gb at h2
          simp only [if_true] at h2
          rw [UInt8.toNat_ofNat', Nat.mod_eq_of_lt (by omega)] at h2
          have h3 : (0 : UInt8).toNat = 0 := rfl
          omega
        · rw [if_neg hz2, grps_eq] at h
          have := congrArg List.length h
          simp at this
/-- What is written of a number, and whether it can be. -/
def putS (n : Int) : List UInt8 := if n < -4611686018427387903 then [] else encI n
def putE (n : Int) : Int := if n < -4611686018427387903 then 10 else 0

theorem rzig_neg (m : Nat) (h0 : 0 < m) (h2 : m ≤ 4611686018427387903) : DoesR Tryz.prog 156 #[.int .i64 (-(m : Int))] [] (.int .u64 ((zz (-(m : Int)) : Nat) : Int)) := by
 refine spec_enter func156 rfl ntmps156 rfl ?_
 intro u R
 refine Zb [0] ?_
 refine Zq <| Zg <| Za Y <| Z0 <| Zx <| Zq <| Zq <| Zg <| Zm Y ?_
 first | refine op_v (p_lss_nat (n := 0) Y Y) ?_ | refine op_v (p_lss Y Y) ?_
 refine Z0 <| Zx ?_
 first | refine at_if Y (fun hc1 => ?_) (fun hc1 => ?_) | refine at_if_bool Y (fun hc1 => ?_) (fun hc1 => ?_)
 ·
  refine Zq <| Zg <| Zm Y <| op_w (p_neg (c := (m : Int)) Y (by rw [IntKind.wrap_i64]; omega)) rfl rfl ?_
  first | (refine op_v (p_conv_nat_u64 underlying3 underlying223 Y ?_) ?_; (focus (omega))) | refine op_v (p_conv_int underlying3 underlying223 Y rfl) ?_
  first | (refine op_v (p_mul_nat_u64 (n := 2) Y Y ?_) ?_; (focus (omega))) | refine op_v (p_mul Y Y rfl) ?_
  first | (refine op_v (p_sub_nat_u64 (n := 1) Y Y ?_ ?_) ?_; (focus (omega)); (focus (omega))) | refine op_v (p_sub Y Y rfl) ?_
  refine Za Y <| Z0 <| Zx <| at_ret <| Zt ?_
  refine nx_end1 rfl results156 Y (by exact ⟨by rw [zz_neg m h0]; congr 1; omega, rfl⟩)
 ·
  exfalso; omega

theorem rzigZ (n : Int) (h1 : -4611686018427387903 ≤ n) (h2 : n ≤ 4611686018427387903) : DoesR Tryz.prog 156 #[.int .i64 n] [] (.int .u64 ((zz n : Nat) : Int)) := by
  by_cases h : n < 0
  · obtain ⟨m, rfl⟩ : ∃ m : Nat, n = -(m : Int) := ⟨n.natAbs, by omega⟩
    exact rzig_neg m (by omega) (by omega)
  · obtain ⟨m, rfl⟩ : ∃ m : Nat, n = (m : Int) := ⟨n.natAbs, by omega⟩
    exact rzig_spec m (by omega)

theorem rputIntZ (n : Int) (h1 : -4611686018427387903 ≤ n) (h2 : n ≤ 4611686018427387903) : DoesR Tryz.prog 125 #[.int .i64 n] [] (.tuple #[.string (str (encI n)), .int .i64 0]) := by
 have hml : maxLen = 9223372036854775807 := rfl
 have hzl := zz_lt n (by omega) (by omega)
 have hgl := encI_len n (by omega) (by omega)
 unfold encI at hgl
 rw [List.length_map] at hgl
 refine spec_enter func125 rfl ntmps125 rfl ?_
 intro u R
 refine Zb [0] ?_
 refine Zq <| Zg <| Za Y <| Za Y <| Z0 <| Zx <| Zq <| Zq <| Zg <| Zm Y <| Zv (p_lss Y Y) <| Zm Y ?_
 first | refine ops_split (t := 8) Y rfl (fun hc1 => ?_) (fun hc1 => ?_) | refine ops_split_bool (t := 8) Y rfl (fun hc1 => ?_) (fun hc1 => ?_)
 ·
  exfalso; omega
 ·
  refine Zf Y Y <| op_wg Y (p_gtr Y Y) rfl rfl ?_
  refine Zv (p_pick_f Y Y) <| Z0 <| Zx ?_
  first | refine at_if Y (fun hc2 => ?_) (fun hc2 => ?_) | refine at_if_bool Y (fun hc2 => ?_) (fun hc2 => ?_)
  ·
   exfalso; omega
  ·
   refine at_skip <| Zx <| Zq <| Zg <| Zm Y <| Zr [_] Y call156 Y rfl (rzigZ n h1 h2) ?_
   rintro _ _ ⟨rfl, rfl⟩
   refine Za Y <| Z0 <| Zx <| Zq <| Zg <| Za Y <| Z0 <| Zx <| Zq <| at_block <| at_nil ?_
   refine Zb [4, 5] ?_
   refine at_loopB (e0 := [(4, _), (5, _)]) (H0 := _) (n := _) (fun m e H => ∃ (pre : List (Nat × Bool)) (y : Nat) (v : Value) (sv : List Chunk), m = 0 + y ∧ (grps (zz n) = pre ++ grps y ∧ y < 9223372036854775808 ∧ Row 5 v ((pre.map gb).map u8v) sv) ∧ e = [(4, .int .u64 (y : Int)), (5, v)] ∧ H = [sv]) (by exact ⟨[], zz n, _, [], rfl, ⟨rfl, hzl, row_nil _⟩, rfl, rfl⟩) (by repeat (first | exact Pull.nil _ | (apply Pull.cons; (focus (repeat (first | exact One.here _ _ | apply One.there)))))) ?_
   rintro _ _ _ ⟨pre, y, v, sv, rfl, ⟨hsp, hy, hrv⟩, rfl, rfl⟩
   have hpl := congrArg List.length hsp
   rw [List.length_append, grps_eq y, List.length_cons] at hpl
   obtain ⟨gv, cv, rfl⟩ := hrv.form
   refine Zq <| Zq <| Zg <| Zm Y ?_
   first | refine op_v (p_geq_nat (n := 128) Y Y) ?_ | refine op_v (p_geq Y Y) ?_
   refine Z0 <| Zx ?_
   first | refine at_if Y (fun hge => ?_) (fun hge => ?_) | refine at_if_bool Y (fun hge => ?_) (fun hge => ?_)
   ·
    refine at_skip <| Zx <| at_block <| Zq <| Zg <| Zm Y <| Zm Y <| op_w (p_rem (m := (y : Int)) (n := 128) (c := ((y % 128 : Nat) : Int)) Y Y (by decide) (by rw [Int.tmod_eq_emod_of_nonneg (by omega)]; rfl)) rfl rfl ?_
    first | (refine op_v (p_add_nat_u64 (n := 128) Y Y ?_) ?_; (focus (omega))) | refine op_v (p_add Y Y rfl) ?_
    first | refine op_v (p_conv_u64_u8 underlying223 underlying5 Y) ?_ | (refine op_v (p_conv_nat_u8 underlying223 underlying5 Y ?_) ?_; (focus (omega))) | (refine op_v (p_conv_int underlying223 underlying5 Y (IntWalk.u8_in _ ?_)) ?_; (focus (omega)))
    refine Ze (w_buildSlice (vs := [_]) (cs := [_]) underlying36 sizeOf5 zeroValue5 Y rfl rfl rfl rfl rfl) ?_
    rintro _ _ ⟨b1, rfl, rfl⟩
    refine Ze (w_append (by_ := 1) (news := [_]) underlying36 (rfl : Tryz.prog.info? 5 = some Tryz.t5) rfl rfl rfl rfl Y hrv Y (by repeat (first | exact One.here _ _ | apply One.there)) (by repeat (first | exact Has.here _ | apply Has.there)) (by rfl) rfl (by simp [Value.oneCell']) (by decide) (by (simp only [List.length_map]; omega)) (by (simp only [List.length_map]; omega))) ?_
    rintro _ _ ⟨sq, hrq, rfl⟩
    obtain ⟨gq, cq, rfl⟩ := hrq.form
    refine Za Y <| Z0 <| Zx <| Zg <| Zm Y <| op_w (p_quo (m := (y : Int)) (n := 128) (c := ((y / 128 : Nat) : Int)) Y Y (by decide) (by rw [Int.tdiv_eq_ediv_of_nonneg (by omega), IntKind.wrap_u64]; omega)) rfl rfl ?_
    refine Za Y <| Z0 <| Zn [4, 5] ?_
    refine nx_block_normal <| Zn [4, 5] ?_
    refine nx_againB (e' := [(4, _), (5, _)]) (m := _) (H' := _) (by
          exact ⟨pre ++ [(y % 128, false)], y / 128, _, _, rfl, ⟨by rw [hsp, grps_eq y, if_neg (by omega), decide_eq_false (by omega)]; simp, by omega, by
            have hgv := gb_val (y % 128, false) (Nat.mod_lt _ (by decide))
            rw [List.map_append, List.map_append, List.map_singleton, List.map_singleton, hgv]; exact hrq⟩, rfl, rfl⟩)
   ·
    have hfin : (grps (zz n)).map gb = pre.map gb ++ [gb (y, true)] := by rw [hsp, grps_eq y, if_pos (by omega), decide_eq_true (by omega), Nat.mod_eq_of_lt (by omega)]; simp
    have hgv := gb_val (y, true) (by show y < 128; omega)
    refine at_exit <| Zt <| Zt <| nx_block_exit <| Zx <| Zq <| Zg <| Zm Y <| Zm Y ?_
    first | refine op_v (p_conv_u64_u8 underlying223 underlying5 Y) ?_ | (refine op_v (p_conv_nat_u8 underlying223 underlying5 Y ?_) ?_; (focus (omega))) | (refine op_v (p_conv_int underlying223 underlying5 Y (IntWalk.u8_in _ ?_)) ?_; (focus (omega)))
    refine Ze (w_buildSlice (vs := [_]) (cs := [_]) underlying36 sizeOf5 zeroValue5 Y rfl rfl rfl rfl rfl) ?_
    rintro _ _ ⟨b3, rfl, rfl⟩
    refine Ze (w_append (by_ := 1) (news := [_]) underlying36 (rfl : Tryz.prog.info? 5 = some Tryz.t5) rfl rfl rfl rfl Y hrv Y (by repeat (first | exact One.here _ _ | apply One.there)) (by repeat (first | exact Has.here _ | apply Has.there)) (by rfl) rfl (by simp [Value.oneCell']) (by decide) (by (simp only [List.length_map]; omega)) (by (simp only [List.length_map]; omega))) ?_
    rintro _ _ ⟨sw, hrw, rfl⟩
    obtain ⟨gw, cw, rfl⟩ := hrw.form
    have e9 : List.map u8v (List.map gb pre) ++ [Value.int .u8 (y : Int)] = (encI n).map u8v := by
      unfold encI; rw [hfin, List.map_append, List.map_singleton, hgv]; rfl
    rw [e9] at hrw ⊢
    obtain ⟨g9, c9, cur9, z9, hv9, rfl, hle9, hcm9, hcs9, htk9, hfr9⟩ := hrw.some (by rw [List.length_map]; exact encI_pos _)
    rw [hv9]
    refine Zo (by repeat (first | exact Has.here _ | apply Has.there)) (p_conv_bytes_str underlying36 underlying5 underlying9 Y (by exact ⟨htk9, by simp⟩)) ?_
    refine Za Y <| Za Y <| Z0 <| Zx <| at_ret ?_
    refine nx_end2 rfl results125 Y Y (by exact ⟨rfl, rfl⟩)

theorem rput_bad (n : Int) (h1 : n < -4611686018427387903) (h2 : -9223372036854775808 ≤ n) : DoesR Tryz.prog 125 #[.int .i64 n] [] (.tuple #[.string (str []), .int .i64 10]) := by
 refine spec_enter func125 rfl ntmps125 rfl ?_
 intro u R
 refine Zb [0] ?_
 refine Zq <| Zg <| Za Y <| Za Y <| Z0 <| Zx <| Zq <| Zq <| Zg <| Zm Y <| Zv (p_lss Y Y) <| Zm Y ?_
 first | refine ops_split (t := 8) Y rfl (fun hc1 => ?_) (fun hc1 => ?_) | refine ops_split_bool (t := 8) Y rfl (fun hc1 => ?_) (fun hc1 => ?_)
 ·
  refine op_skip Y rfl <| op_skip Y rfl <| Zv (p_pick_t Y Y) <| Z0 <| Zx <| at_then Y <| Zq <| Zg <| Za Y <| Za Y <| Z0 <| Zx <| at_ret <| Zt ?_
  refine nx_end2 rfl results125 Y Y (by exact ⟨rfl, rfl⟩)
 ·
  exfalso; omega

theorem rput_any (n : Int) (h1 : -4611686018427387904 ≤ n) (h2 : n ≤ 4611686018427387903) : DoesR Tryz.prog 125 #[.int .i64 n] [] (.tuple #[.string (str (putS n)), .int .i64 (putE n)]) := by
  unfold putS putE
  by_cases h : n < -4611686018427387903
  · rw [if_pos h, if_pos h]; exact rput_bad n h (by omega)
  · rw [if_neg h, if_neg h]; exact rputIntZ n (by omega) h2
theorem take_more (s : List UInt8) (a i : Nat) (b : UInt8) (h : s[a + i]? = some b) : (s.drop a).take (i + 1) = (s.drop a).take i ++ [b] := by
  rw [List.take_add_one, List.getElem?_drop, h]; rfl
theorem dec_two (s : List UInt8) (a i : Nat) (b : UInt8) (hg : s[a + i]? = some b) (hlo : b.toNat < 128) (hall : ∀ x ∈ (s.drop a).take i, 128 ≤ x.toNat) {z : Nat} (hz : z = valB ((s.drop a).take (i + 1))) :
    (putE (uz z) ≠ 0 ∨ str (putS (uz z)) ≠ str ((s.drop a).take (i + 1))) ↔ ((b.toNat = 0 ∧ 0 < i) ∨ uz z < -4611686018427387903) := by
  have hlt := (List.getElem?_eq_some_iff.1 hg).1
  have hti : ((s.drop a).take i).length = i := by rw [List.length_take, List.length_drop]; omega
  rw [take_more s a i b hg] at hz ⊢
  unfold putE putS
  by_cases hbad : uz z < -4611686018427387903
  · rw [if_pos hbad, if_pos hbad]
    exact ⟨fun _ => .inr hbad, fun _ => .inl (by decide)⟩
  rw [if_neg hbad, if_neg hbad]
  have e : encI (uz z) = (grps z).map gb := by unfold encI; rw [zz_uz]
  rw [e]
  constructor
  · rintro (h | h)
    · exact absurd rfl h
    · left
      rcases Decidable.em (b.toNat = 0 ∧ 0 < i) with h2 | h2
      · exact h2
      · refine absurd ?_ h
        rw [hz, enc_val _ _ hall hlo]
        rcases Nat.eq_zero_or_pos i with h3 | h3
        · exact .inl (List.eq_nil_of_length_eq_zero (by omega))
        · exact .inr (fun h4 => h2 ⟨h4, h3⟩)
  · rintro (⟨h0, hi⟩ | h)
    · refine .inr (fun h => ?_)
      have h4 : (grps z).map gb = (s.drop a).take i ++ [b] := by
        have := congrArg (fun t : ByteArray => t.data.toList) h
        simpa [str] using this
      have hb : b = 0 := UInt8.toNat_inj.1 h0
      rw [hb] at h4
      have h5 := congrArg List.length (enc_last z _ h4)
      rw [hti, List.length_nil] at h5
      omega
    · exact absurd h hbad

theorem rint_spec (s : List UInt8) (a : Nat) (ha : a ≤ s.length) (hs : s.length ≤ 1099511627776) : DoesR Tryz.prog 124 #[.string (str s), .int .i64 (a : Int)] [] (intV (decI s a)) := by
 have hss := str_size s
 refine spec_enter func124 rfl ntmps124 rfl ?_
 intro u R
 refine Zb [0, 1] ?_
 refine Zq <| Zg <| Za Y <| Za Y <| Za Y <| Z0 <| Zx <| Zq <| Zq <| Zg <| Zm Y ?_
 first | refine op_v (p_lss_nat (n := 0) Y Y) ?_ | refine op_v (p_lss Y Y) ?_
 refine Zm Y ?_
 first | refine ops_split (t := 15) Y rfl (fun hc1 => ?_) (fun hc1 => ?_) | refine ops_split_bool (t := 15) Y rfl (fun hc1 => ?_) (fun hc1 => ?_)
 ·
  exfalso; omega
 ·
  refine Zf Y Y <| Zf Y Y <| op_wg Y (p_len_str underlying9 Y) rfl rfl ?_
  first | refine op_wg Y (p_gtr_nat Y Y) rfl rfl ?_ | refine op_wg Y (p_gtr Y Y) rfl rfl ?_
  refine Zv (p_pick_f Y Y) <| Z0 <| Zx ?_
  first | refine at_if Y (fun hc2 => ?_) (fun hc2 => ?_) | refine at_if_bool Y (fun hc2 => ?_) (fun hc2 => ?_)
  ·
   exfalso; omega
  ·
   refine at_skip <| Zx <| Zq <| Zg <| Za Y <| Z0 <| Zx <| Zq <| Zq <| Zg <| Za Y <| Z0 <| Zn [0, 1, 7, 8] ?_
   refine Zx <| at_block <| Zb [7, 8, 0, 1] ?_
   refine at_loopB (e0 := [(7, _), (8, _)]) (H0 := _) (n := _) (fun m e H => ∃ (i z : Nat), m = 9 - i ∧ (i ≤ 9 ∧ z < 2 ^ (7 * i) ∧ decG s a i z (9 - i) = decI s a ∧ z = valB ((s.drop a).take i) ∧ (∀ x ∈ (s.drop a).take i, 128 ≤ x.toNat)) ∧ e = [(7, .int .u64 (z : Int)), (8, .int .i64 (i : Int))] ∧ H = []) (by exact ⟨0, 0, rfl, ⟨Nat.zero_le _, by decide, rfl, rfl, by simp⟩, rfl, rfl⟩) (by repeat (first | exact Pull.nil _ | (apply Pull.cons; (focus (repeat (first | exact One.here _ _ | apply One.there)))))) ?_
   rintro _ _ _ ⟨i, z, rfl, ⟨hi, hz, hinv, hzv, hall⟩, rfl, rfl⟩
   refine Zq <| Zq <| Zg <| Zm Y ?_
   first | refine op_v (p_lss_nat (n := 9) Y Y) ?_ | refine op_v (p_lss Y Y) ?_
   refine Zm Y ?_
   first | refine ops_split (t := 23) Y rfl (fun hi9 => ?_) (fun hi9 => ?_) | refine ops_split_bool (t := 23) Y rfl (fun hi9 => ?_) (fun hi9 => ?_)
   ·
    refine Zf Y Y <| Zf Y Y ?_
    first | (refine op_wg Y (p_add_nat Y Y ?_) rfl rfl ?_; (focus (omega))) | (refine op_wg Y (p_add Y Y (IntWalk.i64_in _ ?_)) rfl rfl ?_; (focus (omega)))
    refine Zf Y Y <| op_wg Y (p_len_str underlying9 Y) rfl rfl ?_
    first | refine op_wg Y (p_lss_nat Y Y) rfl rfl ?_ | refine op_wg Y (p_lss Y Y) rfl rfl ?_
    refine Zv (p_pick_t Y Y) <| Z0 <| Zx ?_
    first | refine at_if Y (fun hlt => ?_) (fun hlt => ?_) | refine at_if_bool Y (fun hlt => ?_) (fun hlt => ?_)
    ·
     refine at_skip <| Zx <| Zq <| at_block <| Zq ?_
     have hg := byte_get s (a + i) (by omega)
     obtain ⟨b, hb⟩ : ∃ b, b = byteAt (str s) (a + i) := ⟨_, rfl⟩
     rw [← hb] at hg
     have hbl := u8_lt b
     have hstep := decG_step s a i z (by omega) hg hinv
     obtain ⟨x, hx⟩ : ∃ x, x = b.toNat % 128 := ⟨_, rfl⟩
     rw [← hx] at hstep
     have hx7 : x < 128 := by omega
     have hz7 := up7 z x i hz hx7
     have hsl := shl7 x i hx7 (by omega)
     obtain ⟨z2, hz2⟩ : ∃ z2, z2 = z + x * 2 ^ (7 * i) := ⟨_, rfl⟩
     rw [← hz2] at hstep hz7
     have hz63 := top7 z2 i (by omega) hz7
     have hti : ((s.drop a).take i).length = i := by rw [List.length_take, List.length_drop]; omega
     have hz2v : z2 = valB ((s.drop a).take (i + 1)) := by rw [take_more s a i b hg, valB_append, ← hzv, hti, hz2, hx]
     refine Zg <| Zm Y <| Zm Y <| Zm Y ?_
     first | (refine op_v (p_add_nat Y Y ?_) ?_; (focus (omega))) | (refine op_v (p_add Y Y (IntWalk.i64_in _ ?_)) ?_; (focus (omega)))
     (refine op_v (p_index_str underlying9 Y Y (byteAt_get _ _ ?_)) ?_; (focus (omega)))
     first | refine op_v (p_conv_u8_u64 underlying5 underlying223 Y) ?_ | (refine op_v (p_conv_nat_u64 underlying5 underlying223 Y ?_) ?_; (focus (have h9 := u8_lt (byteAt (str s) (a + i)); omega))) | refine op_v (p_conv_int underlying5 underlying223 Y rfl) ?_
     refine Za Y <| Z0 <| Zn [0, 1, 7, 8, 9] ?_
     refine Zx <| Zq ?_
     rw [← hb]
     refine Zg <| Zm Y <| Zm Y <| op_w (p_rem (m := (b.toNat : Int)) (n := 128) (c := (x : Int)) Y Y (by decide) (by rw [hx, Int.tmod_eq_emod_of_nonneg (by omega)]; omega)) rfl rfl ?_
     refine Zm Y ?_
     first | (refine op_v (p_mul_nat (m := 7) Y Y ?_) ?_; (focus (omega))) | (refine op_v (p_mul Y Y (IntWalk.i64_in _ ?_)) ?_; (focus (omega)))
     first | (refine op_v (p_shl_nat_u64 Y Y ?_ ?_) ?_; (focus (omega)); (focus (exact hsl))) | (refine op_v (p_shl Y Y ?_ ?_ rfl) ?_; (focus (first | decide | omega | (simp [IntKind.bits]; done) | (simp [IntKind.bits]; omega))); (focus (first | decide | omega | (simp [IntKind.bits]; done) | (simp [IntKind.bits]; omega))))
     first | (refine op_v (p_add_nat_u64 Y Y ?_) ?_; (focus (rw [← hz2]; omega))) | refine op_v (p_add Y Y rfl) ?_
     refine Za Y <| Z0 <| Zx <| Zq <| Zq ?_
     rw [← hz2]
     refine Zg <| Zm Y ?_
     first | refine op_v (p_geq_nat (n := 128) Y Y) ?_ | refine op_v (p_geq Y Y) ?_
     refine Z0 <| Zx ?_
     first | refine at_if Y (fun hhi => ?_) (fun hhi => ?_) | refine at_if_bool Y (fun hhi => ?_) (fun hhi => ?_)
     ·
      refine at_exit <| Zt <| nx_block_exit <| Zx <| Zg <| Zm Y ?_
      first | (refine op_v (p_add_nat (n := 1) Y Y ?_) ?_; (focus (omega))) | (refine op_v (p_add Y Y (IntWalk.i64_in _ ?_)) ?_; (focus (omega)))
      refine Za Y <| Z0 <| Zn [7, 8, 0, 1] ?_
      refine nx_againB (e' := [(7, _), (8, _)]) (m := _) (H' := _) (by
            exact ⟨i + 1, z2, rfl, ⟨by omega, hz7, by rw [if_pos (by omega)] at hstep; exact hstep, hz2v, by
              rw [take_more s a i b hg]; intro x hx; rcases List.mem_append.1 hx with h | h
              · exact hall x h
              · rw [List.mem_singleton.1 h]; omega⟩, rfl, rfl⟩)
     ·
      refine at_skip <| Zx <| Zq <| Zg <| Zm Y <| op_w (p_quo (m := (z2 : Int)) (n := 2) (c := ((z2 / 2 : Nat) : Int)) Y Y (by decide) (by rw [Int.tdiv_eq_ediv_of_nonneg (by omega), IntKind.wrap_u64]; omega)) rfl rfl ?_
      first | (refine op_v (p_conv_nat_i64 underlying223 underlying3 Y ?_) ?_; (focus (omega))) | (refine op_v (p_conv_int underlying223 underlying3 Y (IntWalk.i64_in _ ?_)) ?_; (focus (omega)))
      refine Za Y <| Z0 <| Zn [0, 1, 7, 8, 10] ?_
      refine Zx <| Zq <| Zq <| Zg <| Zm Y <| op_w (p_rem (m := (z2 : Int)) (n := 2) (c := ((z2 % 2 : Nat) : Int)) Y Y (by decide) (by rw [Int.tmod_eq_emod_of_nonneg (by omega)]; omega)) rfl rfl ?_
      first | refine op_v (p_eql_nat (n := 1) Y Y) ?_ | refine op_v (p_eql Y Y) ?_
      refine Z0 <| Zx ?_
      first | refine at_if Y (fun hc3 => ?_) (fun hc3 => ?_) | refine at_if_bool Y (fun hc3 => ?_) (fun hc3 => ?_)
      ·
       refine Zg <| Zm Y ?_
       (refine op_v (p_neg Y (IntWalk.i64_in _ ?_)) ?_; (focus (omega)))
       first | (refine op_v (p_sub_nat (n := 1) Y Y ?_ ?_) ?_; (focus (omega)); (focus (omega))) | (refine op_v (p_sub Y Y (IntWalk.i64_in _ ?_)) ?_; (focus (omega)))
       refine Za Y <| Z0 <| Zx <| Zq ?_
       have hub : -4611686018427387904 ≤ uz z2 ∧ uz z2 ≤ 4611686018427387903 := by unfold uz; split <;> omega
       first | rw [show (0 - ((z2 / 2 : Nat) : Int) - 1) = uz z2 from by unfold uz; rw [if_neg (by omega)]; omega] | rw [show ((z2 / 2 : Nat) : Int) = uz z2 from by unfold uz; rw [if_pos (by omega)]]
       obtain ⟨n, hn⟩ : ∃ n, n = uz z2 := ⟨_, rfl⟩
       have hdt := dec_two s a i b hg (by omega) hall hz2v
       rw [← hn] at hub hdt hstep ⊢
       have hex : (str s).extract a (a + i + 1) = str ((s.drop a).take (i + 1)) := extract_str s a (i + 1)
       refine Zg <| Zm Y <| Zr [_] Y call125 Y rfl (rput_any n hub.1 hub.2) ?_
       rintro _ _ ⟨rfl, rfl⟩
       refine Zm Y <| Zd Y rfl <| Zd Y rfl <| Za Y <| Za Y <| Z0 <| Zn [0, 1, 8, 10, 11, 12] ?_
       refine Zx <| Zq <| Zq <| Zg <| Zm Y ?_
       first | refine op_v (p_neq_nat (n := 0) Y Y) ?_ | refine op_v (p_neq Y Y) ?_
       refine Zm Y ?_
       first | refine ops_split (t := 64) Y rfl (fun he1 => ?_) (fun he1 => ?_) | refine ops_split_bool (t := 64) Y rfl (fun he1 => ?_) (fun he1 => ?_)
       ·
        refine op_skip Y rfl <| op_skip Y rfl <| op_skip Y rfl <| op_skip Y rfl <| op_skip Y rfl <| op_skip Y rfl <| op_skip Y rfl <| op_skip Y rfl <| op_skip Y rfl <| Zv (p_pick_t Y Y) <| Z0 <| Zn [1, 8, 10, 74] ?_
        refine Zx <| at_then Y <| Zq <| Zg <| Za Y <| Za Y <| Za Y <| Z0 <| Zx <| at_ret <| Zt <| nx_block_ret <| Zt <| Zt <| nx_block_ret <| Zt ?_
        refine nx_end3 rfl results124 Y Y Y (by
              have hbad := hdt.1 (by first | exact .inl he1 | exact .inr (by rw [← hex]; exact hne))
              rw [if_neg (by omega), if_pos hbad] at hstep
              exact ⟨by rw [← hstep]; rfl, rfl⟩)
       ·
        refine Zf Y Y <| Zf Y Y <| Zf Y Y <| Zf Y Y <| Zf Y Y ?_
        first | (refine op_wg Y (p_add_nat Y Y ?_) rfl rfl ?_; (focus (omega))) | (refine op_wg Y (p_add Y Y (IntWalk.i64_in _ ?_)) rfl rfl ?_; (focus (omega)))
        first | (refine op_wg Y (p_add_nat (n := 1) Y Y ?_) rfl rfl ?_; (focus (omega))) | (refine op_wg Y (p_add Y Y (IntWalk.i64_in _ ?_)) rfl rfl ?_; (focus (omega)))
        (refine op_wg Y (p_slice_str underlying9 Y Y Y ?_ ?_) rfl rfl ?_; (focus (omega)); (focus (omega)))
        refine op_wg Y (p_neq_str Y Y) rfl rfl ?_
        refine Zv (p_pick_f Y Y) <| Z0 <| Zn [1, 8, 10, 74] ?_
        refine Zx ?_
        first | refine at_if Y (fun hne => ?_) (fun hne => ?_) | refine at_if_bool Y (fun hne => ?_) (fun hne => ?_)
        ·
         refine Zq <| Zg <| Za Y <| Za Y <| Za Y <| Z0 <| Zx <| at_ret <| Zt <| nx_block_ret <| Zt <| Zt <| nx_block_ret <| Zt ?_
         refine nx_end3 rfl results124 Y Y Y (by
               have hbad := hdt.1 (by first | exact .inl he1 | exact .inr (by rw [← hex]; exact hne))
               rw [if_neg (by omega), if_pos hbad] at hstep
               exact ⟨by rw [← hstep]; rfl, rfl⟩)
        ·
         refine at_skip <| Zx <| Zq <| Zg <| Zm Y <| Zm Y <| Zm Y ?_
         first | (refine op_v (p_add_nat Y Y ?_) ?_; (focus (omega))) | (refine op_v (p_add Y Y (IntWalk.i64_in _ ?_)) ?_; (focus (omega)))
         first | (refine op_v (p_add_nat (n := 1) Y Y ?_) ?_; (focus (omega))) | (refine op_v (p_add Y Y (IntWalk.i64_in _ ?_)) ?_; (focus (omega)))
         refine Za Y <| Za Y <| Za Y <| Z0 <| Zx <| at_ret <| nx_block_ret <| Zt <| Zt <| nx_block_ret <| Zt ?_
         refine nx_end3 rfl results124 Y Y Y (by
               rw [if_neg (by omega), if_neg (fun h => by rcases hdt.2 h with h1 | h1; exact he1 h1; exact hne (by rw [hex]; exact h1))] at hstep
               exact ⟨by rw [← hstep]; rfl, rfl⟩)
      ·
       refine at_skip <| Zx <| Zq ?_
       have hub : -4611686018427387904 ≤ uz z2 ∧ uz z2 ≤ 4611686018427387903 := by unfold uz; split <;> omega
       first | rw [show (0 - ((z2 / 2 : Nat) : Int) - 1) = uz z2 from by unfold uz; rw [if_neg (by omega)]; omega] | rw [show ((z2 / 2 : Nat) : Int) = uz z2 from by unfold uz; rw [if_pos (by omega)]]
       obtain ⟨n, hn⟩ : ∃ n, n = uz z2 := ⟨_, rfl⟩
       have hdt := dec_two s a i b hg (by omega) hall hz2v
       rw [← hn] at hub hdt hstep ⊢
       have hex : (str s).extract a (a + i + 1) = str ((s.drop a).take (i + 1)) := extract_str s a (i + 1)
       refine Zg <| Zm Y <| Zr [_] Y call125 Y rfl (rput_any n hub.1 hub.2) ?_
       rintro _ _ ⟨rfl, rfl⟩
       refine Zm Y <| Zd Y rfl <| Zd Y rfl <| Za Y <| Za Y <| Z0 <| Zx <| Zq <| Zq <| Zg <| Zm Y ?_
       first | refine op_v (p_neq_nat (n := 0) Y Y) ?_ | refine op_v (p_neq Y Y) ?_
       refine Zm Y ?_
       first | refine ops_split (t := 64) Y rfl (fun he1 => ?_) (fun he1 => ?_) | refine ops_split_bool (t := 64) Y rfl (fun he1 => ?_) (fun he1 => ?_)
       ·
        refine op_skip Y rfl <| op_skip Y rfl <| op_skip Y rfl <| op_skip Y rfl <| op_skip Y rfl <| op_skip Y rfl <| op_skip Y rfl <| op_skip Y rfl <| op_skip Y rfl <| Zv (p_pick_t Y Y) <| Z0 <| Zn [1, 8, 10, 74] ?_
        refine Zx <| at_then Y <| Zq <| Zg <| Za Y <| Za Y <| Za Y <| Z0 <| Zx <| at_ret <| Zt <| nx_block_ret <| Zt <| Zt <| nx_block_ret <| Zt ?_
        refine nx_end3 rfl results124 Y Y Y (by
              have hbad := hdt.1 (by first | exact .inl he1 | exact .inr (by rw [← hex]; exact hne))
              rw [if_neg (by omega), if_pos hbad] at hstep
              exact ⟨by rw [← hstep]; rfl, rfl⟩)
       ·
        refine Zf Y Y <| Zf Y Y <| Zf Y Y <| Zf Y Y <| Zf Y Y ?_
        first | (refine op_wg Y (p_add_nat Y Y ?_) rfl rfl ?_; (focus (omega))) | (refine op_wg Y (p_add Y Y (IntWalk.i64_in _ ?_)) rfl rfl ?_; (focus (omega)))
        first | (refine op_wg Y (p_add_nat (n := 1) Y Y ?_) rfl rfl ?_; (focus (omega))) | (refine op_wg Y (p_add Y Y (IntWalk.i64_in _ ?_)) rfl rfl ?_; (focus (omega)))
        (refine op_wg Y (p_slice_str underlying9 Y Y Y ?_ ?_) rfl rfl ?_; (focus (omega)); (focus (omega)))
        refine op_wg Y (p_neq_str Y Y) rfl rfl ?_
        refine Zv (p_pick_f Y Y) <| Z0 <| Zn [1, 8, 10, 74] ?_
        refine Zx ?_
        first | refine at_if Y (fun hne => ?_) (fun hne => ?_) | refine at_if_bool Y (fun hne => ?_) (fun hne => ?_)
        ·
         refine Zq <| Zg <| Za Y <| Za Y <| Za Y <| Z0 <| Zx <| at_ret <| Zt <| nx_block_ret <| Zt <| Zt <| nx_block_ret <| Zt ?_
         refine nx_end3 rfl results124 Y Y Y (by
               have hbad := hdt.1 (by first | exact .inl he1 | exact .inr (by rw [← hex]; exact hne))
               rw [if_neg (by omega), if_pos hbad] at hstep
               exact ⟨by rw [← hstep]; rfl, rfl⟩)
        ·
         refine at_skip <| Zx <| Zq <| Zg <| Zm Y <| Zm Y <| Zm Y ?_
         first | (refine op_v (p_add_nat Y Y ?_) ?_; (focus (omega))) | (refine op_v (p_add Y Y (IntWalk.i64_in _ ?_)) ?_; (focus (omega)))
         first | (refine op_v (p_add_nat (n := 1) Y Y ?_) ?_; (focus (omega))) | (refine op_v (p_add Y Y (IntWalk.i64_in _ ?_)) ?_; (focus (omega)))
         refine Za Y <| Za Y <| Za Y <| Z0 <| Zx <| at_ret <| nx_block_ret <| Zt <| Zt <| nx_block_ret <| Zt ?_
         refine nx_end3 rfl results124 Y Y Y (by
               rw [if_neg (by omega), if_neg (fun h => by rcases hdt.2 h with h1 | h1; exact he1 h1; exact hne (by rw [hex]; exact h1))] at hstep
               exact ⟨by rw [← hstep]; rfl, rfl⟩)
    ·
     have hD : decI s a = none := decG_short s a i z (by omega) (by omega) hinv
     refine at_exit <| Zt <| Zt <| nx_block_exit <| Zx <| Zq <| Zg <| Za Y <| Za Y <| Za Y <| Z0 <| Zn [4, 5, 6] ?_
     refine Zx <| at_ret ?_
     refine nx_end3 rfl results124 Y Y Y (by exact ⟨by rw [hD]; rfl, rfl⟩)
   ·
    have hD : decI s a = none := by rw [← hinv, show 9 - i = 0 by omega]; rfl
    refine op_skip Y rfl <| op_skip Y rfl <| op_skip Y rfl <| op_skip Y rfl <| op_skip Y rfl <| op_skip Y rfl <| Zv (p_pick_f Y Y) <| Z0 <| Zx <| at_else Y <| at_exit <| Zt <| Zt <| nx_block_exit <| Zx <| Zq <| Zg <| Za Y <| Za Y <| Za Y <| Z0 <| Zn [4, 5, 6] ?_
    refine Zx <| at_ret ?_
    refine nx_end3 rfl results124 Y Y Y (by exact ⟨by rw [hD]; rfl, rfl⟩)

theorem rstring_none (s : List UInt8) (a : Nat) (ha : a ≤ s.length) (hs : s.length ≤ 1099511627776) (hd : decI s a = none) : DoesR Tryz.prog 122 #[.string (str s), .int .i64 (a : Int)] [] (strR none) := by
 refine spec_enter func122 rfl ntmps122 rfl ?_
 intro u R
 refine Zb [0, 1] ?_
 refine Zq <| Zg <| Za Y <| Za Y <| Za Y <| Z0 <| Zx <| Zq <| Zg <| Zm Y <| Zm Y <| Zr [_, _] Y call124 Y rfl ((hd ▸ rint_spec s a ha hs : DoesR Tryz.prog 124 #[.string (str s), .int .i64 (a : Int)] [] (intV none))) ?_
 rintro _ _ ⟨rfl, rfl⟩
 refine Zm Y <| Zd Y rfl <| Zd Y rfl <| Zd Y rfl <| Za Y <| Za Y <| Za Y <| Z0 <| Zn [0, 7, 8, 9] ?_
 refine Zx <| Zq <| Zq <| Zg <| Zm Y ?_
 first | refine op_v (p_neq_nat (n := 0) Y Y) ?_ | refine op_v (p_neq Y Y) ?_
 refine Z0 <| Zx ?_
 first | refine at_if Y (fun hc1 => ?_) (fun hc1 => ?_) | refine at_if_bool Y (fun hc1 => ?_) (fun hc1 => ?_)
 ·
  refine Zq <| Zg <| Zm Y <| Za Y <| Za Y <| Za Y <| Z0 <| Zx <| at_ret <| Zt ?_
  refine nx_end3 rfl results122 Y Y Y (by exact ⟨rfl, rfl⟩)
 ·
  exact absurd (by decide) hc1

theorem rstring_some (s : List UInt8) (a : Nat) (ha : a ≤ s.length) (hs : s.length ≤ 1099511627776) (n : Int) (k : Nat) (hd : decI s a = some (n, k)) : DoesR Tryz.prog 122 #[.string (str s), .int .i64 (a : Int)] [] (strR (decS s a)) := by
 have hss := str_size s
 have hat := decI_at hd
 have hS : decS s a = if n < 0 ∨ 65536 < n ∨ (s.length : Int) - (k : Int) < n then none else some ((s.drop k).take n.toNat, k + n.toNat) := by unfold decS; rw [hd]
 obtain ⟨r, hr⟩ : ∃ r, r = decS s a := ⟨_, rfl⟩
 rw [← hr] at hS
 rw [← hr]
 refine spec_enter func122 rfl ntmps122 rfl ?_
 intro u R
 refine Zb [0, 1] ?_
 refine Zq <| Zg <| Za Y <| Za Y <| Za Y <| Z0 <| Zx <| Zq <| Zg <| Zm Y <| Zm Y <| Zr [_, _] Y call124 Y rfl ((hd ▸ rint_spec s a ha hs : DoesR Tryz.prog 124 #[.string (str s), .int .i64 (a : Int)] [] (intV (some (n, k))))) ?_
 rintro _ _ ⟨rfl, rfl⟩
 refine Zm Y <| Zd Y rfl <| Zd Y rfl <| Zd Y rfl <| Za Y <| Za Y <| Za Y <| Z0 <| Zn [0, 7, 8, 9] ?_
 refine Zx <| Zq <| Zq <| Zg <| Zm Y ?_
 first | refine op_v (p_neq_nat (n := 0) Y Y) ?_ | refine op_v (p_neq Y Y) ?_
 refine Z0 <| Zx ?_
 first | refine at_if Y (fun hc1 => ?_) (fun hc1 => ?_) | refine at_if_bool Y (fun hc1 => ?_) (fun hc1 => ?_)
 ·
  exact absurd rfl hc1
 ·
  refine at_skip <| Zx <| Zq <| Zq <| Zg <| Zm Y ?_
  first | refine op_v (p_lss_nat (n := 0) Y Y) ?_ | refine op_v (p_lss Y Y) ?_
  refine Zm Y ?_
  first | refine ops_split (t := 22) Y rfl (fun hc2 => ?_) (fun hc2 => ?_) | refine ops_split_bool (t := 22) Y rfl (fun hc2 => ?_) (fun hc2 => ?_)
  ·
   refine op_skip Y rfl <| op_skip Y rfl <| Zv (p_pick_t Y Y) <| Zm Y <| op_skip Y rfl <| op_skip Y rfl <| op_skip Y rfl <| op_skip Y rfl <| op_skip Y rfl <| op_skip Y rfl <| Zv (p_pick_t Y Y) <| Z0 <| Zn [0, 7, 8, 33] ?_
   refine Zx <| at_then Y <| Zq <| Zg <| Za Y <| Za Y <| Za Y <| Z0 <| Zx <| at_ret <| Zt ?_
   refine nx_end3 rfl results122 Y Y Y (by
         rw [if_pos (by omega)] at hS
         exact ⟨by rw [hS]; rfl, rfl⟩)
  ·
   refine Zf Y Y ?_
   first | refine op_wg Y (p_gtr_nat (n := 65536) Y Y) rfl rfl ?_ | refine op_wg Y (p_gtr Y Y) rfl rfl ?_
   refine Zv (p_pick_f Y Y) <| Zm Y ?_
   first | refine ops_split (t := 26) Y rfl (fun hc3 => ?_) (fun hc3 => ?_) | refine ops_split_bool (t := 26) Y rfl (fun hc3 => ?_) (fun hc3 => ?_)
   ·
    refine op_skip Y rfl <| op_skip Y rfl <| op_skip Y rfl <| op_skip Y rfl <| op_skip Y rfl <| op_skip Y rfl <| Zv (p_pick_t Y Y) <| Z0 <| Zn [0, 7, 8, 33] ?_
    refine Zx <| at_then Y <| Zq <| Zg <| Za Y <| Za Y <| Za Y <| Z0 <| Zx <| at_ret <| Zt ?_
    refine nx_end3 rfl results122 Y Y Y (by
          rw [if_pos (by omega)] at hS
          exact ⟨by rw [hS]; rfl, rfl⟩)
   ·
    refine Zf Y Y <| Zf Y Y <| op_wg Y (p_len_str underlying9 Y) rfl rfl ?_
    refine Zf Y Y ?_
    first | (refine op_wg Y (p_sub_nat Y Y ?_ ?_) rfl rfl ?_; (focus (omega)); (focus (omega))) | (refine op_wg Y (p_sub Y Y (IntWalk.i64_in _ ?_)) rfl rfl ?_; (focus (omega)))
    first | refine op_wg Y (p_gtr_nat Y Y) rfl rfl ?_ | refine op_wg Y (p_gtr Y Y) rfl rfl ?_
    refine Zv (p_pick_f Y Y) <| Z0 <| Zn [0, 7, 8, 33] ?_
    refine Zx ?_
    first | refine at_if Y (fun hc4 => ?_) (fun hc4 => ?_) | refine at_if_bool Y (fun hc4 => ?_) (fun hc4 => ?_)
    ·
     refine Zq <| Zg <| Za Y <| Za Y <| Za Y <| Z0 <| Zx <| at_ret <| Zt ?_
     refine nx_end3 rfl results122 Y Y Y (by
           rw [if_pos (by omega)] at hS
           exact ⟨by rw [hS]; rfl, rfl⟩)
    ·
     refine at_skip <| Zx <| Zq ?_
     obtain ⟨m, rfl⟩ := Int.eq_ofNat_of_zero_le (show 0 ≤ n by omega)
     rw [if_neg (by omega), Int.toNat_natCast] at hS
     subst hS
     refine Zg <| Zm Y <| Zm Y <| Zm Y <| Zm Y ?_
     first | (refine op_v (p_add_nat Y Y ?_) ?_; (focus (omega))) | (refine op_v (p_add Y Y (IntWalk.i64_in _ ?_)) ?_; (focus (omega)))
     (refine op_v (p_slice_str underlying9 Y Y Y ?_ ?_) ?_; (focus (omega)); (focus (omega)))
     refine Zm Y <| Zm Y ?_
     first | (refine op_v (p_add_nat Y Y ?_) ?_; (focus (omega))) | (refine op_v (p_add Y Y (IntWalk.i64_in _ ?_)) ?_; (focus (omega)))
     refine Za Y <| Za Y <| Za Y <| Z0 <| Zx <| at_ret ?_
     refine nx_end3 rfl results122 Y Y Y (by exact ⟨by rw [extract_str]; rfl, rfl⟩)

theorem rstring_spec (s : List UInt8) (a : Nat) (ha : a ≤ s.length) (hs : s.length ≤ 1099511627776) : DoesR Tryz.prog 122 #[.string (str s), .int .i64 (a : Int)] [] (strR (decS s a)) := by
  cases hd : decI s a with
  | none =>
    have : decS s a = none := by unfold decS; rw [hd]
    rw [this]; exact rstring_none s a ha hs hd
  | some p => obtain ⟨n, k⟩ := p; exact rstring_some s a ha hs n k hd

end Go.Proofs.YthbadolcncojbaaGreatDoor
