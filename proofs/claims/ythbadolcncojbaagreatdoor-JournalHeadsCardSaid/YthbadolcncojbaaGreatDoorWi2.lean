/- Contracts: wire.groups, PutInt, PutString. Contracts: wire.PutString, Int, String. -/
import Derived.Test.YthbadolcncojbaaGreatDoorEz
import Derived.Test.YthbadolcncojbaaGreatDoorDg5
namespace Go.Proofs.YthbadolcncojbaaGreatDoor
open Go.Proofs.Tryz
open Go Go.RowKit Gw
set_option linter.unusedVariables false
set_option linter.unusedSimpArgs false
set_option maxRecDepth 100000
attribute [local irreducible] Gw.At Gw.Nx Gw.Ops
/-- The groups of 7 bits of z, the least significant one first, and whether a group is the last one. -/
def grps (z : Nat) : List (Nat × Bool) := if h : z < 128 then [(z, true)] else (z % 128, false) :: grps (z / 128)
termination_by z
decreasing_by omega
theorem grps_eq (z : Nat) : grps z = (z % 128, decide (z < 128)) :: (if z < 128 then [] else grps (z / 128)) := by
  rw [grps]
  by_cases h : z < 128
  · simp [h, Nat.mod_eq_of_lt h]
  · simp [h]
theorem grps_lt (z : Nat) : ∀ x ∈ grps z, x.1 < 128 := by
  induction z using Nat.strongRecOn with
  | _ z ih =>
    intro x hx
    rw [grps_eq] at hx
    rcases List.mem_cons.1 hx with rfl | hx
    · exact Nat.mod_lt _ (by decide)
    · by_cases h : z < 128
      · rw [if_pos h] at hx; cases hx
      · rw [if_neg h] at hx; exact ih (z / 128) (by omega) x hx
theorem grps_len (z k : Nat) (h : z < 128 ^ (k + 1)) : (grps z).length ≤ k + 1 := by
  induction k generalizing z with
  | zero => rw [grps_eq, if_pos (by simpa using h)]; simp
  | succ k ih =>
    rw [grps_eq]
    by_cases h1 : z < 128
    · rw [if_pos h1]; simp
    · rw [if_neg h1, List.length_cons]
      have : z / 128 < 128 ^ (k + 1) := by
        rw [Nat.pow_succ] at h
        exact Nat.div_lt_of_lt_mul (by rw [Nat.mul_comm]; exact h)
      have := ih _ this
      omega
/-- A group as a byte. -/
def gb (x : Nat × Bool) : UInt8 := UInt8.ofNat (if x.2 then x.1 else x.1 + 128)
theorem gb_val (x : Nat × Bool) (h : x.1 < 128) : u8v (gb x) = .int .u8 ((if x.2 then x.1 else x.1 + 128 : Nat) : Int) := by
  unfold u8v gb
  rw [UInt8.toNat_ofNat', Nat.mod_eq_of_lt (by split <;> omega)]
def zz (n : Int) : Nat := (if n < 0 then -(2 * n) - 1 else 2 * n).toNat
/-- The encoding of an integer. -/
def encI (n : Int) : List UInt8 := (grps (zz n)).map gb
theorem zz_lt (n : Int) (h1 : -4611686018427387903 ≤ n) (h2 : n ≤ 4611686018427387903) : zz n < 9223372036854775808 := by unfold zz; split <;> omega
theorem encI_pos (n : Int) : 0 < (encI n).length := by unfold encI; rw [grps_eq]; simp
theorem encI_len (n : Int) (h1 : -4611686018427387903 ≤ n) (h2 : n ≤ 4611686018427387903) : (encI n).length ≤ 9 := by
  unfold encI
  rw [List.length_map]
  exact grps_len (zz n) 8 (by have := zz_lt n h1 h2; omega)
theorem and127 (y : Nat) (h : y < 18446744073709551616) : bits .and .u64 (y : Int) 127 = ((y % 128 : Nat) : Int) := by
  have := u64_and_nat y 127 h (by decide)
  rw [nat_mask7] at this; exact this
theorem or128 (g : Nat) (h : g < 128) : bits .or .u8 (g : Int) 128 = ((g + 128 : Nat) : Int) := by
  have := u8_or_nat g 128 (by omega) (by decide)
  rw [Nat.or_comm, nat_join 7 128 g (by decide) h, Nat.add_comm] at this; exact this
theorem xor_ones (a : Nat) (h : a < 18446744073709551616) : a ^^^ 18446744073709551615 = 18446744073709551615 - a := by
  have h1 : BitVec.ofNat 64 a ^^^ BitVec.allOnes 64 = ~~~ BitVec.ofNat 64 a := BitVec.xor_allOnes
  have h2 := congrArg BitVec.toNat h1
  rw [BitVec.toNat_xor, BitVec.toNat_not, BitVec.toNat_ofNat, Nat.mod_eq_of_lt h] at h2
  exact h2
theorem zz_xor (n : Int) (h1 : -4611686018427387903 ≤ n) (h2 : n ≤ 4611686018427387903) : bits .xor .u64 (IntKind.u64.wrap (IntKind.u64.wrap n * 2 ^ (1 : Int).toNat)) (IntKind.u64.wrap (n / 2 ^ (63 : Int).toNat)) = (zz n : Int) := by
  rw [IntKind.wrap_u64, IntKind.wrap_u64, IntKind.wrap_u64]
  rw [show (2 : Int) ^ (1 : Int).toNat = 2 from rfl, show (2 : Int) ^ (63 : Int).toNat = 9223372036854775808 from rfl]
  by_cases h : n < 0
  · obtain ⟨m, hm⟩ : ∃ m : Nat, n = -(m : Int) := ⟨n.natAbs, by omega⟩
    have e1 : n % 18446744073709551616 * 2 % 18446744073709551616 = ((18446744073709551616 - 2 * m : Nat) : Int) := by omega
    have e2 : n / 9223372036854775808 % 18446744073709551616 = ((18446744073709551615 : Nat) : Int) := by omega
    rw [e1, e2, u64_xor_nat _ _ (by omega) (by omega), xor_ones _ (by omega)]
    unfold zz; rw [if_pos h]; omega
  · obtain ⟨m, hm⟩ : ∃ m : Nat, n = (m : Int) := ⟨n.natAbs, by omega⟩
    have e1 : n % 18446744073709551616 * 2 % 18446744073709551616 = ((2 * m : Nat) : Int) := by omega
    have e2 : n / 9223372036854775808 % 18446744073709551616 = ((0 : Nat) : Int) := by omega
    rw [e1, e2, u64_xor_nat _ _ (by omega) (by omega), Nat.xor_zero]
    unfold zz; rw [if_neg h]; omega
theorem at_nil {P : Program} {cx : Cx} {c : Code} {Q : Exit → Act → World → Prop} {env : Env} {H : Hp} (h : At P cx c Q env ([] :: H)) : At P cx c Q env H := at_flat (H' := [] :: H) rfl h
theorem mem_split {α : Type} {l pre post : List α} {x : α} (h : l = pre ++ x :: post) : x ∈ l := by rw [h]; simp

theorem groups_iter (bz z : Nat) (hz : z < 18446744073709551616) :
    IterSpec Tryz.prog 169 #[.pointer (some ⟨bz, 0, none⟩)] [[(bz, .cells #[.int .u64 (z : Int)] 223 (0, 0))]] (fun x => #[.int .u8 (x.1 : Int), .bool x.2]) (grps z) := by
 intro l J hy s hJ
 refine spec_enter func169 rfl ntmps169 rfl ?_
 intro u R
 refine Zb [0, 1] ?_
 refine at_block <| Zb [0, 1] ?_
 refine at_loopB (e0 := []) (H0 := _) (n := _) (fun m e H => ∃ (pre : List (Nat × Bool)) (y : Nat) (s : List Chunk), m = 0 + y ∧ (grps z = pre ++ grps y ∧ y < 18446744073709551616 ∧ J pre s) ∧ e = [] ∧ H = [[(bz, .cells #[.int .u64 (y : Int)] 223 (0, 0))], s]) (by exact ⟨[], z, s, rfl, ⟨rfl, hz, hJ⟩, rfl, rfl⟩) (by repeat (first | exact Pull.nil _ | (apply Pull.cons; (focus (repeat (first | exact One.here _ _ | apply One.there)))))) ?_
 rintro _ _ _ ⟨pre, y, s, rfl, ⟨hsp, hy64, hJ⟩, rfl, rfl⟩
 refine at_block <| Zq <| Zg <| Zl isAgg223 Y ?_
 first | refine op_v (p_lss_nat (n := 128) Y Y) ?_ | refine op_v (p_lss Y Y) ?_
 refine Za Y <| Z0 <| Zx <| Zq <| Zq ?_
 have hyk := hy pre (y % 128, decide (y < 128)) (if y < 128 then [] else grps (y / 128)) s (by rw [hsp, ← grps_eq]) hJ
 refine Zg <| Zm Y <| Zl isAgg223 Y ?_
 refine op_w (p_and (m := (y : Int)) (n := 127) Y Y (and127 y hy64)) rfl rfl ?_
 first | refine op_v (p_conv_u64_u8 underlying223 underlying5 Y) ?_ | (refine op_v (p_conv_nat_u8 underlying223 underlying5 Y ?_) ?_; (focus (omega))) | (refine op_v (p_conv_int underlying223 underlying5 Y (IntWalk.u8_in _ ?_)) ?_; (focus (omega)))
 refine Zm Y <| Ze (w_yield (vs := [_, _]) Y Y (hyk) (by repeat (first | exact Pull.nil _ | (apply Pull.cons; (focus (repeat (first | exact One.here _ _ | apply One.there))))))) ?_
 rintro _ _ ⟨_, ⟨s', rfl, rfl, hJ'⟩, rfl⟩
 first | refine op_v (p_not_dec Y) ?_ | refine op_v (p_not Y) ?_
 refine Zm Y ?_
 refine ops_split_bool (t := 13) Y rfl (fun hb => ?_) (fun hb => ?_)
 ·
  cases hb
 ·
  refine Zf Y Y <| Zv (p_pick_f Y Y) <| Z0 <| Zn [0, 1, 15] ?_
  refine Zx ?_
  first | refine at_if Y (fun hl => ?_) (fun hl => ?_) | refine at_if_bool Y (fun hl => ?_) (fun hl => ?_)
  ·
   refine at_ret <| Zt <| nx_block_ret <| Zt <| nx_block_ret ?_
   refine nx_end0 rfl results169 (by
         exact ⟨s', rfl, by
           have e : grps z = pre ++ [(y % 128, decide (y < 128))] := by rw [hsp, grps_eq y, if_pos hl]
           rw [e]; exact hJ'⟩)
  ·
   refine at_skip <| Zx <| Zg <| Zl isAgg223 Y ?_
   first | (refine op_v (p_shr_nat (n := 7) Y Y ?_) ?_; (focus (first | decide | (simp [IntKind.bits]; done) | (simp [IntKind.bits]; omega)))) | (refine op_v (p_shr Y Y ?_ ?_ rfl) ?_; (focus (first | decide | omega | (simp [IntKind.bits]; done) | (simp [IntKind.bits]; omega))); (focus (first | decide | omega | (simp [IntKind.bits]; done) | (simp [IntKind.bits]; omega))))
   refine Ze (Zs sizeOf223 Y Y rfl) ?_
   rintro _ _ ⟨rfl, rfl⟩
   refine Z0 <| nx_block_normal <| Zn [0, 1] ?_
   refine nx_againB (e' := []) (m := _) (H' := _) (by exact ⟨pre ++ [(y % 128, decide (y < 128))], y / 2 ^ 7, s', rfl, ⟨by rw [hsp, grps_eq y, if_neg hl]; simp, by omega, hJ'⟩, rfl, rfl⟩)

theorem groups_spec (z : Int) : Does Tryz.prog 151 #[.int .u64 z] [] (fun r H' => ∃ b, r = .func (.func 169) #[] #[.pointer (some ⟨b, 0, none⟩)] ∧ H' = [[(b, .cells #[.int .u64 z] 223 (0, 0))]]) := by
 refine spec_enter func151 rfl ntmps151 rfl ?_
 intro u R
 refine Zb [0] ?_
 refine Zq <| Zg <| Ze (w_box Y (cs := #[_]) rfl) ?_
 rintro _ _ ⟨b1, rfl, rfl⟩
 refine Za Y <| Z0 <| Zx <| Zq <| Zg <| Zv (p_makeFunc (vs := []) (us := [_]) Y Y) ?_
 refine Za Y <| Z0 <| Zx <| at_ret ?_
 refine nx_end1 rfl results151 Y (by exact ⟨_, rfl, rfl⟩)

theorem putInt_spec (n : Int) (h1 : -4611686018427387903 ≤ n) (h2 : n ≤ 4611686018427387903) : DoesR Tryz.prog 107 #[.int .i64 n] [] (.tuple #[.string (str (encI n)), .int .i64 0]) := by
 have hml : maxLen = 9223372036854775807 := rfl
 have hzl := zz_lt n h1 h2
 have hgl := encI_len n h1 h2
 unfold encI at hgl
 rw [List.length_map] at hgl
 refine spec_enterM func107 rfl ntmps107 rfl ?_
 intro u R
 refine Zb [0] ?_
 refine Zq <| Zg <| Za Y <| Za Y <| Z0 <| Zx <| Zq <| Zq <| Zg <| Zm Y <| Zv (p_lss Y Y) <| Zm Y ?_
 first | refine ops_split (t := 9) Y rfl (fun hc1 => ?_) (fun hc1 => ?_) | refine ops_split_bool (t := 9) Y rfl (fun hc1 => ?_) (fun hc1 => ?_)
 ·
  exfalso; omega
 ·
  refine Zf Y Y <| op_wg Y (p_gtr Y Y) rfl rfl ?_
  refine Zv (p_pick_f Y Y) <| Z0 <| Zx ?_
  first | refine at_if Y (fun hc2 => ?_) (fun hc2 => ?_) | refine at_if_bool Y (fun hc2 => ?_) (fun hc2 => ?_)
  ·
   exfalso; omega
  ·
   refine at_skip <| Zx <| Zq <| Zg <| Ze (w_alloc zeroValue36 (cs := #[_]) rfl) ?_
   rintro _ _ ⟨bo, rfl, rfl⟩
   refine Z0 <| Zx <| Zq <| Zq <| Zg <| Zm Y ?_
   first | (refine op_v (p_conv_nat_u64 underlying3 underlying223 Y ?_) ?_; (focus (omega))) | refine op_v (p_conv_int underlying3 underlying223 Y rfl) ?_
   first | (refine op_v (p_shl_nat_u64 (n := 1) Y Y ?_ ?_) ?_; (focus (omega)); (focus (omega))) | (refine op_v (p_shl Y Y ?_ ?_ rfl) ?_; (focus (first | decide | omega | (simp [IntKind.bits]; done) | (simp [IntKind.bits]; omega))); (focus (first | decide | omega | (simp [IntKind.bits]; done) | (simp [IntKind.bits]; omega))))
   refine Zm Y ?_
   first | (refine op_v (p_shr_nat (n := 63) Y Y ?_) ?_; (focus (first | decide | (simp [IntKind.bits]; done) | (simp [IntKind.bits]; omega)))) | (refine op_v (p_shr Y Y ?_ ?_ rfl) ?_; (focus (first | decide | omega | (simp [IntKind.bits]; done) | (simp [IntKind.bits]; omega))); (focus (first | decide | omega | (simp [IntKind.bits]; done) | (simp [IntKind.bits]; omega))))
   first | (refine op_v (p_conv_nat_u64 underlying3 underlying223 Y ?_) ?_; (focus (omega))) | refine op_v (p_conv_int underlying3 underlying223 Y rfl) ?_
   refine op_w (p_xor Y Y (zz_xor n h1 h2)) rfl rfl ?_
   refine Zc [_] Y call151 Y rfl (groups_spec _) ?_
   rintro _ _ ⟨_, ⟨bz, rfl, rfl⟩, rfl⟩
   refine Z0 <| Zn [4, 20] ?_
   refine Zx <| at_block <| Zb [4, 20] ?_
   refine at_nil ?_
   refine at_rangeAll (H0 := _) (R := _) (I := (fun pre H => ∃ v s, H = [[(bo, .cells #[v] 36 (0, 0))], s] ∧ Row 5 v ((pre.map gb).map u8v) s)) (asg := fun x => [(6, .bool x.2), (5, .int .u8 (x.1 : Int)), (22, .bool x.2), (21, .int .u8 (x.1 : Int))]) rfl Y call169 (groups_iter bz (zz n) (by omega)) Y rfl (by repeat (first | exact Pull.nil _ | (apply Pull.cons; (focus (repeat (first | exact One.here _ _ | apply One.there)))))) (⟨_, [], rfl, row_nil _⟩) ?ha_2 ?hbd_2 ?hk_2
   case ha_2 =>
    intro _ x _ _
    refine Zq <| Zg <| Za Y <| Z0 <| Zx <| Zg <| Za Y <| Z0 ?_
    exact nx_is
   case hbd_2 =>
    intro l pre x post u H1 R1 hxs hI
    obtain ⟨v, s, rfl, hr⟩ := hI
    have hx1 := grps_lt _ x (mem_split hxs)
    have hgv := gb_val x hx1
    have hpl := congrArg List.length hxs
    rw [List.length_append, List.length_cons] at hpl
    obtain ⟨gv, cv, rfl⟩ := hr.form
    refine at_block <| Zq <| Zq <| Zg <| Zm Y ?_
    first | refine op_v (p_not_dec Y) ?_ | refine op_v (p_not Y) ?_
    refine Z0 <| Zx ?_
    refine at_if_bool Y (fun hc5 => ?_) (fun hc5 => ?_)
    ·
     have hxb : x.2 = false := by simpa using hc5
     refine Zg <| Zm Y <| op_w (p_or (m := (x.1 : Int)) (n := 128) Y Y (or128 x.1 hx1)) rfl rfl ?_
     refine Za Y <| Z0 <| Zx <| Zg <| Zl isAgg36 Y ?_
     refine Zm Y <| Ze (w_buildSlice (vs := [_]) (cs := [_]) underlying36 sizeOf5 zeroValue5 Y rfl rfl rfl rfl rfl) ?_
     rintro _ _ ⟨b2, rfl, rfl⟩
     refine Ze (w_append (by_ := 1) (news := [_]) underlying36 (rfl : Tryz.prog.info? 5 = some Tryz.t5) rfl rfl rfl rfl Y hr Y (by repeat (first | exact One.here _ _ | apply One.there)) (by repeat (first | exact Has.here _ | apply Has.there)) (by rfl) rfl (by simp [Value.oneCell']) (by decide) (by (simp only [List.length_map]; omega)) (by (simp only [List.length_map]; omega))) ?_
     rintro _ _ ⟨sb, hrb, rfl⟩
     obtain ⟨gb, cb, rfl⟩ := hrb.form
     refine Ze (Zs sizeOf36 Y Y rfl) ?_
     rintro _ _ ⟨rfl, rfl⟩
     refine Z0 <| nx_block_normal ?_
     refine nx_round (H' := _) rfl (by
           exact ⟨_, _, rfl, by
             rw [List.map_append, List.map_append, List.map_singleton, List.map_singleton, hgv, hxb]; exact hrb⟩)
    ·
     have hxb : x.2 = true := by simpa using hc5
     refine at_skip <| Zx <| Zg <| Zl isAgg36 Y ?_
     refine Zm Y <| Ze (w_buildSlice (vs := [_]) (cs := [_]) underlying36 sizeOf5 zeroValue5 Y rfl rfl rfl rfl rfl) ?_
     rintro _ _ ⟨b4, rfl, rfl⟩
     refine Ze (w_append (by_ := 1) (news := [_]) underlying36 (rfl : Tryz.prog.info? 5 = some Tryz.t5) rfl rfl rfl rfl Y hr Y (by repeat (first | exact One.here _ _ | apply One.there)) (by repeat (first | exact Has.here _ | apply Has.there)) (by rfl) rfl (by simp [Value.oneCell']) (by decide) (by (simp only [List.length_map]; omega)) (by (simp only [List.length_map]; omega))) ?_
     rintro _ _ ⟨sb, hrb, rfl⟩
     obtain ⟨gb, cb, rfl⟩ := hrb.form
     refine Ze (Zs sizeOf36 Y Y rfl) ?_
     rintro _ _ ⟨rfl, rfl⟩
     refine Z0 <| nx_block_normal ?_
     refine nx_round (H' := _) rfl (by
           exact ⟨_, _, rfl, by
             rw [List.map_append, List.map_append, List.map_singleton, List.map_singleton, hgv, hxb]; exact hrb⟩)
   case hk_2 =>
    intro D1 H2 hI2
    obtain ⟨v, s, rfl, hr⟩ := hI2
    have hep := encI_pos n
    unfold encI at hep
    obtain ⟨gv, cv, cur, zv, rfl, rfl, hle, hcm, hcs, htk, hfr⟩ := hr.some (by rw [List.length_map]; exact hep)
    refine Zn [4] ?_
    refine nx_block_normal <| Zx <| Zq <| Zg <| Zl isAgg36 Y ?_
    refine Zo (by repeat (first | exact Has.here _ | apply Has.there)) (p_conv_bytes_str underlying36 underlying5 underlying9 Y (by exact ⟨htk, by simp⟩)) ?_
    refine Za Y <| Za Y <| Z0 <| Zx <| at_ret ?_
    refine nx_endM1 rfl (res2 results107 Y Y) (by repeat (first | exact One.here _ _ | apply One.there)) (by exact ⟨rfl, rfl⟩)

def encS (s : List UInt8) : List UInt8 := encI s.length ++ s
/-- The integer that z stands for. -/
def uz (z : Nat) : Int := if z % 2 = 0 then ((z / 2 : Nat) : Int) else -((z / 2 : Nat) : Int) - 1
def decG (s : List UInt8) (a : Nat) : Nat → Nat → Nat → Option (Int × Nat)
  | _, _, 0 => none
  | i, z, f + 1 => match s[a + i]? with
    | none => none
    | some b => if 128 ≤ b.toNat then decG s a (i + 1) (z + b.toNat % 128 * 2 ^ (7 * i)) f
      else if (b.toNat = 0 ∧ 0 < i) ∨ uz (z + b.toNat % 128 * 2 ^ (7 * i)) < -4611686018427387903 then none else some (uz (z + b.toNat % 128 * 2 ^ (7 * i)), a + i + 1)
/-- What is read as an integer at a, and where it ends. -/
def decI (s : List UInt8) (a : Nat) : Option (Int × Nat) := decG s a 0 0 9
def intV : Option (Int × Nat) → Value
  | some (n, k) => .tuple #[.int .i64 n, .int .i64 (k : Int), .int .i64 0]
  | none => .tuple #[.int .i64 0, .int .i64 0, .int .i64 10]
theorem decG_step (s : List UInt8) (a i z : Nat) (h9 : i < 9) {b : UInt8} (hg : s[a + i]? = some b) {r : Option (Int × Nat)} (h : decG s a i z (9 - i) = r) : (if 128 ≤ b.toNat then decG s a (i + 1) (z + b.toNat % 128 * 2 ^ (7 * i)) (9 - (i + 1))
      else if (b.toNat = 0 ∧ 0 < i) ∨ uz (z + b.toNat % 128 * 2 ^ (7 * i)) < -4611686018427387903 then none else some (uz (z + b.toNat % 128 * 2 ^ (7 * i)), a + i + 1)) = r := by
  obtain ⟨f, hf⟩ : ∃ f, 9 - i = f + 1 := ⟨8 - i, by omega⟩
  rw [hf, decG, hg] at h
  rw [show 9 - (i + 1) = f by omega]
  exact h
theorem decG_short (s : List UInt8) (a i z : Nat) (h9 : i < 9) (hg : s.length ≤ a + i) {r : Option (Int × Nat)} (h : decG s a i z (9 - i) = r) : r = none := by
  obtain ⟨f, hf⟩ : ∃ f, 9 - i = f + 1 := ⟨8 - i, by omega⟩
  rw [hf, decG, List.getElem?_eq_none hg] at h
  exact h.symm
theorem byte_get (s : List UInt8) (k : Nat) (h : k < s.length) : s[k]? = some (byteAt (str s) k) := by
  have := byteAt_get (str s) k (by rw [str_size]; exact h)
  simpa [str] using this
theorem pow7 (i : Nat) (h : i < 9) : 2 ^ (7 * i) ≤ 72057594037927936 := by
  have := Nat.pow_le_pow_right (show 0 < 2 by omega) (show 7 * i ≤ 56 by omega)
  exact this
theorem shl7 (x i : Nat) (hx : x < 128) (h : i < 9) : x * 2 ^ (7 * i) ≤ 18446744073709551615 := by
  have := pow7 i h
  have h2 : x * 2 ^ (7 * i) ≤ 127 * 72057594037927936 := Nat.mul_le_mul (by omega) this
  omega
theorem up7 (z x i : Nat) (hz : z < 2 ^ (7 * i)) (hx : x < 128) : z + x * 2 ^ (7 * i) < 2 ^ (7 * (i + 1)) := by
  have e : 2 ^ (7 * (i + 1)) = 128 * 2 ^ (7 * i) := by rw [show 7 * (i + 1) = 7 * i + 7 by omega, Nat.pow_add, Nat.mul_comm]
  rw [e]
  have : x * 2 ^ (7 * i) ≤ 127 * 2 ^ (7 * i) := Nat.mul_le_mul (by omega) (Nat.le_refl _)
  generalize 2 ^ (7 * i) = p at *
  generalize x * p = q at *
  omega
theorem top7 (z i : Nat) (h : i < 9) (hz : z < 2 ^ (7 * (i + 1))) : z < 9223372036854775808 := by
  have := Nat.pow_le_pow_right (show 0 < 2 by omega) (show 7 * (i + 1) ≤ 63 by omega)
  exact Nat.lt_of_lt_of_le hz this
theorem or7 (z x i : Nat) (hz : z < 2 ^ (7 * i)) (hx : x < 128) (h : i < 9) : bits .or .u64 (z : Int) ((x * 2 ^ (7 * i) : Nat) : Int) = ((z + x * 2 ^ (7 * i) : Nat) : Int) := by
  have h1 := shl7 x i hx h
  have h2 := pow7 i h
  rw [u64_or_nat z _ (by omega) (by omega), Nat.or_comm, nat_join (7 * i) _ z (Nat.mul_mod_left _ _) hz, Nat.add_comm]
theorem and127b (b : UInt8) : bits .and .u8 (b.toNat : Int) 127 = ((b.toNat % 128 : Nat) : Int) := by
  have := u8_and_nat b.toNat 127 (u8_lt b) (by decide)
  rw [nat_mask7] at this; exact this
theorem and1 (z : Nat) (h : z < 18446744073709551616) : bits .and .u64 (z : Int) 1 = ((z % 2 : Nat) : Int) := by
  have := u64_and_nat z 1 h (by decide)
  rw [nat_mask1] at this; exact this
theorem bits_xor_i64 (x y : Int) : bits .xor .i64 x y = IntKind.i64.wrap ((BitVec.ofInt 64 x ^^^ BitVec.ofInt 64 y).toNat : Int) := rfl
theorem uz_xor (z : Nat) (h : z < 9223372036854775808) : bits .xor .i64 ((z / 2 ^ 1 : Nat) : Int) (0 - ((z % 2 : Nat) : Int)) = uz z := by
  rw [Nat.pow_one]
  have hm : z / 2 < 4611686018427387904 := by omega
  have hz : z % 2 = 0 ∨ z % 2 = 1 := by omega
  unfold uz
  generalize z / 2 = m at *
  rcases hz with h0 | h0
  · rw [h0, if_pos rfl]
    rw [bits_xor_i64]
    rw [show (0 - ((0 : Nat) : Int)) = 0 from rfl, show BitVec.ofInt 64 0 = 0#64 from rfl, BitVec.xor_zero]
    rw [ofInt_u64 m (by omega), IntKind.wrap_i64]; omega
  · rw [h0, if_neg (by decide)]
    rw [bits_xor_i64]
    rw [show (0 - ((1 : Nat) : Int)) = -1 from rfl, show BitVec.ofInt 64 (-1) = BitVec.allOnes 64 from rfl, BitVec.xor_allOnes, BitVec.toNat_not, ofInt_u64 m (by omega), IntKind.wrap_i64]; omega

theorem putString_spec (s : List UInt8) (hs : s.length ≤ 65536) : DoesR Tryz.prog 111 #[.string (str s)] [] (.tuple #[.string (str (encS s)), .int .i64 0]) := by
 have hss := str_size s
 have hel := encI_len s.length (by omega) (by omega)
 refine spec_enter func111 rfl ntmps111 rfl ?_
 intro u R
 refine Zb [0] ?_
 refine Zq <| Zg <| Za Y <| Za Y <| Z0 <| Zx <| Zq <| Zq <| Zg <| Zm Y <| Zv (p_len_str underlying9 Y) ?_
 first | refine op_v (p_gtr_nat (n := 65536) Y Y) ?_ | refine op_v (p_gtr Y Y) ?_
 refine Z0 <| Zx ?_
 first | refine at_if Y (fun hc1 => ?_) (fun hc1 => ?_) | refine at_if_bool Y (fun hc1 => ?_) (fun hc1 => ?_)
 ·
  exfalso; omega
 ·
  refine at_skip <| Zx <| Zq <| Zg <| Zm Y <| Zv (p_len_str underlying9 Y) <| Zr [_] Y call107 Y rfl (putInt_spec _ (by omega) (by omega)) ?_
  rintro _ _ ⟨rfl, rfl⟩
  refine Zm Y <| Zd Y rfl <| Zd Y rfl <| Za Y <| Za Y <| Z0 <| Zn [0, 4] ?_
  refine Zx <| Zq <| Zg <| Zm Y <| Zm Y ?_
  (refine op_v (p_add_str Y Y ?_) ?_; (focus (rw [hss, str_size]; omega)))
  refine Za Y <| Za Y <| Z0 <| Zx <| at_ret ?_
  refine nx_end2 rfl results111 Y Y (by exact ⟨by rw [str_app, hss]; rfl, rfl⟩)

theorem int_spec (s : List UInt8) (a : Nat) (ha : a ≤ s.length) (hs : s.length ≤ 1099511627776) : DoesR Tryz.prog 120 #[.string (str s), .int .i64 (a : Int)] [] (intV (decI s a)) := by
 have hss := str_size s
 refine spec_enter func120 rfl ntmps120 rfl ?_
 intro u R
 refine Zb [0, 1] ?_
 refine Zq <| Zg <| Za Y <| Za Y <| Za Y <| Z0 <| Zx <| Zq <| Zq <| Zg <| Zm Y ?_
 first | refine op_v (p_lss_nat (n := 0) Y Y) ?_ | refine op_v (p_lss Y Y) ?_
 refine Zm Y ?_
 first | refine ops_split (t := 13) Y rfl (fun hc1 => ?_) (fun hc1 => ?_) | refine ops_split_bool (t := 13) Y rfl (fun hc1 => ?_) (fun hc1 => ?_)
 ·
  exfalso; omega
 ·
  refine Zf Y Y <| Zf Y Y <| op_wg Y (p_len_str underlying9 Y) rfl rfl ?_
  first | refine op_wg Y (p_gtr_nat Y Y) rfl rfl ?_ | refine op_wg Y (p_gtr Y Y) rfl rfl ?_
  refine Zv (p_pick_f Y Y) <| Z0 <| Zx ?_
  first | refine at_if Y (fun hc2 => ?_) (fun hc2 => ?_) | refine at_if_bool Y (fun hc2 => ?_) (fun hc2 => ?_)
  ·
   exfalso; omega
  ·
   refine at_skip <| Zx <| Zq <| Zg <| Za Y <| Z0 <| Zx <| Zq <| Zq <| Zg <| Zm Y <| Z0 <| Zn [0, 1, 7, 19] ?_
   refine Zx <| at_block <| Zb [7, 19, 0, 1] ?_
   refine at_loopB (e0 := [(7, _), (19, _)]) (H0 := _) (n := _) (fun m e H => ∃ (i z : Nat), m = 9 - i ∧ (i ≤ 9 ∧ z < 2 ^ (7 * i) ∧ decG s a i z (9 - i) = decI s a) ∧ e = [(7, .int .u64 (z : Int)), (19, .int .i64 (i : Int))] ∧ H = []) (by exact ⟨0, 0, rfl, ⟨Nat.zero_le _, by decide, rfl⟩, rfl, rfl⟩) (by repeat (first | exact Pull.nil _ | (apply Pull.cons; (focus (repeat (first | exact One.here _ _ | apply One.there)))))) ?_
   rintro _ _ _ ⟨i, z, rfl, ⟨hi, hz, hinv⟩, rfl, rfl⟩
   refine Zq <| Zg ?_
   first | refine op_v (p_lss_nat (n := 9) Y Y) ?_ | refine op_v (p_lss Y Y) ?_
   refine Z0 <| Zx <| Zq ?_
   first | refine at_if Y (fun hc3 => ?_) (fun hc3 => ?_) | refine at_if_bool Y (fun hc3 => ?_) (fun hc3 => ?_)
   ·
    refine at_skip <| Zx <| Zq <| at_block <| Zq <| Zg <| Zm Y <| Za Y <| Z0 <| Zx <| Zq <| Zq <| Zg <| Zm Y <| Zm Y ?_
    first | (refine op_v (p_add_nat Y Y ?_) ?_; (focus (omega))) | (refine op_v (p_add Y Y (IntWalk.i64_in _ ?_)) ?_; (focus (omega)))
    refine Zm Y <| Zv (p_len_str underlying9 Y) ?_
    first | refine op_v (p_geq_nat Y Y) ?_ | refine op_v (p_geq Y Y) ?_
    refine Z0 <| Zx ?_
    first | refine at_if Y (fun hc4 => ?_) (fun hc4 => ?_) | refine at_if_bool Y (fun hc4 => ?_) (fun hc4 => ?_)
    ·
     have hD : decI s a = none := decG_short s a i z (by omega) (by omega) hinv
     refine at_exit <| Zt <| nx_block_other rfl <| Zt <| Zt <| nx_block_exit <| Zx <| Zq <| Zg <| Za Y <| Za Y <| Za Y <| Z0 <| Zx <| at_ret ?_
     refine nx_end3 rfl results120 Y Y Y (by
           exact ⟨by
             rw [show decI s a = none from by first | exact hD | (rw [← hstep, if_neg (by omega), if_pos (by omega)])]; rfl, rfl⟩)
    ·
     refine at_skip <| Zx <| Zq <| Zg <| Zm Y <| Zm Y <| Zm Y ?_
     first | (refine op_v (p_add_nat Y Y ?_) ?_; (focus (omega))) | (refine op_v (p_add Y Y (IntWalk.i64_in _ ?_)) ?_; (focus (omega)))
     (refine op_v (p_index_str underlying9 Y Y (byteAt_get _ _ ?_)) ?_; (focus (omega)))
     refine Za Y <| Z0 <| Zn [0, 1, 7, 8, 9, 19] ?_
     refine Zx <| Zq ?_
     have hg := byte_get s (a + i) (by omega)
     obtain ⟨b, hb⟩ : ∃ b, b = byteAt (str s) (a + i) := ⟨_, rfl⟩
     rw [← hb]
     rw [← hb] at hg
     have hbl := u8_lt b
     have hstep := decG_step s a i z (by omega) hg hinv
     obtain ⟨x, hx⟩ : ∃ x, x = b.toNat % 128 := ⟨_, rfl⟩
     have hab := and127b b
     rw [← hx] at hstep hab
     have hx7 : x < 128 := by omega
     have hor := or7 z x i hz hx7 (by omega)
     have hz7 := up7 z x i hz hx7
     have hsl := shl7 x i hx7 (by omega)
     obtain ⟨z2, hz2⟩ : ∃ z2, z2 = z + x * 2 ^ (7 * i) := ⟨_, rfl⟩
     rw [← hz2] at hstep hor hz7
     have hz63 := top7 z2 i (by omega) hz7
     have hand := and1 z2 (by omega)
     have hux := uz_xor z2 hz63
     obtain ⟨n, hn⟩ : ∃ n, n = uz z2 := ⟨_, rfl⟩
     rw [← hn] at hstep hux
     refine Zg <| Zm Y <| Zm Y <| op_w (p_and (m := (b.toNat : Int)) (n := 127) Y Y hab) rfl rfl ?_
     first | refine op_v (p_conv_u8_u64 underlying5 underlying223 Y) ?_ | (refine op_v (p_conv_nat_u64 underlying5 underlying223 Y ?_) ?_; (focus (omega))) | refine op_v (p_conv_int underlying5 underlying223 Y rfl) ?_
     refine Zm Y ?_
     first | (refine op_v (p_mul_nat (m := 7) Y Y ?_) ?_; (focus (omega))) | (refine op_v (p_mul Y Y (IntWalk.i64_in _ ?_)) ?_; (focus (omega)))
     first | (refine op_v (p_shl_nat_u64 Y Y ?_ ?_) ?_; (focus (omega)); (focus (exact hsl))) | (refine op_v (p_shl Y Y ?_ ?_ rfl) ?_; (focus (first | decide | omega | (simp [IntKind.bits]; done) | (simp [IntKind.bits]; omega))); (focus (first | decide | omega | (simp [IntKind.bits]; done) | (simp [IntKind.bits]; omega))))
     refine op_w (p_or Y Y hor) rfl rfl ?_
     refine Za Y <| Z0 <| Zx <| Zq <| Zq <| Zg <| Zm Y ?_
     first | refine op_v (p_geq_nat (n := 128) Y Y) ?_ | refine op_v (p_geq Y Y) ?_
     refine Z0 <| Zx ?_
     first | refine at_if Y (fun hc5 => ?_) (fun hc5 => ?_) | refine at_if_bool Y (fun hc5 => ?_) (fun hc5 => ?_)
     ·
      refine at_exit <| Zt <| nx_block_exit <| Zx <| Zg ?_
      first | (refine op_v (p_add_nat (n := 1) Y Y ?_) ?_; (focus (omega))) | (refine op_v (p_add Y Y (IntWalk.i64_in _ ?_)) ?_; (focus (omega)))
      refine Zm Y <| Z0 <| Zn [7, 19, 0, 1] ?_
      refine nx_againB (e' := [(7, _), (19, _)]) (m := _) (H' := _) (by exact ⟨i + 1, z2, rfl, ⟨by omega, hz7, by rw [if_pos (by omega)] at hstep; exact hstep⟩, rfl, rfl⟩)
     ·
      refine at_skip <| Zx <| Zq <| Zg <| Zm Y ?_
      first | (refine op_v (p_shr_nat (n := 1) Y Y ?_) ?_; (focus (first | decide | (simp [IntKind.bits]; done) | (simp [IntKind.bits]; omega)))) | (refine op_v (p_shr Y Y ?_ ?_ rfl) ?_; (focus (first | decide | omega | (simp [IntKind.bits]; done) | (simp [IntKind.bits]; omega))); (focus (first | decide | omega | (simp [IntKind.bits]; done) | (simp [IntKind.bits]; omega))))
      first | (refine op_v (p_conv_nat_i64 underlying223 underlying3 Y ?_) ?_; (focus (omega))) | (refine op_v (p_conv_int underlying223 underlying3 Y (IntWalk.i64_in _ ?_)) ?_; (focus (omega)))
      refine Zm Y <| op_w (p_and (m := (z2 : Int)) (n := 1) Y Y hand) rfl rfl ?_
      first | (refine op_v (p_conv_nat_i64 underlying223 underlying3 Y ?_) ?_; (focus (omega))) | (refine op_v (p_conv_int underlying223 underlying3 Y (IntWalk.i64_in _ ?_)) ?_; (focus (omega)))
      (refine op_v (p_neg Y (IntWalk.i64_in _ ?_)) ?_; (focus (omega)))
      refine op_w (p_xor Y Y hux) rfl rfl ?_
      refine Za Y <| Z0 <| Zn [1, 8, 9, 10] ?_
      refine Zx <| Zq <| Zq <| Zg <| Zm Y ?_
      first | refine op_v (p_eql_nat (n := 0) Y Y) ?_ | refine op_v (p_eql Y Y) ?_
      refine Zm Y ?_
      first | refine ops_split (t := 53) Y rfl (fun hc6 => ?_) (fun hc6 => ?_) | refine ops_split_bool (t := 53) Y rfl (fun hc6 => ?_) (fun hc6 => ?_)
      ·
       refine Zf Y Y ?_
       first | refine op_wg Y (p_gtr_nat (n := 0) Y Y) rfl rfl ?_ | refine op_wg Y (p_gtr Y Y) rfl rfl ?_
       refine Zv (p_pick_t Y Y) <| Zm Y ?_
       first | refine ops_split (t := 57) Y rfl (fun hc7 => ?_) (fun hc7 => ?_) | refine ops_split_bool (t := 57) Y rfl (fun hc7 => ?_) (fun hc7 => ?_)
       ·
        refine op_skip Y rfl <| op_skip Y rfl <| Zv (p_pick_t Y Y) <| Z0 <| Zx <| at_then Y <| at_exit <| Zt <| nx_block_other rfl <| Zt <| Zt <| nx_block_exit <| Zx <| Zq <| Zg <| Za Y <| Za Y <| Za Y <| Z0 <| Zn [4, 5, 6] ?_
        refine Zx <| at_ret ?_
        refine nx_end3 rfl results120 Y Y Y (by
              exact ⟨by
                rw [show decI s a = none from by first | exact hD | (rw [← hstep, if_neg (by omega), if_pos (by omega)])]; rfl, rfl⟩)
       ·
        refine Zf Y Y <| op_wg Y (p_lss Y Y) rfl rfl ?_
        refine Zv (p_pick_f Y Y) <| Z0 <| Zx ?_
        first | refine at_if Y (fun hc8 => ?_) (fun hc8 => ?_) | refine at_if_bool Y (fun hc8 => ?_) (fun hc8 => ?_)
        ·
         refine at_exit <| Zt <| nx_block_other rfl <| Zt <| Zt <| nx_block_exit <| Zx <| Zq <| Zg <| Za Y <| Za Y <| Za Y <| Z0 <| Zn [4, 5, 6] ?_
         refine Zx <| at_ret ?_
         refine nx_end3 rfl results120 Y Y Y (by
               exact ⟨by
                 rw [show decI s a = none from by first | exact hD | (rw [← hstep, if_neg (by omega), if_pos (by omega)])]; rfl, rfl⟩)
        ·
         refine at_skip <| Zx <| Zq <| Zg <| Zm Y <| Zm Y <| Zm Y ?_
         first | (refine op_v (p_add_nat Y Y ?_) ?_; (focus (omega))) | (refine op_v (p_add Y Y (IntWalk.i64_in _ ?_)) ?_; (focus (omega)))
         first | (refine op_v (p_add_nat (n := 1) Y Y ?_) ?_; (focus (omega))) | (refine op_v (p_add Y Y (IntWalk.i64_in _ ?_)) ?_; (focus (omega)))
         refine Za Y <| Za Y <| Za Y <| Z0 <| Zn [4, 5, 6] ?_
         refine Zx <| at_ret <| nx_block_ret <| Zt <| Zt <| nx_block_ret <| Zt ?_
         refine nx_end3 rfl results120 Y Y Y (by
               rw [if_neg (by omega), if_neg (by omega)] at hstep
               exact ⟨by rw [← hstep]; rfl, rfl⟩)
      ·
       refine op_skip Y rfl <| op_skip Y rfl <| Zv (p_pick_f Y Y) <| Zm Y <| Zf Y Y <| op_wg Y (p_lss Y Y) rfl rfl ?_
       refine Zv (p_pick_f Y Y) <| Z0 <| Zx ?_
       first | refine at_if Y (fun hc9 => ?_) (fun hc9 => ?_) | refine at_if_bool Y (fun hc9 => ?_) (fun hc9 => ?_)
       ·
        refine at_exit <| Zt <| nx_block_other rfl <| Zt <| Zt <| nx_block_exit <| Zx <| Zq <| Zg <| Za Y <| Za Y <| Za Y <| Z0 <| Zn [4, 5, 6] ?_
        refine Zx <| at_ret ?_
        refine nx_end3 rfl results120 Y Y Y (by
              exact ⟨by
                rw [show decI s a = none from by first | exact hD | (rw [← hstep, if_neg (by omega), if_pos (by omega)])]; rfl, rfl⟩)
       ·
        refine at_skip <| Zx <| Zq <| Zg <| Zm Y <| Zm Y <| Zm Y ?_
        first | (refine op_v (p_add_nat Y Y ?_) ?_; (focus (omega))) | (refine op_v (p_add Y Y (IntWalk.i64_in _ ?_)) ?_; (focus (omega)))
        first | (refine op_v (p_add_nat (n := 1) Y Y ?_) ?_; (focus (omega))) | (refine op_v (p_add Y Y (IntWalk.i64_in _ ?_)) ?_; (focus (omega)))
        refine Za Y <| Za Y <| Za Y <| Z0 <| Zn [4, 5, 6] ?_
        refine Zx <| at_ret <| nx_block_ret <| Zt <| Zt <| nx_block_ret <| Zt ?_
        refine nx_end3 rfl results120 Y Y Y (by
              rw [if_neg (by omega), if_neg (by omega)] at hstep
              exact ⟨by rw [← hstep]; rfl, rfl⟩)
   ·
    have hD : decI s a = none := by rw [← hinv, show 9 - i = 0 by omega]; rfl
    refine at_exit <| Zt <| Zt <| nx_block_exit <| Zx <| Zq <| Zg <| Za Y <| Za Y <| Za Y <| Z0 <| Zx <| at_ret ?_
    refine nx_end3 rfl results120 Y Y Y (by
          exact ⟨by
            rw [show decI s a = none from by first | exact hD | (rw [← hstep, if_neg (by omega), if_pos (by omega)])]; rfl, rfl⟩)

/-- What is read as a string at a, and where it ends. -/
def decS (s : List UInt8) (a : Nat) : Option (List UInt8 × Nat) := match decI s a with
  | none => none
  | some (n, k) => if n < 0 ∨ 65536 < n ∨ (s.length : Int) - (k : Int) < n then none else some ((s.drop k).take n.toNat, k + n.toNat)
def strR : Option (List UInt8 × Nat) → Value
  | some (r, k) => .tuple #[.string (str r), .int .i64 (k : Int), .int .i64 0]
  | none => .tuple #[.string (str []), .int .i64 0, .int .i64 10]
theorem decG_at (s : List UInt8) (a : Nat) : ∀ (f i z : Nat) (n : Int) (k : Nat), i + f = 9 → z < 2 ^ (7 * i) → decG s a i z f = some (n, k) → a + i < k ∧ k ≤ s.length ∧ -4611686018427387903 ≤ n ∧ n < 4611686018427387904
  | 0, i, z, n, k, hi, hz, h => by cases h
  | f + 1, i, z, n, k, hi, hz, h => by
    rw [decG] at h
    cases hb : s[a + i]? with
    | none => rw [hb] at h; cases h
    | some b =>
      rw [hb] at h
      have hlt := (List.getElem?_eq_some_iff.1 hb).1
      have hx7 : b.toNat % 128 < 128 := by omega
      have hz7 := up7 z _ i hz hx7
      simp only at h
      split at h
      · have := decG_at s a f (i + 1) _ n k (by omega) hz7 h
        omega
      · split at h
        · cases h
        · injection h with h
          injection h with h1 h2
          have hz63 := top7 _ i (by omega) hz7
          generalize z + b.toNat % 128 * 2 ^ (7 * i) = y at *
          have : uz y < 4611686018427387904 := by unfold uz; split <;> omega
          omega
theorem decI_at {s : List UInt8} {a : Nat} {n : Int} {k : Nat} (h : decI s a = some (n, k)) : a < k ∧ k ≤ s.length ∧ -4611686018427387903 ≤ n ∧ n < 4611686018427387904 := decG_at s a 9 0 0 n k rfl (by decide) h
theorem extract_str (s : List UInt8) (k m : Nat) : (str s).extract k (k + m) = str ((s.drop k).take m) := by
  apply ByteArray.ext
  simp [str, ByteArray.data_extract, List.extract_eq_take_drop]

theorem string_none (s : List UInt8) (a : Nat) (ha : a ≤ s.length) (hs : s.length ≤ 1099511627776) (hd : decI s a = none) : DoesR Tryz.prog 139 #[.string (str s), .int .i64 (a : Int)] [] (strR none) := by
 refine spec_enter func139 rfl ntmps139 rfl ?_
 intro u R
 refine Zb [0, 1] ?_
 refine Zq <| Zg <| Za Y <| Za Y <| Za Y <| Z0 <| Zx <| Zq <| Zg <| Zm Y <| Zm Y <| Zr [_, _] Y call120 Y rfl ((hd ▸ int_spec s a ha hs : DoesR Tryz.prog 120 #[.string (str s), .int .i64 (a : Int)] [] (intV none))) ?_
 rintro _ _ ⟨rfl, rfl⟩
 refine Zm Y <| Zd Y rfl <| Zd Y rfl <| Zd Y rfl <| Za Y <| Za Y <| Za Y <| Z0 <| Zn [0, 7, 8, 9] ?_
 refine Zx <| Zq <| Zq <| Zg <| Zm Y ?_
 first | refine op_v (p_neq_nat (n := 0) Y Y) ?_ | refine op_v (p_neq Y Y) ?_
 refine Z0 <| Zx ?_
 first | refine at_if Y (fun hc1 => ?_) (fun hc1 => ?_) | refine at_if_bool Y (fun hc1 => ?_) (fun hc1 => ?_)
 ·
  refine Zq <| Zg <| Zm Y <| Za Y <| Za Y <| Za Y <| Z0 <| Zx <| at_ret <| Zt ?_
  refine nx_end3 rfl results139 Y Y Y (by exact ⟨rfl, rfl⟩)
 ·
  exact absurd (by decide) hc1

theorem string_some (s : List UInt8) (a : Nat) (ha : a ≤ s.length) (hs : s.length ≤ 1099511627776) (n : Int) (k : Nat) (hd : decI s a = some (n, k)) : DoesR Tryz.prog 139 #[.string (str s), .int .i64 (a : Int)] [] (strR (decS s a)) := by
 have hss := str_size s
 have hat := decI_at hd
 have hS : decS s a = if n < 0 ∨ 65536 < n ∨ (s.length : Int) - (k : Int) < n then none else some ((s.drop k).take n.toNat, k + n.toNat) := by unfold decS; rw [hd]
 obtain ⟨r, hr⟩ : ∃ r, r = decS s a := ⟨_, rfl⟩
 rw [← hr] at hS
 rw [← hr]
 refine spec_enter func139 rfl ntmps139 rfl ?_
 intro u R
 refine Zb [0, 1] ?_
 refine Zq <| Zg <| Za Y <| Za Y <| Za Y <| Z0 <| Zx <| Zq <| Zg <| Zm Y <| Zm Y <| Zr [_, _] Y call120 Y rfl ((hd ▸ int_spec s a ha hs : DoesR Tryz.prog 120 #[.string (str s), .int .i64 (a : Int)] [] (intV (some (n, k))))) ?_
 rintro _ _ ⟨rfl, rfl⟩
 refine Zm Y <| Zd Y rfl <| Zd Y rfl <| Zd Y rfl <| Za Y <| Za Y <| Za Y <| Z0 <| Zn [0, 7, 8, 9] ?_
 refine Zx <| Zq <| Zq <| Zg <| Zm Y ?_
 first | refine op_v (p_neq_nat (n := 0) Y Y) ?_ | refine op_v (p_neq Y Y) ?_
 refine Z0 <| Zx ?_
 first | refine at_if Y (fun hc1 => ?_) (fun hc1 => ?_) | refine at_if_bool Y (fun hc1 => ?_) (fun hc1 => ?_)
 ·
  exact absurd rfl hc1
 ·
  refine at_skip <| Zx <| Zq <| Zq <| Zg <| Zm Y ?_
  first | refine op_v (p_lss_nat (n := 0) Y Y) ?_ | refine op_v (p_lss Y Y) ?_
  refine Zm Y ?_
  first | refine ops_split (t := 22) Y rfl (fun hc2 => ?_) (fun hc2 => ?_) | refine ops_split_bool (t := 22) Y rfl (fun hc2 => ?_) (fun hc2 => ?_)
  ·
   refine op_skip Y rfl <| op_skip Y rfl <| Zv (p_pick_t Y Y) <| Zm Y <| op_skip Y rfl <| op_skip Y rfl <| op_skip Y rfl <| op_skip Y rfl <| op_skip Y rfl <| op_skip Y rfl <| Zv (p_pick_t Y Y) <| Z0 <| Zn [0, 7, 8, 33] ?_
   refine Zx <| at_then Y <| Zq <| Zg <| Za Y <| Za Y <| Za Y <| Z0 <| Zx <| at_ret <| Zt ?_
   refine nx_end3 rfl results139 Y Y Y (by
         rw [if_pos (by omega)] at hS
         exact ⟨by rw [hS]; rfl, rfl⟩)
  ·
   refine Zf Y Y ?_
   first | refine op_wg Y (p_gtr_nat (n := 65536) Y Y) rfl rfl ?_ | refine op_wg Y (p_gtr Y Y) rfl rfl ?_
   refine Zv (p_pick_f Y Y) <| Zm Y ?_
   first | refine ops_split (t := 26) Y rfl (fun hc3 => ?_) (fun hc3 => ?_) | refine ops_split_bool (t := 26) Y rfl (fun hc3 => ?_) (fun hc3 => ?_)
   ·
    refine op_skip Y rfl <| op_skip Y rfl <| op_skip Y rfl <| op_skip Y rfl <| op_skip Y rfl <| op_skip Y rfl <| Zv (p_pick_t Y Y) <| Z0 <| Zn [0, 7, 8, 33] ?_
    refine Zx <| at_then Y <| Zq <| Zg <| Za Y <| Za Y <| Za Y <| Z0 <| Zx <| at_ret <| Zt ?_
    refine nx_end3 rfl results139 Y Y Y (by
          rw [if_pos (by omega)] at hS
          exact ⟨by rw [hS]; rfl, rfl⟩)
   ·
    refine Zf Y Y <| Zf Y Y <| op_wg Y (p_len_str underlying9 Y) rfl rfl ?_
    refine Zf Y Y ?_
    first | (refine op_wg Y (p_sub_nat Y Y ?_ ?_) rfl rfl ?_; (focus (omega)); (focus (omega))) | (refine op_wg Y (p_sub Y Y (IntWalk.i64_in _ ?_)) rfl rfl ?_; (focus (omega)))
    first | refine op_wg Y (p_gtr_nat Y Y) rfl rfl ?_ | refine op_wg Y (p_gtr Y Y) rfl rfl ?_
    refine Zv (p_pick_f Y Y) <| Z0 <| Zn [0, 7, 8, 33] ?_
    refine Zx ?_
    first | refine at_if Y (fun hc4 => ?_) (fun hc4 => ?_) | refine at_if_bool Y (fun hc4 => ?_) (fun hc4 => ?_)
    ·
     refine Zq <| Zg <| Za Y <| Za Y <| Za Y <| Z0 <| Zx <| at_ret <| Zt ?_
     refine nx_end3 rfl results139 Y Y Y (by
           rw [if_pos (by omega)] at hS
           exact ⟨by rw [hS]; rfl, rfl⟩)
    ·
     refine at_skip <| Zx <| Zq ?_
     obtain ⟨m, rfl⟩ := Int.eq_ofNat_of_zero_le (show 0 ≤ n by omega)
     rw [if_neg (by omega), Int.toNat_natCast] at hS
     subst hS
     refine Zg <| Zm Y <| Zm Y <| Zm Y <| Zm Y ?_
     first | (refine op_v (p_add_nat Y Y ?_) ?_; (focus (omega))) | (refine op_v (p_add Y Y (IntWalk.i64_in _ ?_)) ?_; (focus (omega)))
     (refine op_v (p_slice_str underlying9 Y Y Y ?_ ?_) ?_; (focus (omega)); (focus (omega)))
     refine Zm Y <| Zm Y ?_
     first | (refine op_v (p_add_nat Y Y ?_) ?_; (focus (omega))) | (refine op_v (p_add Y Y (IntWalk.i64_in _ ?_)) ?_; (focus (omega)))
     refine Za Y <| Za Y <| Za Y <| Z0 <| Zx <| at_ret ?_
     refine nx_end3 rfl results139 Y Y Y (by exact ⟨by rw [extract_str]; rfl, rfl⟩)

theorem string_spec (s : List UInt8) (a : Nat) (ha : a ≤ s.length) (hs : s.length ≤ 1099511627776) : DoesR Tryz.prog 139 #[.string (str s), .int .i64 (a : Int)] [] (strR (decS s a)) := by
  cases hd : decI s a with
  | none =>
    have : decS s a = none := by unfold decS; rw [hd]
    rw [this]; exact string_none s a ha hs hd
  | some p => obtain ⟨n, k⟩ := p; exact string_some s a ha hs n k hd

end Go.Proofs.YthbadolcncojbaaGreatDoor
