/- The reference of chapter 2: Sum, Chain, Head. -/
/- The reference of layer 1: PutInt, Int, String. -/
import Derived.Test.YtjeepldonhgohaaGreatDoorEz
import Derived.Test.YtjeepldonhgohaaGreatDoorRf2
import Derived.Test.YtjeepldonhgohaaGreatDoorTr3
namespace Go.Proofs.YtjeepldonhgohaaGreatDoor
open Go.Proofs.Tryz
open Go Go.RowKit Gw
set_option linter.unusedVariables false
set_option linter.unusedSimpArgs false
set_option maxRecDepth 100000
attribute [local irreducible] Gw.At Gw.Nx Gw.Ops
theorem cut_mid (b l cap n : Nat) (h : l < cap) (e : n = 64) : Value.slice (cutAt (some ⟨b, 0, none⟩) l cap 1) n (cap - l) = .slice (some ⟨b, l, none⟩) 64 (cap - l) := by
  subst e
  unfold cutAt
  rw [if_neg (by omega), Option.map_some, add_addr, Nat.mul_one, Nat.zero_add]
theorem outW_step (l : List UInt32) (i : Nat) (h : i < l.length) : ((l.take (i + 1)).flatMap out32).map u8v = ((l.take i).flatMap out32).map u8v ++ [.int .u8 (((l.getD i 0) >>> UInt32.ofNat 24).toUInt8.toNat : Int), .int .u8 (((l.getD i 0) >>> UInt32.ofNat 16).toUInt8.toNat : Int), .int .u8 (((l.getD i 0) >>> UInt32.ofNat 8).toUInt8.toNat : Int), .int .u8 ((l.getD i 0).toUInt8.toNat : Int)] := by
  have e : l.take (i + 1) = l.take i ++ [l.getD i 0] := by
    have := take_step (fun x : UInt32 => x) l i 0 h
    simpa using this
  rw [e, List.flatMap_append, List.map_append]; rfl
theorem out4_len (l : List UInt32) : (l.flatMap out32).length = 4 * l.length := by
  induction l with
  | nil => rfl
  | cons a l ih => simp only [List.flatMap_cons, List.length_append, ih, List.length_cons, out32, List.length_nil]; omega

theorem rsum_spec (l : List UInt8) (hs : l.length ≤ 140737488355000) : DoesR Tryz.prog 69 #[.string (str l)] [] (.string (str (sha l))) := by
 have hml : maxLen = 9223372036854775807 := rfl
 obtain ⟨M, hM⟩ : ∃ M, (padded l).length = 64 * M := ⟨(padded l).length / 64, by have := padded_mod l; omega⟩
 have hpl := padded_len l
 have hzp : zpad l.length < 64 := by unfold zpad; omega
 refine spec_enter func69 rfl ntmps69 rfl ?_
 intro u R
 refine Zb [0] ?_
 refine Zq <| Zg <| Za Y <| Z0 <| Zx <| Zq <| Zg <| Ze (w_buildSlice (vs := [_, _, _, _, _, _, _, _]) (cs := [_, _, _, _, _, _, _, _]) underlying160 sizeOf108 zeroValue108 Y rfl rfl rfl rfl rfl) ?_
 rintro _ _ ⟨g0, rfl, rfl⟩
 refine Za Y <| Z0 <| Zx <| Zq <| Zg <| Zm Y <| Zc [_] Y call108 Y rfl (rext_spec l hs) ?_
 rintro _ _ ⟨_, ⟨sp, hrp, rfl⟩, rfl⟩
 obtain ⟨gp, capp, curp, zp, rfl, rfl, hlep, hcmp, hcsp, htkp, hfrp⟩ := hrp.some (by rw [List.length_map]; omega)
 rw [List.length_map] at hlep htkp ⊢
 refine Za Y <| Z0 <| Zx <| Zq <| Zq <| Zg <| Za Y <| Z0 <| Zx <| at_block <| Zb [3, 5, 4] ?_
 refine at_loopB (e0 := [(3, _), (5, _)]) (H0 := _) (n := _) (fun m e H => ∃ (k : Nat) (v : Value) (sv : List Chunk), m = M - k ∧ (k ≤ M ∧ Row 108 v ((blocks k h0 (padded l)).list.map u32v) sv) ∧ e = [(3, v), (5, .int .i64 ((64 * k : Nat) : Int))] ∧ H = [sv]) (by exact ⟨0, _, _, rfl, ⟨Nat.zero_le _, row_new _ g0 (h0.list.map u32v) 8 rfl (by decide)⟩, rfl, rfl⟩) (by repeat (first | exact Pull.nil _ | (apply Pull.cons; (focus (repeat (first | exact One.here _ _ | apply One.there)))))) ?_
 rintro _ _ _ ⟨k, v, sv, rfl, ⟨hk, hrv⟩, rfl, rfl⟩
 obtain ⟨gh, caph, curh, zh, rfl, rfl, hleh, hcmh, hcsh, htkh, hfrh⟩ := hrv.some (by show 0 < 8; decide)
 rw [show (List.map u32v (blocks k h0 (padded l)).list).length = 8 from rfl] at hleh ⊢
 refine Zq <| Zq <| Zg <| Zm Y <| Zm Y <| Zv (p_len_slice underlying111 Y) <| Zv (p_lss_nat Y Y) <| Z0 <| Zx ?_
 refine at_if Y (fun hlt => ?_) (fun hlt => ?_)
 ·
  refine at_skip <| Zx <| Zq <| at_block <| Zg <| Zm Y <| Zm Y <| Zm Y <| Zm Y <| Ya (n := 64) Y Y ?_
  (refine op_v (p_slice_slice underlying111 sizeOf5 Y Y Y ?_ ?_) ?_; (focus (omega)); (focus (omega)))
  rw [cut_mid gp (64 * k) capp _ (by omega) (by omega)]
  refine Zc [_, _] Y call109 Y rfl (rblock_spec gh caph gp (64 * k) (capp - 64 * k) curh curp _ _ zh zp (blocks k h0 (padded l)) (((padded l).drop (64 * k)).take 64) htkh (bytes_chunk (by rw [List.length_map]; exact htkp) k (by omega)) (by rw [List.length_take, List.length_drop]; omega)) ?_
  rintro _ _ ⟨_, ⟨sq, hrq, rfl⟩, rfl⟩
  refine Za Y <| Z0 <| nx_block_normal <| Zx <| Zg <| Zm Y <| Ya (n := 64) Y Y <| Za Y <| Z0 <| Zn [3, 5, 4] ?_
  refine nx_againB (e' := [(3, _), (5, _)]) (m := _) (H' := _) (by exact ⟨k + 1, _, _, rfl, ⟨by omega, by rw [blocks_snoc]; exact hrq⟩, rfl, rfl⟩)
 ·
  have ek : M = k := by omega
  subst ek
  refine at_exit <| Zt <| Zt <| nx_block_exit <| Zx <| Zq <| Zg <| Za Y <| Z0 <| Zx <| Zq <| Zq <| Zg <| Za Y <| Z0 <| Zx <| at_block <| at_nil ?_
  refine Zb [6, 7, 3] ?_
  refine at_loopB (e0 := [(6, _), (7, _)]) (H0 := _) (n := _) (fun m e H => ∃ (i : Nat) (v : Value) (sv : List Chunk), m = 8 - i ∧ (i ≤ 8 ∧ Row 5 v ((((blocks M h0 (padded l)).list.take i).flatMap out32).map u8v) sv) ∧ e = [(6, v), (7, .int .i64 (i : Int))] ∧ H = [sv]) (by exact ⟨0, _, [], rfl, ⟨Nat.zero_le _, row_nil _⟩, rfl, rfl⟩) (by repeat (first | exact Pull.nil _ | (apply Pull.cons; (focus (repeat (first | exact One.here _ _ | apply One.there)))))) ?_
  rintro _ _ _ ⟨i, v, sv, rfl, ⟨hi, hro⟩, rfl, rfl⟩
  obtain ⟨gv, cv, rfl⟩ := hro.form
  have htl : ((blocks M h0 (padded l)).list.take i).length ≤ i := List.length_take_le ..
  refine Zq <| Zq <| Zg <| Zm Y <| Zv (p_lss_nat (n := 8) Y Y) <| Z0 <| Zx ?_
  refine at_if Y (fun hi8 => ?_) (fun hi8 => ?_)
  ·
   refine at_skip <| Zx <| Zq <| at_block <| at_draw (n := 27) (0 :: 0 :: 0 :: 6 :: 14 :: 30 :: 62 :: 0 :: 0 :: 384 :: 896 :: 1920 :: 3968 :: 0 :: 0 :: 24576 :: 57344 :: 122880 :: 253952 :: 0 :: 0 :: 1572864 :: 3670016 :: 7864320 :: 16777214 :: 33554431 :: 67108863 :: []) 50331648 (by kernel_rfl) (by kernel_rfl) rfl ?_
   refine Zi 1 0 rfl (p_move Y) <| Zi 3 1 rfl (p_move Y) <| Zi 7 2 rfl (p_move Y) ?_
   (refine lin_v (D' := 15) 3 (p_indexAddr_nat0 underlying160 sizeOf108 Y Y ?_) ?_; (focus (omega)))
   refine Zj 31 4 rfl isAgg108 Y (hv := by exact v8_at htkh i (by omega)) ?_
   (refine lin_v (D' := 63) 5 (p_shr_u32 (n := 24) Y Y ?_) ?_; (focus (omega)))
   refine Zi 127 6 rfl (p_conv_u32_u8 underlying108 underlying5 Y) <| Zi 255 7 rfl (p_move Y) <| Zi 511 8 rfl (p_move Y) ?_
   (refine lin_v (D' := 1023) 9 (p_indexAddr_nat0 underlying160 sizeOf108 Y Y ?_) ?_; (focus (omega)))
   refine Zj 2047 10 rfl isAgg108 Y (hv := by exact v8_at htkh i (by omega)) ?_
   (refine lin_v (D' := 4095) 11 (p_shr_u32 (n := 16) Y Y ?_) ?_; (focus (omega)))
   refine Zi 8191 12 rfl (p_conv_u32_u8 underlying108 underlying5 Y) <| Zi 16383 13 rfl (p_move Y) <| Zi 32767 14 rfl (p_move Y) ?_
   (refine lin_v (D' := 65535) 15 (p_indexAddr_nat0 underlying160 sizeOf108 Y Y ?_) ?_; (focus (omega)))
   refine Zj 131071 16 rfl isAgg108 Y (hv := by exact v8_at htkh i (by omega)) ?_
   (refine lin_v (D' := 262143) 17 (p_shr_u32 (n := 8) Y Y ?_) ?_; (focus (omega)))
   refine Zi 524287 18 rfl (p_conv_u32_u8 underlying108 underlying5 Y) <| Zi 1048575 19 rfl (p_move Y) <| Zi 2097151 20 rfl (p_move Y) ?_
   (refine lin_v (D' := 4194303) 21 (p_indexAddr_nat0 underlying160 sizeOf108 Y Y ?_) ?_; (focus (omega)))
   refine Zj 8388607 22 rfl isAgg108 Y (hv := by exact v8_at htkh i (by omega)) ?_
   refine Zi 16777215 23 rfl (p_conv_u32_u8 underlying108 underlying5 Y) <| Zz (l := [24]) ?_
   refine Zy 16777214 33554431 [22, 16, 10, 4] [false, false, false, false] [] rfl Y rfl rfl rfl rfl (w_buildSlice (vs := [_, _, _, _]) (cs := [_, _, _, _]) underlying111 sizeOf5 zeroValue5 Y rfl rfl rfl rfl rfl) ?hk_4 (fun _ _ h => h.elim) ?hl_4
   case hk_4 =>
    rintro _ _ ⟨g4, rfl, rfl⟩
    refine ⟨keep_nil, ?_⟩
    refine Zz (l := [25]) ?_
    refine Zy 33554431 67108863 [] [] [] rfl Y rfl rfl rfl rfl (w_append (by_ := 1) (news := [_, _, _, _]) underlying111 (rfl : Tryz.prog.info? 5 = some Tryz.t5) rfl rfl rfl rfl Y hro Y (by repeat (first | exact One.here _ _ | apply One.there)) (by repeat (first | exact Has.here _ | apply Has.there)) (by rfl) rfl (by simp [Value.oneCell']) (by decide) (by (simp only [List.length_map, out4_len]; omega)) (by (simp only [List.length_map, out4_len]; omega))) ?hk_5 (fun _ _ h => h.elim) ?hl_5
    case hk_5 =>
     rintro _ _ ⟨sw, hrw, rfl⟩
     refine ⟨keep_nil, ?_⟩
     obtain ⟨gw, cw, rfl⟩ := hrw.form
     refine Zi 134217727 26 rfl (p_assign Y) <| lin_nil ?_
     refine Zn [3, 6, 7] ?_
     refine nx_block_normal <| Zx <| Zg <| Zm Y <| Ya (n := 1) Y Y <| Za Y <| Z0 <| Zn [6, 7, 3] ?_
     refine nx_againB (e' := [(6, _), (7, _)]) (m := _) (H' := _) (by exact ⟨i + 1, _, _, rfl, ⟨by omega, by rw [outW_step (blocks M h0 (padded l)).list i (show i < 8 by omega)]; exact hrw⟩, rfl, rfl⟩)
    case hl_5 =>
     exact each_nil
   case hl_4 =>
    exact each_nil
  ·
   have ei : i = 8 := by omega
   subst ei
   obtain ⟨go, capo, curo, zo, hvo, rfl, hleo, hcmo, hcso, htko, hfro⟩ := hro.some (by rw [List.length_map, out4_len]; show 0 < 4 * 8; decide)
   injection hvo with e1 e2 e3
   subst e1 e3
   refine at_exit <| Zt <| Zt <| nx_block_exit <| Zx <| Zq <| Zg <| Zm Y <| Zo (by repeat (first | exact Has.here _ | apply Has.there)) (p_conv_bytes_str underlying111 underlying5 underlying9 Y (by exact ⟨htko, by simp⟩)) ?_
   refine Za Y <| Z0 <| Zx <| at_ret ?_
   refine nx_end1 rfl results69 Y (by exact ⟨by rw [sha_def l M hM]; rfl, rfl⟩)

end Go.Proofs.YtjeepldonhgohaaGreatDoor

namespace Go.Proofs.YtjeepldonhgohaaGreatDoor
open Go.Proofs.Tryz
open Go Go.RowKit Gw
set_option linter.unusedVariables false
set_option linter.unusedSimpArgs false
set_option maxRecDepth 100000
attribute [local irreducible] Gw.At Gw.Nx Gw.Ops
theorem zz_nat (n : Nat) : zz (n : Int) = 2 * n := by unfold zz; rw [if_neg (by omega)]; omega

theorem rzig_spec (n : Nat) (h2 : n ≤ 4611686018427387903) : DoesR Tryz.prog 100 #[.int .i64 (n : Int)] [] (.int .u64 ((zz (n : Int) : Nat) : Int)) := by
 refine spec_enter func100 rfl ntmps100 rfl ?_
 intro u R
 refine Zb [0] ?_
 refine Zq <| Zg <| Za Y <| Z0 <| Zx <| Zq <| Zq <| Zg <| Zm Y <| Zv (p_lss_nat (n := 0) Y Y) <| Z0 <| Zx ?_
 refine at_if Y (fun hc1 => ?_) (fun hc1 => ?_)
 ·
  exfalso; omega
 ·
  refine at_skip <| Zx <| Zq <| Zg <| Zm Y ?_
  (refine op_v (p_conv_nat_u64 underlying3 underlying134 Y ?_) ?_; (focus (omega)))
  (refine op_v (p_mul_nat_u64 (n := 2) Y Y ?_) ?_; (focus (omega)))
  refine Za Y <| Z0 <| Zx <| at_ret ?_
  refine nx_end1 rfl results100 Y (by exact ⟨by rw [zz_nat]; congr 1; omega, rfl⟩)

theorem zz_neg (m : Nat) (h : 0 < m) : zz (-(m : Int)) = 2 * m - 1 := by unfold zz; rw [if_pos (by omega)]; omega
def putE (n : Int) : Int := if n < -4611686018427387903 then 10 else 0

theorem rzig_neg (m : Nat) (h0 : 0 < m) (h2 : m ≤ 4611686018427387903) : DoesR Tryz.prog 100 #[.int .i64 (-(m : Int))] [] (.int .u64 ((zz (-(m : Int)) : Nat) : Int)) := by
 refine spec_enter func100 rfl ntmps100 rfl ?_
 intro u R
 refine Zb [0] ?_
 refine Zq <| Zg <| Za Y <| Z0 <| Zx <| Zq <| Zq <| Zg <| Zm Y <| Zv (p_lss Y Y) <| Z0 <| Zx ?_
 refine at_if Y (fun hc1 => ?_) (fun hc1 => ?_)
 ·
  refine Zq <| Zg <| Zm Y <| op_w (p_neg (c := (m : Int)) Y (by rw [IntKind.wrap_i64]; omega)) rfl rfl ?_
  (refine op_v (p_conv_nat_u64 underlying3 underlying134 Y ?_) ?_; (focus (omega)))
  (refine op_v (p_mul_nat_u64 (n := 2) Y Y ?_) ?_; (focus (omega)))
  (refine op_v (p_sub_nat_u64 (n := 1) Y Y ?_ ?_) ?_; (focus (omega)); (focus (omega)))
  refine Za Y <| Z0 <| Zx <| at_ret <| Zt ?_
  refine nx_end1 rfl results100 Y (by exact ⟨by rw [zz_neg m h0]; congr 1; omega, rfl⟩)
 ·
  exfalso; omega

theorem rzigZ (n : Int) (h1 : -4611686018427387903 ≤ n) (h2 : n ≤ 4611686018427387903) : DoesR Tryz.prog 100 #[.int .i64 n] [] (.int .u64 ((zz n : Nat) : Int)) := by
  by_cases h : n < 0
  · obtain ⟨m, rfl⟩ : ∃ m : Nat, n = -(m : Int) := ⟨n.natAbs, by omega⟩
    exact rzig_neg m (by omega) (by omega)
  · obtain ⟨m, rfl⟩ : ∃ m : Nat, n = (m : Int) := ⟨n.natAbs, by omega⟩
    exact rzig_spec m (by omega)

theorem rputIntZ (n : Int) (h1 : -4611686018427387903 ≤ n) (h2 : n ≤ 4611686018427387903) : DoesR Tryz.prog 64 #[.int .i64 n] [] (.tuple #[.string (str (encI n)), .int .i64 0]) := by
 have hml : maxLen = 9223372036854775807 := rfl
 have hzl := zz_lt n (by omega) (by omega)
 have hgl := encI_len n (by omega) (by omega)
 unfold encI at hgl
 rw [List.length_map] at hgl
 refine spec_enter func64 rfl ntmps64 rfl ?_
 intro u R
 refine Zb [0] ?_
 refine Zq <| Zg <| Za Y <| Za Y <| Z0 <| Zx <| Zq <| Zq <| Zg <| Zm Y <| Zv (p_lss Y Y) <| Zm Y ?_
 refine ops_split (t := 8) Y rfl (fun hc1 => ?_) (fun hc1 => ?_)
 ·
  exfalso; omega
 ·
  refine Zf Y Y <| Yg (p_gtr Y Y) <| Zv (p_pick_f Y Y) <| Z0 <| Zx ?_
  refine at_if Y (fun hc2 => ?_) (fun hc2 => ?_)
  ·
   exfalso; omega
  ·
   refine at_skip <| Zx <| Zq <| Zg <| Zm Y <| Zr [_] Y call100 Y rfl (rzigZ n h1 h2) ?_
   rintro _ _ ⟨rfl, rfl⟩
   refine Za Y <| Z0 <| Zx <| Zq <| Zg <| Za Y <| Z0 <| Zx <| Zq <| at_block <| at_nil ?_
   refine Zb [4, 5] ?_
   refine at_loopB (e0 := [(4, _), (5, _)]) (H0 := _) (n := _) (fun m e H => ∃ (pre : List (Nat × Bool)) (y : Nat) (v : Value) (sv : List Chunk), m = 0 + y ∧ (grps (zz n) = pre ++ grps y ∧ y < 9223372036854775808 ∧ Row 5 v ((pre.map gb).map u8v) sv) ∧ e = [(4, .int .u64 (y : Int)), (5, v)] ∧ H = [sv]) (by exact ⟨[], zz n, _, [], rfl, ⟨rfl, hzl, row_nil _⟩, rfl, rfl⟩) (by repeat (first | exact Pull.nil _ | (apply Pull.cons; (focus (repeat (first | exact One.here _ _ | apply One.there)))))) ?_
   rintro _ _ _ ⟨pre, y, v, sv, rfl, ⟨hsp, hy, hrv⟩, rfl, rfl⟩
   have hpl := congrArg List.length hsp
   rw [List.length_append, grps_eq y, List.length_cons] at hpl
   obtain ⟨gv, cv, rfl⟩ := hrv.form
   refine Zq <| Zq <| Zg <| Zm Y <| Zv (p_geq_nat (n := 128) Y Y) <| Z0 <| Zx ?_
   refine at_if Y (fun hge => ?_) (fun hge => ?_)
   ·
    refine at_skip <| Zx <| at_block <| Zq <| Zg <| Zm Y <| Zm Y <| op_w (p_rem (m := (y : Int)) (n := 128) (c := ((y % 128 : Nat) : Int)) Y Y (by decide) (by rw [Int.tmod_eq_emod_of_nonneg (by omega)]; rfl)) rfl rfl ?_
    (refine op_v (p_add_nat_u64 (n := 128) Y Y ?_) ?_; (focus (omega)))
    (refine op_v (p_conv_nat_u8 underlying134 underlying5 Y ?_) ?_; (focus (omega)))
    refine Ze (w_buildSlice (vs := [_]) (cs := [_]) underlying111 sizeOf5 zeroValue5 Y rfl rfl rfl rfl rfl) ?_
    rintro _ _ ⟨b1, rfl, rfl⟩
    refine Ze (w_append (by_ := 1) (news := [_]) underlying111 (rfl : Tryz.prog.info? 5 = some Tryz.t5) rfl rfl rfl rfl Y hrv Y (by repeat (first | exact One.here _ _ | apply One.there)) (by repeat (first | exact Has.here _ | apply Has.there)) (by rfl) rfl (by simp [Value.oneCell']) (by decide) (by (simp only [List.length_map]; omega)) (by (simp only [List.length_map]; omega))) ?_
    rintro _ _ ⟨sq, hrq, rfl⟩
    obtain ⟨gq, cq, rfl⟩ := hrq.form
    refine Za Y <| Z0 <| Zx <| Zg <| Zm Y <| op_w (p_quo (m := (y : Int)) (n := 128) (c := ((y / 128 : Nat) : Int)) Y Y (by decide) (by rw [Int.tdiv_eq_ediv_of_nonneg (by omega), IntKind.wrap_u64]; omega)) rfl rfl ?_
    refine Za Y <| Z0 <| Zn [4, 5] ?_
    refine nx_block_normal <| Zn [4, 5] ?_
    refine nx_againB (e' := [(4, _), (5, _)]) (m := _) (H' := _) (by
          exact ⟨pre ++ [(y % 128, false)], y / 128, _, _, rfl, ⟨by rw [hsp, grps_eq y, if_neg (by omega), decide_eq_false (by omega)]; simp, by omega, by
            have hgv := gb_val (y % 128, false) (Nat.mod_lt _ (by decide))
            rw [List.map_append, List.map_append, List.map_singleton, List.map_singleton, hgv]; exact hrq⟩, rfl, rfl⟩)
   ·
    have hfin : (grps (zz n)).map gb = pre.map gb ++ [gb (y, true)] := by rw [hsp, grps_eq y, if_pos (by omega), decide_eq_true (by omega), Nat.mod_eq_of_lt (by omega)]; simp
    have hgv := gb_val (y, true) (by show y < 128; omega)
    refine at_exit <| Zt <| Zt <| nx_block_exit <| Zx <| Zq <| Zg <| Zm Y <| Zm Y ?_
    (refine op_v (p_conv_nat_u8 underlying134 underlying5 Y ?_) ?_; (focus (omega)))
    refine Ze (w_buildSlice (vs := [_]) (cs := [_]) underlying111 sizeOf5 zeroValue5 Y rfl rfl rfl rfl rfl) ?_
    rintro _ _ ⟨b3, rfl, rfl⟩
    refine Ze (w_append (by_ := 1) (news := [_]) underlying111 (rfl : Tryz.prog.info? 5 = some Tryz.t5) rfl rfl rfl rfl Y hrv Y (by repeat (first | exact One.here _ _ | apply One.there)) (by repeat (first | exact Has.here _ | apply Has.there)) (by rfl) rfl (by simp [Value.oneCell']) (by decide) (by (simp only [List.length_map]; omega)) (by (simp only [List.length_map]; omega))) ?_
    rintro _ _ ⟨sw, hrw, rfl⟩
    obtain ⟨gw, cw, rfl⟩ := hrw.form
    have e9 : List.map u8v (List.map gb pre) ++ [Value.int .u8 (y : Int)] = (encI n).map u8v := by
      unfold encI; rw [hfin, List.map_append, List.map_singleton, hgv]; rfl
    rw [e9] at hrw ⊢
    obtain ⟨g9, c9, cur9, z9, hv9, rfl, hle9, hcm9, hcs9, htk9, hfr9⟩ := hrw.some (by rw [List.length_map]; exact encI_pos _)
    rw [hv9]
    refine Zo (by repeat (first | exact Has.here _ | apply Has.there)) (p_conv_bytes_str underlying111 underlying5 underlying9 Y (by exact ⟨htk9, by simp⟩)) ?_
    refine Za Y <| Za Y <| Z0 <| Zx <| at_ret ?_
    refine nx_end2 rfl results64 Y Y (by exact ⟨rfl, rfl⟩)

end Go.Proofs.YtjeepldonhgohaaGreatDoor
