/- The reference of chapter 2: Sum, Chain, Head. -/
/- The reference of layer 1: PutInt, Int, String. -/
/- The references: Left, Leaf, Node, Root; Encode; Order, Entries, Summaries. -/
import Derived.Test.YtjeepldonhgohaaGreatDoorEz
import Derived.Test.YtjeepldonhgohaaGreatDoorRf2
import Derived.Test.YtjeepldonhgohaaGreatDoorTr3
import Derived.Test.YtjeepldonhgohaaGreatDoorTr13
namespace Go.Proofs.YtjeepldonhgohaaGreatDoor
open Go.Proofs.Tryz
open Go Go.RowKit Gw
set_option linter.unusedVariables false
set_option linter.unusedSimpArgs false
set_option maxRecDepth 100000
attribute [local irreducible] Gw.At Gw.Nx Gw.Ops
theorem cut_mid (b l cap n : Nat) (h : l < cap) (e : n = 64) : Value.slice (cutAt (some ⟨b, 0, none⟩) l cap 1) n (cap - l) = .slice (some ⟨b, l, none⟩) 64 (cap - l) := by
  subst e
  unfold cutAt
  rw [if_neg (by omega), Option.map_some, add_addr, Nat.mul_one, Nat.zero_add]
theorem outW_step (l : List UInt32) (i : Nat) (h : i < l.length) : ((l.take (i + 1)).flatMap out32).map u8v = ((l.take i).flatMap out32).map u8v ++ [.int .u8 (((l.getD i 0) >>> UInt32.ofNat 24).toUInt8.toNat : Int), .int .u8 (((l.getD i 0) >>> UInt32.ofNat 16).toUInt8.toNat : Int), .int .u8 (((l.getD i 0) >>> UInt32.ofNat 8).toUInt8.toNat : Int), .int .u8 ((l.getD i 0).toUInt8.toNat : Int)] := by
  have e : l.take (i + 1) = l.take i ++ [l.getD i 0] := by
    have := take_step (fun x : UInt32 => x) l i 0 h
    simpa using this
  rw [e, List.flatMap_append, List.map_append]; rfl
theorem out4_len (l : List UInt32) : (l.flatMap out32).length = 4 * l.length := by
  induction l with
  | nil => rfl
  | cons a l ih => simp only [List.flatMap_cons, List.length_append, ih, List.length_cons, out32, List.length_nil]; omega

theorem rsum_spec (l : List UInt8) (hs : l.length ≤ 1099511627776) : DoesR Tryz.prog 69 #[.string (str l)] [] (.string (str (sha l))) := by
 have hml : maxLen = 9223372036854775807 := rfl
 obtain ⟨M, hM⟩ : ∃ M, (padded l).length = 64 * M := ⟨(padded l).length / 64, by have := padded_mod l; omega⟩
 have hpl := padded_len l
 have hzp : zpad l.length < 64 := by unfold zpad; omega
 refine spec_enter func69 rfl ntmps69 rfl ?_
 intro u R
 refine Zb [0] ?_
 refine Zq <| Zg <| Za Y <| Z0 <| Zx <| Zq <| Zg <| Ze (w_buildSlice (vs := [_, _, _, _, _, _, _, _]) (cs := [_, _, _, _, _, _, _, _]) underlying160 sizeOf108 zeroValue108 Y rfl rfl rfl rfl rfl) ?_
 rintro _ _ ⟨g0, rfl, rfl⟩
 refine Za Y <| Z0 <| Zx <| Zq <| Zg <| Zm Y <| Zc [_] Y call108 Y rfl (rext_spec l hs) ?_
 rintro _ _ ⟨_, ⟨sp, hrp, rfl⟩, rfl⟩
 obtain ⟨gp, capp, curp, zp, rfl, rfl, hlep, hcmp, hcsp, htkp, hfrp⟩ := hrp.some (by rw [List.length_map]; omega)
 rw [List.length_map] at hlep htkp ⊢
 refine Za Y <| Z0 <| Zx <| Zq <| Zq <| Zg <| Za Y <| Z0 <| Zx <| at_block <| Zb [3, 5, 4] ?_
 refine at_loopB (e0 := [(3, _), (5, _)]) (H0 := _) (n := _) (fun m e H => ∃ (k : Nat) (v : Value) (sv : List Chunk), m = M - k ∧ (k ≤ M ∧ Row 108 v ((blocks k h0 (padded l)).list.map u32v) sv) ∧ e = [(3, v), (5, .int .i64 ((64 * k : Nat) : Int))] ∧ H = [sv]) (by exact ⟨0, _, _, rfl, ⟨Nat.zero_le _, row_new _ g0 (h0.list.map u32v) 8 rfl (by decide)⟩, rfl, rfl⟩) (by repeat (first | exact Pull.nil _ | (apply Pull.cons; (focus (repeat (first | exact One.here _ _ | apply One.there)))))) ?_
 rintro _ _ _ ⟨k, v, sv, rfl, ⟨hk, hrv⟩, rfl, rfl⟩
 obtain ⟨gh, caph, curh, zh, rfl, rfl, hleh, hcmh, hcsh, htkh, hfrh⟩ := hrv.some (by show 0 < 8; decide)
 rw [show (List.map u32v (blocks k h0 (padded l)).list).length = 8 from rfl] at hleh ⊢
 refine Zq <| Zq <| Zg <| Zm Y <| Zm Y <| Zv (p_len_slice underlying111 Y) <| Zv (p_lss_nat Y Y) <| Z0 <| Zx ?_
 refine at_if Y (fun hlt => ?_) (fun hlt => ?_)
 ·
  refine at_skip <| Zx <| Zq <| at_block <| Zg <| Zm Y <| Zm Y <| Zm Y <| Zm Y <| Ya (n := 64) Y Y ?_
  (refine op_v (p_slice_slice underlying111 sizeOf5 Y Y Y ?_ ?_) ?_; (focus (omega)); (focus (omega)))
  rw [cut_mid gp (64 * k) capp _ (by omega) (by omega)]
  refine Zc [_, _] Y call109 Y rfl (rblock_spec gh caph gp (64 * k) (capp - 64 * k) curh curp _ _ zh zp (blocks k h0 (padded l)) (((padded l).drop (64 * k)).take 64) htkh (bytes_chunk (by rw [List.length_map]; exact htkp) k (by omega)) (by rw [List.length_take, List.length_drop]; omega)) ?_
  rintro _ _ ⟨_, ⟨sq, hrq, rfl⟩, rfl⟩
  refine Za Y <| Z0 <| nx_block_normal <| Zx <| Zg <| Zm Y <| Ya (n := 64) Y Y <| Za Y <| Z0 <| Zn [3, 5, 4] ?_
  refine nx_againB (e' := [(3, _), (5, _)]) (m := _) (H' := _) (by exact ⟨k + 1, _, _, rfl, ⟨by omega, by rw [blocks_snoc]; exact hrq⟩, rfl, rfl⟩)
 ·
  have ek : M = k := by omega
  subst ek
  refine at_exit <| Zt <| Zt <| nx_block_exit <| Zx <| Zq <| Zg <| Za Y <| Z0 <| Zx <| Zq <| Zq <| Zg <| Za Y <| Z0 <| Zx <| at_block <| at_nil ?_
  refine Zb [6, 7, 3] ?_
  refine at_loopB (e0 := [(6, _), (7, _)]) (H0 := _) (n := _) (fun m e H => ∃ (i : Nat) (v : Value) (sv : List Chunk), m = 8 - i ∧ (i ≤ 8 ∧ Row 5 v ((((blocks M h0 (padded l)).list.take i).flatMap out32).map u8v) sv) ∧ e = [(6, v), (7, .int .i64 (i : Int))] ∧ H = [sv]) (by exact ⟨0, _, [], rfl, ⟨Nat.zero_le _, row_nil _⟩, rfl, rfl⟩) (by repeat (first | exact Pull.nil _ | (apply Pull.cons; (focus (repeat (first | exact One.here _ _ | apply One.there)))))) ?_
  rintro _ _ _ ⟨i, v, sv, rfl, ⟨hi, hro⟩, rfl, rfl⟩
  obtain ⟨gv, cv, rfl⟩ := hro.form
  have htl : ((blocks M h0 (padded l)).list.take i).length ≤ i := List.length_take_le ..
  refine Zq <| Zq <| Zg <| Zm Y <| Zv (p_lss_nat (n := 8) Y Y) <| Z0 <| Zx ?_
  refine at_if Y (fun hi8 => ?_) (fun hi8 => ?_)
  ·
   refine at_skip <| Zx <| Zq <| at_block <| at_draw (n := 27) (0 :: 0 :: 0 :: 6 :: 14 :: 30 :: 62 :: 0 :: 0 :: 384 :: 896 :: 1920 :: 3968 :: 0 :: 0 :: 24576 :: 57344 :: 122880 :: 253952 :: 0 :: 0 :: 1572864 :: 3670016 :: 7864320 :: 16777214 :: 33554431 :: 67108863 :: []) 50331648 (by kernel_rfl) (by kernel_rfl) rfl ?_
   refine Zi 1 0 rfl (p_move Y) <| Zi 3 1 rfl (p_move Y) <| Zi 7 2 rfl (p_move Y) ?_
   (refine lin_v (D' := 15) 3 (p_indexAddr_nat0 underlying160 sizeOf108 Y Y ?_) ?_; (focus (omega)))
   refine Zj 31 4 rfl isAgg108 Y (hv := by exact v8_at htkh i (by omega)) ?_
   (refine lin_v (D' := 63) 5 (p_shr_u32 (n := 24) Y Y ?_) ?_; (focus (omega)))
   refine Zi 127 6 rfl (p_conv_u32_u8 underlying108 underlying5 Y) <| Zi 255 7 rfl (p_move Y) <| Zi 511 8 rfl (p_move Y) ?_
   (refine lin_v (D' := 1023) 9 (p_indexAddr_nat0 underlying160 sizeOf108 Y Y ?_) ?_; (focus (omega)))
   refine Zj 2047 10 rfl isAgg108 Y (hv := by exact v8_at htkh i (by omega)) ?_
   (refine lin_v (D' := 4095) 11 (p_shr_u32 (n := 16) Y Y ?_) ?_; (focus (omega)))
   refine Zi 8191 12 rfl (p_conv_u32_u8 underlying108 underlying5 Y) <| Zi 16383 13 rfl (p_move Y) <| Zi 32767 14 rfl (p_move Y) ?_
   (refine lin_v (D' := 65535) 15 (p_indexAddr_nat0 underlying160 sizeOf108 Y Y ?_) ?_; (focus (omega)))
   refine Zj 131071 16 rfl isAgg108 Y (hv := by exact v8_at htkh i (by omega)) ?_
   (refine lin_v (D' := 262143) 17 (p_shr_u32 (n := 8) Y Y ?_) ?_; (focus (omega)))
   refine Zi 524287 18 rfl (p_conv_u32_u8 underlying108 underlying5 Y) <| Zi 1048575 19 rfl (p_move Y) <| Zi 2097151 20 rfl (p_move Y) ?_
   (refine lin_v (D' := 4194303) 21 (p_indexAddr_nat0 underlying160 sizeOf108 Y Y ?_) ?_; (focus (omega)))
   refine Zj 8388607 22 rfl isAgg108 Y (hv := by exact v8_at htkh i (by omega)) ?_
   refine Zi 16777215 23 rfl (p_conv_u32_u8 underlying108 underlying5 Y) <| Zz (l := [24]) ?_
   refine Zy 16777214 33554431 [22, 16, 10, 4] [false, false, false, false] [] rfl Y rfl rfl rfl rfl (w_buildSlice (vs := [_, _, _, _]) (cs := [_, _, _, _]) underlying111 sizeOf5 zeroValue5 Y rfl rfl rfl rfl rfl) ?hk_4 (fun _ _ h => h.elim) ?hl_4
   case hk_4 =>
    rintro _ _ ⟨g4, rfl, rfl⟩
    refine ⟨keep_nil, ?_⟩
    refine Zz (l := [25]) ?_
    refine Zy 33554431 67108863 [] [] [] rfl Y rfl rfl rfl rfl (w_append (by_ := 1) (news := [_, _, _, _]) underlying111 (rfl : Tryz.prog.info? 5 = some Tryz.t5) rfl rfl rfl rfl Y hro Y (by repeat (first | exact One.here _ _ | apply One.there)) (by repeat (first | exact Has.here _ | apply Has.there)) (by rfl) rfl (by simp [Value.oneCell']) (by decide) (by (simp only [List.length_map, out4_len]; omega)) (by (simp only [List.length_map, out4_len]; omega))) ?hk_5 (fun _ _ h => h.elim) ?hl_5
    case hk_5 =>
     rintro _ _ ⟨sw, hrw, rfl⟩
     refine ⟨keep_nil, ?_⟩
     obtain ⟨gw, cw, rfl⟩ := hrw.form
     refine Zi 134217727 26 rfl (p_assign Y) <| lin_nil ?_
     refine Zn [3, 6, 7] ?_
     refine nx_block_normal <| Zx <| Zg <| Zm Y <| Ya (n := 1) Y Y <| Za Y <| Z0 <| Zn [6, 7, 3] ?_
     refine nx_againB (e' := [(6, _), (7, _)]) (m := _) (H' := _) (by exact ⟨i + 1, _, _, rfl, ⟨by omega, by rw [outW_step (blocks M h0 (padded l)).list i (show i < 8 by omega)]; exact hrw⟩, rfl, rfl⟩)
    case hl_5 =>
     exact each_nil
   case hl_4 =>
    exact each_nil
  ·
   have ei : i = 8 := by omega
   subst ei
   obtain ⟨go, capo, curo, zo, hvo, rfl, hleo, hcmo, hcso, htko, hfro⟩ := hro.some (by rw [List.length_map, out4_len]; show 0 < 4 * 8; decide)
   injection hvo with e1 e2 e3
   subst e1 e3
   refine at_exit <| Zt <| Zt <| nx_block_exit <| Zx <| Zq <| Zg <| Zm Y <| Zo (by repeat (first | exact Has.here _ | apply Has.there)) (p_conv_bytes_str underlying111 underlying5 underlying9 Y (by exact ⟨htko, by simp⟩)) ?_
   refine Za Y <| Z0 <| Zx <| at_ret ?_
   refine nx_end1 rfl results69 Y (by exact ⟨by rw [sha_def l M hM]; rfl, rfl⟩)

end Go.Proofs.YtjeepldonhgohaaGreatDoor

namespace Go.Proofs.YtjeepldonhgohaaGreatDoor
open Go.Proofs.Tryz
open Go Go.RowKit Gw
set_option linter.unusedVariables false
set_option linter.unusedSimpArgs false
set_option maxRecDepth 100000
attribute [local irreducible] Gw.At Gw.Nx Gw.Ops
theorem zz_nat (n : Nat) : zz (n : Int) = 2 * n := by unfold zz; rw [if_neg (by omega)]; omega

theorem rzig_spec (n : Nat) (h2 : n ≤ 4611686018427387903) : DoesR Tryz.prog 100 #[.int .i64 (n : Int)] [] (.int .u64 ((zz (n : Int) : Nat) : Int)) := by
 refine spec_enter func100 rfl ntmps100 rfl ?_
 intro u R
 refine Zb [0] ?_
 refine Zq <| Zg <| Za Y <| Z0 <| Zx <| Zq <| Zq <| Zg <| Zm Y <| Zv (p_lss_nat (n := 0) Y Y) <| Z0 <| Zx ?_
 refine at_if Y (fun hc1 => ?_) (fun hc1 => ?_)
 ·
  exfalso; omega
 ·
  refine at_skip <| Zx <| Zq <| Zg <| Zm Y ?_
  (refine op_v (p_conv_nat_u64 underlying3 underlying134 Y ?_) ?_; (focus (omega)))
  (refine op_v (p_mul_nat_u64 (n := 2) Y Y ?_) ?_; (focus (omega)))
  refine Za Y <| Z0 <| Zx <| at_ret ?_
  refine nx_end1 rfl results100 Y (by exact ⟨by rw [zz_nat]; congr 1; omega, rfl⟩)

theorem zz_neg (m : Nat) (h : 0 < m) : zz (-(m : Int)) = 2 * m - 1 := by unfold zz; rw [if_pos (by omega)]; omega
def putE (n : Int) : Int := if n < -4611686018427387903 then 10 else 0

theorem rzig_neg (m : Nat) (h0 : 0 < m) (h2 : m ≤ 4611686018427387903) : DoesR Tryz.prog 100 #[.int .i64 (-(m : Int))] [] (.int .u64 ((zz (-(m : Int)) : Nat) : Int)) := by
 refine spec_enter func100 rfl ntmps100 rfl ?_
 intro u R
 refine Zb [0] ?_
 refine Zq <| Zg <| Za Y <| Z0 <| Zx <| Zq <| Zq <| Zg <| Zm Y <| Zv (p_lss Y Y) <| Z0 <| Zx ?_
 refine at_if Y (fun hc1 => ?_) (fun hc1 => ?_)
 ·
  refine Zq <| Zg <| Zm Y <| op_w (p_neg (c := (m : Int)) Y (by rw [IntKind.wrap_i64]; omega)) rfl rfl ?_
  (refine op_v (p_conv_nat_u64 underlying3 underlying134 Y ?_) ?_; (focus (omega)))
  (refine op_v (p_mul_nat_u64 (n := 2) Y Y ?_) ?_; (focus (omega)))
  (refine op_v (p_sub_nat_u64 (n := 1) Y Y ?_ ?_) ?_; (focus (omega)); (focus (omega)))
  refine Za Y <| Z0 <| Zx <| at_ret <| Zt ?_
  refine nx_end1 rfl results100 Y (by exact ⟨by rw [zz_neg m h0]; congr 1; omega, rfl⟩)
 ·
  exfalso; omega

theorem rzigZ (n : Int) (h1 : -4611686018427387903 ≤ n) (h2 : n ≤ 4611686018427387903) : DoesR Tryz.prog 100 #[.int .i64 n] [] (.int .u64 ((zz n : Nat) : Int)) := by
  by_cases h : n < 0
  · obtain ⟨m, rfl⟩ : ∃ m : Nat, n = -(m : Int) := ⟨n.natAbs, by omega⟩
    exact rzig_neg m (by omega) (by omega)
  · obtain ⟨m, rfl⟩ : ∃ m : Nat, n = (m : Int) := ⟨n.natAbs, by omega⟩
    exact rzig_spec m (by omega)

theorem rputIntZ (n : Int) (h1 : -4611686018427387903 ≤ n) (h2 : n ≤ 4611686018427387903) : DoesR Tryz.prog 64 #[.int .i64 n] [] (.tuple #[.string (str (encI n)), .int .i64 0]) := by
 have hml : maxLen = 9223372036854775807 := rfl
 have hzl := zz_lt n (by omega) (by omega)
 have hgl := encI_len n (by omega) (by omega)
 unfold encI at hgl
 rw [List.length_map] at hgl
 refine spec_enter func64 rfl ntmps64 rfl ?_
 intro u R
 refine Zb [0] ?_
 refine Zq <| Zg <| Za Y <| Za Y <| Z0 <| Zx <| Zq <| Zq <| Zg <| Zm Y <| Zv (p_lss Y Y) <| Zm Y ?_
 refine ops_split (t := 8) Y rfl (fun hc1 => ?_) (fun hc1 => ?_)
 ·
  exfalso; omega
 ·
  refine Zf Y Y <| Yg (p_gtr Y Y) <| Zv (p_pick_f Y Y) <| Z0 <| Zx ?_
  refine at_if Y (fun hc2 => ?_) (fun hc2 => ?_)
  ·
   exfalso; omega
  ·
   refine at_skip <| Zx <| Zq <| Zg <| Zm Y <| Zr [_] Y call100 Y rfl (rzigZ n h1 h2) ?_
   rintro _ _ ⟨rfl, rfl⟩
   refine Za Y <| Z0 <| Zx <| Zq <| Zg <| Za Y <| Z0 <| Zx <| Zq <| at_block <| at_nil ?_
   refine Zb [4, 5] ?_
   refine at_loopB (e0 := [(4, _), (5, _)]) (H0 := _) (n := _) (fun m e H => ∃ (pre : List (Nat × Bool)) (y : Nat) (v : Value) (sv : List Chunk), m = 0 + y ∧ (grps (zz n) = pre ++ grps y ∧ y < 9223372036854775808 ∧ Row 5 v ((pre.map gb).map u8v) sv) ∧ e = [(4, .int .u64 (y : Int)), (5, v)] ∧ H = [sv]) (by exact ⟨[], zz n, _, [], rfl, ⟨rfl, hzl, row_nil _⟩, rfl, rfl⟩) (by repeat (first | exact Pull.nil _ | (apply Pull.cons; (focus (repeat (first | exact One.here _ _ | apply One.there)))))) ?_
   rintro _ _ _ ⟨pre, y, v, sv, rfl, ⟨hsp, hy, hrv⟩, rfl, rfl⟩
   have hpl := congrArg List.length hsp
   rw [List.length_append, grps_eq y, List.length_cons] at hpl
   obtain ⟨gv, cv, rfl⟩ := hrv.form
   refine Zq <| Zq <| Zg <| Zm Y <| Zv (p_geq_nat (n := 128) Y Y) <| Z0 <| Zx ?_
   refine at_if Y (fun hge => ?_) (fun hge => ?_)
   ·
    refine at_skip <| Zx <| at_block <| Zq <| Zg <| Zm Y <| Zm Y <| op_w (p_rem (m := (y : Int)) (n := 128) (c := ((y % 128 : Nat) : Int)) Y Y (by decide) (by rw [Int.tmod_eq_emod_of_nonneg (by omega)]; rfl)) rfl rfl ?_
    (refine op_v (p_add_nat_u64 (n := 128) Y Y ?_) ?_; (focus (omega)))
    (refine op_v (p_conv_nat_u8 underlying134 underlying5 Y ?_) ?_; (focus (omega)))
    refine Ze (w_buildSlice (vs := [_]) (cs := [_]) underlying111 sizeOf5 zeroValue5 Y rfl rfl rfl rfl rfl) ?_
    rintro _ _ ⟨b1, rfl, rfl⟩
    refine Ze (w_append (by_ := 1) (news := [_]) underlying111 (rfl : Tryz.prog.info? 5 = some Tryz.t5) rfl rfl rfl rfl Y hrv Y (by repeat (first | exact One.here _ _ | apply One.there)) (by repeat (first | exact Has.here _ | apply Has.there)) (by rfl) rfl (by simp [Value.oneCell']) (by decide) (by (simp only [List.length_map]; omega)) (by (simp only [List.length_map]; omega))) ?_
    rintro _ _ ⟨sq, hrq, rfl⟩
    obtain ⟨gq, cq, rfl⟩ := hrq.form
    refine Za Y <| Z0 <| Zx <| Zg <| Zm Y <| op_w (p_quo (m := (y : Int)) (n := 128) (c := ((y / 128 : Nat) : Int)) Y Y (by decide) (by rw [Int.tdiv_eq_ediv_of_nonneg (by omega), IntKind.wrap_u64]; omega)) rfl rfl ?_
    refine Za Y <| Z0 <| Zn [4, 5] ?_
    refine nx_block_normal <| Zn [4, 5] ?_
    refine nx_againB (e' := [(4, _), (5, _)]) (m := _) (H' := _) (by
          exact ⟨pre ++ [(y % 128, false)], y / 128, _, _, rfl, ⟨by rw [hsp, grps_eq y, if_neg (by omega), decide_eq_false (by omega)]; simp, by omega, by
            have hgv := gb_val (y % 128, false) (Nat.mod_lt _ (by decide))
            rw [List.map_append, List.map_append, List.map_singleton, List.map_singleton, hgv]; exact hrq⟩, rfl, rfl⟩)
   ·
    have hfin : (grps (zz n)).map gb = pre.map gb ++ [gb (y, true)] := by rw [hsp, grps_eq y, if_pos (by omega), decide_eq_true (by omega), Nat.mod_eq_of_lt (by omega)]; simp
    have hgv := gb_val (y, true) (by show y < 128; omega)
    refine at_exit <| Zt <| Zt <| nx_block_exit <| Zx <| Zq <| Zg <| Zm Y <| Zm Y ?_
    (refine op_v (p_conv_nat_u8 underlying134 underlying5 Y ?_) ?_; (focus (omega)))
    refine Ze (w_buildSlice (vs := [_]) (cs := [_]) underlying111 sizeOf5 zeroValue5 Y rfl rfl rfl rfl rfl) ?_
    rintro _ _ ⟨b3, rfl, rfl⟩
    refine Ze (w_append (by_ := 1) (news := [_]) underlying111 (rfl : Tryz.prog.info? 5 = some Tryz.t5) rfl rfl rfl rfl Y hrv Y (by repeat (first | exact One.here _ _ | apply One.there)) (by repeat (first | exact Has.here _ | apply Has.there)) (by rfl) rfl (by simp [Value.oneCell']) (by decide) (by (simp only [List.length_map]; omega)) (by (simp only [List.length_map]; omega))) ?_
    rintro _ _ ⟨sw, hrw, rfl⟩
    obtain ⟨gw, cw, rfl⟩ := hrw.form
    have e9 : List.map u8v (List.map gb pre) ++ [Value.int .u8 (y : Int)] = (encI n).map u8v := by
      unfold encI; rw [hfin, List.map_append, List.map_singleton, hgv]; rfl
    rw [e9] at hrw ⊢
    obtain ⟨g9, c9, cur9, z9, hv9, rfl, hle9, hcm9, hcs9, htk9, hfr9⟩ := hrw.some (by rw [List.length_map]; exact encI_pos _)
    rw [hv9]
    refine Zo (by repeat (first | exact Has.here _ | apply Has.there)) (p_conv_bytes_str underlying111 underlying5 underlying9 Y (by exact ⟨htk9, by simp⟩)) ?_
    refine Za Y <| Za Y <| Z0 <| Zx <| at_ret ?_
    refine nx_end2 rfl results64 Y Y (by exact ⟨rfl, rfl⟩)

end Go.Proofs.YtjeepldonhgohaaGreatDoor


namespace Go.Proofs.YtjeepldonhgohaaGreatDoor
open Go.Proofs.Tryz
open Go Go.RowKit Gw
set_option linter.unusedVariables false
set_option linter.unusedSimpArgs false
set_option maxRecDepth 100000
attribute [local irreducible] Gw.At Gw.Nx Gw.Ops
theorem r2_left (n : Nat) (h1 : 2 ≤ n) (h2 : n ≤ 1000000000000) : DoesR Tryz.prog 82 #[.int .i64 (n : Int)] [] (.int .i64 ((leftN n : Nat) : Int)) := by
 refine spec_enter func82 rfl ntmps82 rfl ?_
 intro u R
 refine Zb [0] ?_
 refine Zq <| Zg <| Za Y <| Z0 <| Zx <| Zq <| Zg <| Za Y <| Z0 <| Zx <| Zq <| at_block <| Zb [3, 0] ?_
 refine at_loopB (e0 := [(3, _)]) (H0 := _) (n := _) (fun m e H => ∃ (x9 k : Nat), m = n - k ∧ (k = 2 ^ x9 ∧ 0 < k ∧ k < n) ∧ e = [(3, .int .i64 (k : Int))] ∧ H = []) (by exact ⟨0, 1, rfl, ⟨rfl, by omega, by omega⟩, rfl, rfl⟩) (by repeat (first | exact Pull.nil _ | (apply Pull.cons; (focus (repeat (first | exact One.here _ _ | apply One.there)))))) ?_
 rintro _ _ _ ⟨x9, k, rfl, ⟨he, hk0, hk⟩, rfl, rfl⟩
 refine Zq <| Zq <| Zg <| Zm Y <| Zm Y <| Zm Y ?_
 (refine op_v (p_sub_nat Y Y ?_ ?_) ?_; (focus (first | omega | (simp; omega))); (focus (first | omega | (simp; omega))))
 refine Zv (p_lss_nat Y Y) <| Z0 <| Zx ?_
 refine at_if Y (fun hlt => ?_) (fun hlt => ?_)
 ·
  refine at_skip <| Zx <| at_block <| Zg <| Zm Y ?_
  (refine op_v (p_mul_nat (m := 2) Y Y ?_) ?_; (focus (first | omega | (simp; omega))))
  refine Za Y <| Z0 <| nx_block_normal <| Zn [3, 0] ?_
  refine nx_againB (e' := [(3, _)]) (m := _) (H' := _) (by exact ⟨x9 + 1, 2 * k, rfl, ⟨by rw [Nat.pow_succ, he]; omega, by omega, by omega⟩, rfl, rfl⟩)
 ·
  have hl : leftN n = k := by rw [he]; exact left_of (by rw [← he]; exact hk) (by rw [Nat.pow_succ, ← he]; omega)
  refine at_exit <| Zt <| Zt <| nx_block_exit <| Zx <| Zq <| Zg <| Zm Y <| Za Y <| Z0 <| Zx <| at_ret ?_
  refine nx_end1 rfl results82 Y (by exact ⟨by rw [hl], rfl⟩)

theorem r2_leaf (s : Bs) (hs : s.length ≤ 1099511627000) : DoesR Tryz.prog 81 #[.string (str s)] [] (.string (str (leafS s))) := by
 refine spec_enter func81 rfl ntmps81 rfl ?_
 intro u R
 refine Zb [0] ?_
 refine Zq <| Zg <| Za Y <| Z0 <| Zx <| Zq <| Zg <| Zm Y ?_
 (refine op_v (p_add_str Y Y ?_) ?_; (focus ((rw [str_size]; show 1 + _ ≤ _; omega))))
 refine Zr [_] Y call69 Y rfl ((str_app [0] s) ▸ rsum_spec ([0] ++ s) (by rw [List.length_append]; simp; omega)) ?_
 rintro _ _ ⟨rfl, rfl⟩
 refine Za Y <| Z0 <| Zx <| at_ret ?_
 refine nx_end1 rfl results81 Y (by exact ⟨rfl, rfl⟩)

theorem r2_node (a b : Bs) (ha : a.length ≤ 1000000000) (hb : b.length ≤ 1000000000) : DoesR Tryz.prog 83 #[.string (str a), .string (str b)] [] (.string (str (nodeS a b))) := by
 refine spec_enter func83 rfl ntmps83 rfl ?_
 intro u R
 refine Zb [0, 1] ?_
 refine Zq <| Zg <| Za Y <| Z0 <| Zx <| Zq <| Zg <| Zm Y ?_
 (refine op_v (p_add_str Y Y ?_) ?_; (focus ((show 1 + _ ≤ _; rw [str_size]; omega))))
 refine Zm Y ?_
 (refine op_v (p_add_str Y Y ?_) ?_; (focus ((show (str [1] ++ str a).size + (str b).size ≤ _; rw [str_app, str_size, str_size, List.length_append]; simp; omega))))
 refine Zr [_] Y call69 Y rfl ((by have h := rsum_spec ([1] ++ a ++ b) (by rw [List.length_append, List.length_append]; simp; omega); rw [← str_app, ← str_app] at h; exact h : DoesR Tryz.prog 69 #[.string (str [1] ++ str a ++ str b)] [] (.string (str (sha ([1] ++ a ++ b)))))) ?_
 rintro _ _ ⟨rfl, rfl⟩
 refine Za Y <| Z0 <| Zx <| at_ret ?_
 refine nx_end1 rfl results83 Y (by exact ⟨rfl, rfl⟩)

theorem r2_root_step (n : Nat) (IH : ∀ {M : List Chunk} {v : Value} {l : List Bs}, l.length < n → StrsU M v l → l.length ≤ 1000000 → (∀ s ∈ l, s.length ≤ 1099511627000) → DoesR Tryz.prog 35 #[v] [M] (.string (str (rootT l)))) {M : List Chunk} {v : Value} {ls : List Bs} (hl9 : ls.length = n) (hv : StrsU M v ls) (hn : ls.length ≤ 1000000) (hs : ∀ s ∈ ls, s.length ≤ 1099511627000) : DoesR Tryz.prog 35 #[v] [M] (.string (str (rootT ls))) := by
 have hml : maxLen = 9223372036854775807 := rfl
 obtain ⟨p, cap, rfl, hl, hg⟩ := id hv
 refine spec_enter func35 rfl ntmps35 rfl ?_
 intro u R
 refine Zb [0] ?_
 refine Zq <| Zg <| Za Y <| Z0 <| Zx <| Zq <| Zq <| Zg <| Zm Y <| Zv (p_len_slice underlying35 Y) <| Zv (p_eql_nat (n := 0) Y Y) <| Z0 <| Zx ?_
 refine at_if Y (fun h0 => ?_) (fun h0 => ?_)
 ·
  have e1 : ls = [] := List.eq_nil_of_length_eq_zero h0
  refine Zq <| Zg <| Zr [_] Y call69 Y rfl (rsum_spec [] (by simp)) ?_
  rintro _ _ ⟨rfl, rfl⟩
  refine Za Y <| Z0 <| Zx <| at_ret <| Zt ?_
  refine nx_end1 rfl results35 Y (by exact ⟨by rw [e1, root_nil], rfl⟩)
 ·
  refine at_skip <| Zx <| Zq <| Zq <| Zg <| Zm Y <| Zv (p_len_slice underlying35 Y) <| Zv (p_eql_nat (n := 1) Y Y) <| Z0 <| Zx ?_
  refine at_if Y (fun h1 => ?_) (fun h1 => ?_)
  ·
   obtain ⟨x, rfl⟩ : ∃ x, ls = [x] := by
     match ls, h1 with
     | [x], _ => exact ⟨x, rfl⟩
   obtain ⟨g, off, cur, T, zz, rfl, hm9, hex9⟩ := hg 0 x rfl
   have hsx := hs x (by simp)
   refine Zq <| Zg <| Zm Y ?_
   (refine op_v (p_indexAddr_nat1 (j := 0) underlying35 sizeOf9 Y Y ?_) ?_; (focus (first | omega | decide | (simp; done))))
   refine op_rm (cs := [(g, .cells cur T zz)]) (by simp [hm9]) (p_load isAgg9 Y (by exact hex9)) rfl rfl ?_
   refine Zr [_] Y call81 Y rfl (r2_leaf x hsx) ?_
   rintro _ _ ⟨rfl, rfl⟩
   refine Za Y <| Z0 <| Zx <| at_ret <| Zt ?_
   refine nx_end1 rfl results35 Y (by exact ⟨by rw [root_one], rfl⟩)
  ·
   have h9 : 2 ≤ ls.length := by omega
   have hk1 := left_lt h9
   have hk2 := left_pos ls.length
   have hlt2 : (ls.take (leftN ls.length)).length = leftN ls.length := by rw [List.length_take]; omega
   obtain ⟨g8, off8, cur8, T8, zz8, rfl, hm8, hc8⟩ := hg 0 _ (List.getElem?_eq_getElem (by omega))
   have hvt := hv.take (leftN ls.length) (by omega)
   have hvd := hv.drop (leftN ls.length) hk1
   refine at_skip <| Zx <| Zq <| Zg <| Zm Y <| Zv (p_len_slice underlying35 Y) <| Zr [_] Y call82 Y rfl (r2_left ls.length h9 (by omega)) ?_
   rintro _ _ ⟨rfl, rfl⟩
   refine Za Y <| Z0 <| Zx <| Zq <| at_draw (n := 10) (0 :: 0 :: 3 :: 7 :: 0 :: 0 :: 48 :: 127 :: 255 :: 511 :: []) 392 (by kernel_rfl) (by kernel_rfl) rfl ?_
   refine Zi 1 0 rfl (p_move Y) <| Zi 3 1 rfl (p_move Y) ?_
   (refine lin_v (D' := 7) 2 (p_slice_slice_to underlying35 sizeOf9 Y Y ?_) ?_; (focus (omega)))
   refine Zi 23 4 rfl (p_move Y) <| Zi 55 5 rfl (p_move Y) ?_
   (refine lin_v (D' := 119) 6 (p_slice_slice_from1 underlying35 sizeOf9 Y Y ?_ ?_) ?_; (focus (omega)); (focus (omega)))
   refine Zz (l := [3]) ?_
   refine Zy 7 127 [] [] [] rfl Y rfl rfl rfl rfl (Zu [_] Y call35 Y rfl (IH (l := ls.take (leftN ls.length)) (by rw [hlt2]; omega) (by exact hvt) (by rw [hlt2]; omega) (fun s h => hs s (List.mem_of_mem_take h)))) ?hk_3 (fun _ _ h => h.elim) ?hl_3
   case hk_3 =>
    rintro _ _ ⟨rfl, rfl⟩
    refine ⟨keep_nil, ?_⟩
    refine Zz (l := [7]) ?_
    refine Zy 127 255 [] [] [] rfl Y rfl rfl rfl rfl (Zu [_] Y call35 Y rfl (IH (l := ls.drop (leftN ls.length)) (by rw [List.length_drop]; omega) (by exact hvd) (by rw [List.length_drop]; omega) (fun s h => hs s (List.mem_of_mem_drop h)))) ?hk_4 (fun _ _ h => h.elim) ?hl_4
    case hk_4 =>
     rintro _ _ ⟨rfl, rfl⟩
     refine ⟨keep_nil, ?_⟩
     refine Zz (l := [8]) ?_
     refine Zy 255 511 [] [] [] rfl Y rfl rfl rfl rfl (Zu [_, _] Y call83 Y rfl (r2_node _ _ (by rw [root_len]; omega) (by rw [root_len]; omega))) ?hk_5 (fun _ _ h => h.elim) ?hl_5
     case hk_5 =>
      rintro _ _ ⟨rfl, rfl⟩
      refine ⟨keep_nil, ?_⟩
      refine Zi 1023 9 rfl (p_assign Y) <| lin_nil ?_
      refine Zn [2] ?_
      refine Zx <| at_ret ?_
      refine nx_end1 rfl results35 Y (by exact ⟨by rw [root_more h9], rfl⟩)
     case hl_5 =>
      exact each_nil
    case hl_4 =>
     exact each_nil
   case hl_3 =>
    exact each_nil

theorem r2_root : ∀ (n : Nat) {M : List Chunk} {v : Value} {ls : List Bs}, ls.length ≤ n → StrsU M v ls → ls.length ≤ 1000000 → (∀ s ∈ ls, s.length ≤ 1099511627000) → DoesR Tryz.prog 35 #[v] [M] (.string (str (rootT ls)))
  | 0, _, _, ls, h, hv, hn, hs => r2_root_step ls.length (fun h9 => absurd h9 (by omega)) rfl hv hn hs
  | n + 1, _, _, ls, h, hv, hn, hs => r2_root_step ls.length (fun h9 hv2 hn2 hs2 => r2_root n (by omega) hv2 hn2 hs2) rfl hv hn hs

theorem r3_put (g off cap : Nat) (cur : Array Value) (T : TypeId) (z : Nat × Nat) (ls : List Int) (hin : IntsAt cur off ls) (hn : ls.length ≤ 1073741824) (hr : ∀ n ∈ ls, -4611686018427387903 ≤ n ∧ n ≤ 4611686018427387903) :
    DoesR Tryz.prog 101 #[.slice (some ⟨g, off, none⟩) ls.length cap] [[(g, .cells cur T z)]] (.string (str (putAll ls))) := by
 have hml : maxLen = 9223372036854775807 := rfl
 refine spec_enter func101 rfl ntmps101 rfl ?_
 intro u R
 refine Zb [0] ?_
 refine Zq <| Zg <| Za Y <| Z0 <| Zx <| Zq <| Zg <| Za Y <| Z0 <| Zx <| Zq <| Zq <| Zg <| Za Y <| Z0 <| Zx <| at_block <| Zb [3, 4, 0] ?_
 refine at_loopB (e0 := [(3, _), (4, _)]) (H0 := _) (n := _) (fun m e H => ∃ (i : Nat), m = ls.length - i ∧ (i ≤ ls.length) ∧ e = [(3, .string (str (putAll (ls.take i)))), (4, .int .i64 (i : Int))] ∧ H = []) (by exact ⟨0, rfl, Nat.zero_le _, rfl, rfl⟩) (by repeat (first | exact Pull.nil _ | (apply Pull.cons; (focus (repeat (first | exact One.here _ _ | apply One.there)))))) ?_
 rintro _ _ _ ⟨i, rfl, hi, rfl, rfl⟩
 refine Zq <| Zq <| Zg <| Zm Y <| Zm Y <| Zv (p_len_slice underlying61 Y) <| Zv (p_lss_nat Y Y) <| Z0 <| Zx ?_
 refine at_if Y (fun hlt => ?_) (fun hlt => ?_)
 ·
  obtain ⟨x, hx⟩ : ∃ x, ls[i]? = some x := ⟨_, List.getElem?_eq_getElem hlt⟩
  have hxr := hr x (List.mem_of_getElem? hx)
  have htk : ls.take (i + 1) = ls.take i ++ [x] := by rw [List.take_add_one, hx]; rfl
  have hpl := putAll_len (ls.take i) (fun m hm => hr m (List.mem_of_mem_take hm))
  have htl : (ls.take i).length ≤ i := List.length_take_le ..
  have hel := encI_len x hxr.1 hxr.2
  refine at_skip <| Zx <| Zq <| at_block <| Zq <| Zg <| Zm Y <| Zm Y ?_
  (refine op_v (p_indexAddr_nat1 underlying61 sizeOf3 Y Y ?_) ?_; (focus (omega)))
  refine Zl isAgg3 Y (hv := by exact hin i x hx) ?_
  refine Zr [_] Y call64 Y rfl (rputIntZ x hxr.1 hxr.2) ?_
  rintro _ _ ⟨rfl, rfl⟩
  refine Zm Y <| Zd Y rfl <| Zd Y rfl <| Za Y <| Za Y <| Z0 <| Zn [0, 3, 4, 5] ?_
  refine Zx <| Zg <| Zm Y <| Zm Y ?_
  (refine op_v (p_add_str Y Y ?_) ?_; (focus (rw [str_size, str_size]; omega)))
  refine Za Y <| Z0 <| nx_block_normal <| Zx <| Zg <| Zm Y <| Ya (n := 1) Y Y <| Za Y <| Z0 <| Zn [3, 4, 0] ?_
  refine nx_againB (e' := [(3, _), (4, _)]) (m := _) (H' := _) (by exact ⟨i + 1, rfl, by omega, by rw [htk, putAll_snoc, ← str_app], rfl⟩)
 ·
  refine at_exit <| Zt <| Zt <| nx_block_exit <| Zx <| Zq <| Zg <| Zm Y <| Za Y <| Z0 <| Zx <| at_ret ?_
  refine nx_end1 rfl results101 Y (by exact ⟨by rw [List.take_of_length_le (by omega)], rfl⟩)

theorem ints_five (a b c d e : Int) : IntsAt #[.int .i64 a, .int .i64 b, .int .i64 c, .int .i64 d, .int .i64 e] 0 [a, b, c, d, e] := by
  intro i n h
  rcases i with _ | _ | _ | _ | _ | i
  all_goals first | (simp at h; subst h; rfl) | (simp at h)
theorem row_num5 {r : RowM} (h : r.ok) : ∀ n ∈ [r.t, r.k, r.v.a, r.v.b, r.v.c], -4611686018427387903 ≤ n ∧ n ≤ 4611686018427387903 := by
  intro n hn
  have h1 := (row_num h).1
  have h2 := (row_num h).2
  simp only [List.mem_cons, List.not_mem_nil, or_false] at hn h1 h2
  rcases hn with rfl | rfl | rfl | rfl | rfl
  · exact h1 _ (.inl rfl)
  · exact h1 _ (.inr rfl)
  · exact h2 _ (.inl rfl)
  · exact h2 _ (.inr (.inl rfl))
  · exact h2 _ (.inr (.inr rfl))
theorem encRow_five (r : RowM) : putAll [r.t, r.k, r.v.a, r.v.b, r.v.c] = encRow r := by simp [encRow, putAll]

theorem r3_encode (r : RowM) (hr : r.ok) : DoesR Tryz.prog 65 #[.agg #[.int .i64 r.t, .int .i64 r.k, .int .i64 r.v.a, .int .i64 r.v.b, .int .i64 r.v.c]] [] (.tuple #[.string (str (encRow r)), .int .i64 0]) := by
 refine spec_enter func65 rfl ntmps65 rfl ?_
 intro u R
 refine Zb [0] ?_
 refine Zq <| Zg <| Ze (w_box Y (cs := #[_, _, _, _, _]) rfl) ?_
 rintro _ _ ⟨b1, rfl, rfl⟩
 refine Za Y <| Za Y <| Z0 <| Zx <| Zq <| Zq <| Zg <| Zo (by repeat (first | exact Has.here _ | apply Has.there)) (p_load_agg (cs := #[_, _, _, _, _]) isAgg74 sizeOf74 Y (by first | decide | exact Nat.le_refl _ | (simp; done) | (simp; omega)) (by rfl)) ?_
 refine Zr [_] Y call90 Y rfl (r3_valid r) ?_
 rintro _ _ ⟨rfl, rfl⟩
 rw [decide_eq_true hr]
 refine Zv (p_not Y) <| Z0 <| Zx ?_
 refine at_if_bool Y (fun hv => ?_) (fun hv => ?_)
 ·
  cases hv
 ·
  refine at_skip <| Zx <| Zq <| Zg <| Zh 0 underlying74 rfl rfl sizeOf3 Y <| Zl isAgg3 Y ?_
  refine Zh 1 underlying74 rfl rfl sizeOf3 Y <| Zl isAgg3 Y ?_
  refine Zh 2 underlying74 rfl rfl sizeOf47 Y ?_
  (refine op_v (p_indexAddr_arr (j := 0) underlying47 sizeOf3 Y Y ?_) ?_; (focus (first | omega | decide | (simp; done))))
  refine Zl isAgg3 Y ?_
  refine Zh 2 underlying74 rfl rfl sizeOf47 Y ?_
  (refine op_v (p_indexAddr_arr (j := 1) underlying47 sizeOf3 Y Y ?_) ?_; (focus (first | omega | decide | (simp; done))))
  refine Zl isAgg3 Y ?_
  refine Zh 2 underlying74 rfl rfl sizeOf47 Y ?_
  (refine op_v (p_indexAddr_arr (j := 2) underlying47 sizeOf3 Y Y ?_) ?_; (focus (first | omega | decide | (simp; done))))
  refine Zl isAgg3 Y ?_
  refine Ze (w_buildSlice (vs := [_, _, _, _, _]) (cs := [_, _, _, _, _]) underlying61 sizeOf3 zeroValue3 Y rfl rfl rfl rfl rfl) ?_
  rintro _ _ ⟨gb, rfl, rfl⟩
  refine Zr [_] Y call101 Y rfl (r3_put gb 0 5 _ _ _ [r.t, r.k, r.v.a, r.v.b, r.v.c] (ints_five r.t r.k r.v.a r.v.b r.v.c) (by simp) (row_num5 hr)) ?_
  rintro _ _ ⟨rfl, rfl⟩
  refine Za Y <| Za Y <| Z0 <| Zn [2, 3] ?_
  refine Zx <| at_ret ?_
  refine nx_end2 rfl results65 Y Y (by exact ⟨by rw [encRow_five], rfl⟩)

theorem r10_entries {M : List Chunk} {v : Value} {L : List RowM} (hv : RowsU M v L) (hn : L.length ≤ 1000000) (hok : ∀ r ∈ L, r.ok) : Does Tryz.prog 47 #[v] [M] (fun r H' => ∃ se, RowS 1 9 r L.length ((encL L).map strV) se ∧ H' = [se, M]) := by
 have hml : maxLen = 9223372036854775807 := rfl
 obtain ⟨p, cap, rfl, hl, hg⟩ := hv
 refine spec_enter func47 rfl ntmps47 rfl ?_
 intro u R
 refine Zb [0] ?_
 refine Zq <| Zg <| Za Y <| Z0 <| Zx <| Zq <| Zg <| Za Y <| Z0 <| Zx <| Zq <| Zq <| Zg <| Za Y <| Z0 <| Zx <| at_block <| at_nil ?_
 refine Zb [3, 4, 0] ?_
 refine at_loopB (e0 := [(3, _), (4, _)]) (H0 := _) (n := _) (fun m e H => ∃ (i : Nat) (ve : Value) (se : List Chunk), m = L.length - i ∧ (i ≤ L.length ∧ RowS 1 9 ve i ((encL (L.take i)).map strV) se) ∧ e = [(3, ve), (4, .int .i64 (i : Int))] ∧ H = [se]) (by exact ⟨0, .slice none 0 0, [], rfl, ⟨Nat.zero_le _, rowS_nil 1 _⟩, rfl, rfl⟩) (by repeat (first | exact Pull.nil _ | (apply Pull.cons; (focus (repeat (first | exact One.here _ _ | apply One.there)))))) ?_
 rintro _ _ _ ⟨i, ve, se, rfl, ⟨hi, hre⟩, rfl, rfl⟩
 obtain ⟨qe, ce, rfl⟩ := hre.form
 refine Zq <| Zq <| Zg <| Zm Y <| Zm Y <| Zv (p_len_slice underlying33 Y) <| Zv (p_lss_nat Y Y) <| Z0 <| Zx ?_
 refine at_if Y (fun hlt => ?_) (fun hlt => ?_)
 ·
  obtain ⟨x, hx⟩ : ∃ x, L[i]? = some x := ⟨_, List.getElem?_eq_getElem hlt⟩
  obtain ⟨g, off, cur, T, zz, rfl, hm9, hsz9, hex9⟩ := hg i x hx
  have hxo := hok x (List.mem_of_getElem? hx)
  refine at_skip <| Zx <| Zq <| at_block <| Zq <| Zg <| Zm Y <| Zm Y ?_
  (refine op_v (p_indexAddr_nat underlying33 sizeOf74 Y Y ?_) ?_; (focus (omega)))
  refine op_rm (cs := [(g, .cells cur T zz)]) (by simp [hm9]) (p_load_agg (cs := #[.int .i64 x.t, .int .i64 x.k, .int .i64 x.v.a, .int .i64 x.v.b, .int .i64 x.v.c]) isAgg74 sizeOf74 Y (by omega) hex9) rfl rfl ?_
  refine Zr [_] Y call65 Y rfl (r3_encode x hxo) ?_
  rintro _ _ ⟨rfl, rfl⟩
  refine Zm Y <| Zd Y rfl <| Zd Y rfl <| Za Y <| Za Y <| Z0 <| Zn [0, 3, 4, 5] ?_
  refine Zx <| Zg <| Zm Y <| Zm Y <| Ze (w_buildSlice (vs := [_]) (cs := [_]) underlying35 sizeOf9 zeroValue9 Y rfl rfl rfl rfl rfl) ?_
  rintro _ _ ⟨b1, rfl, rfl⟩
  refine Ze (w_appendS (by_ := 16) (sz := 1) (news := [_]) underlying35 (rfl : Tryz.prog.info? 9 = some Tryz.t9) rfl rfl rfl rfl Y hre Y (by repeat (first | exact One.here _ _ | apply One.there)) (by repeat (first | exact Has.here _ | apply Has.there)) (by rfl) rfl (by simp [Value.oneCell']) (by decide) (by omega) (by omega)) ?_
  rintro _ _ ⟨sw5, hrw5, rfl⟩
  obtain ⟨gw5, cw5, rfl⟩ := hrw5.form
  refine Za Y <| Z0 <| nx_block_normal <| Zx <| Zg <| Zm Y <| Ya (n := 1) Y Y <| Za Y <| Z0 <| Zn [3, 4, 0] ?_
  refine nx_againB (e' := [(3, _), (4, _)]) (m := _) (H' := _) (by exact ⟨i + 1, _, _, rfl, ⟨by omega, rowS_eq hrw5 rfl (by rw [enc_snoc hx])⟩, rfl, rfl⟩)
 ·
  have ei : i = L.length := by omega
  subst ei
  rw [List.take_length] at hre
  refine at_exit <| Zt <| Zt <| nx_block_exit <| Zx <| Zq <| Zg <| Zm Y <| Za Y <| Z0 <| Zx <| at_ret ?_
  refine nx_end1 rfl results47 Y (by exact ⟨se, hre, rfl⟩)

theorem r10_order (rp : Nat) (p : Int) (w : Value) (rs : List RowM) (sv : List Chunk) (hrow : RowS 5 74 w rs.length (rowCells rs) sv) (hn : rs.length ≤ 2000) (t : Int) (c : Nat) (hc : c ≤ 3) : Does Tryz.prog 46 #[.pointer (some ⟨rp, 0, none⟩), .int .i64 t, .int .i64 (c : Int)] [[(rp, .cells #[w, .int .i64 p] 121 (0, 0))], sv] (fun r H' => ∃ so, RowS 5 74 r (ordL rs t c).length (rowCells (ordL rs t c)) so ∧ H' = [so, [(rp, .cells #[w, .int .i64 p] 121 (0, 0))], sv]) := by
 refine spec_enter func46 rfl ntmps46 rfl ?_
 intro u R
 refine Zb [0, 1, 2] ?_
 refine Zq <| Zg <| Za Y <| Z0 <| Zx <| Zq <| Zg <| Zm Y <| Zm Y <| Zm Y <| Zc [_, _, _, _, _] Y call86 Y rfl (r4_range rp p w rs sv t c (-1000000000) 1000000000 hrow hn hc) ?_
 rintro _ _ ⟨_, ⟨so, hso, rfl⟩, rfl⟩
 refine Za Y <| Z0 <| Zx <| at_ret ?_
 refine nx_end1 rfl results46 Y (by exact ⟨so, hso, rfl⟩)

theorem sum_next {rs : List RowM} {t c : Nat} (ht : t < 4) (hc : c < 4) : (sumL rs).take (4 * t + c + 1) = (sumL rs).take (4 * t + c) ++ [summ rs (t, c)] := by
  refine take_snoc ?_
  unfold sumL
  rw [List.getElem?_map, tc_at t ht c hc]; rfl

theorem r10_summ (rp : Nat) (p : Int) (w : Value) (rs : List RowM) (sv : List Chunk) (hrow : RowS 5 74 w rs.length (rowCells rs) sv) (hn : rs.length ≤ 2000) (hs : SortedR rs) (hok : ∀ r ∈ rs, r.ok) : Does Tryz.prog 36 #[.pointer (some ⟨rp, 0, none⟩)] [[(rp, .cells #[w, .int .i64 p] 121 (0, 0))], sv] (fun r H' => ∃ so, RowS 1 9 r 16 ((sumL rs).map strV) so ∧ H' = [so, [(rp, .cells #[w, .int .i64 p] 121 (0, 0))], sv]) := by
 have hml : maxLen = 9223372036854775807 := rfl
 refine spec_enter func36 rfl ntmps36 rfl ?_
 intro u R
 refine Zb [0] ?_
 refine Zq <| Zg <| Za Y <| Z0 <| Zx <| Zq <| Zg <| Za Y <| Z0 <| Zx <| Zq <| Zq <| Zg <| Za Y <| Z0 <| Zx <| at_block <| at_nil ?_
 refine Zb [3, 4, 0] ?_
 refine at_loopB (e0 := [(3, _), (4, _)]) (H0 := _) (n := _) (fun m e H => ∃ (t : Nat) (vo : Value) (so : List Chunk), m = 4 - t ∧ (t ≤ 4 ∧ RowS 1 9 vo (4 * t) (((sumL rs).take (4 * t)).map strV) so) ∧ e = [(3, vo), (4, .int .i64 (t : Int))] ∧ H = [so]) (by exact ⟨0, .slice none 0 0, [], rfl, ⟨by omega, rowS_nil 1 _⟩, rfl, rfl⟩) (by repeat (first | exact Pull.nil _ | (apply Pull.cons; (focus (repeat (first | exact One.here _ _ | apply One.there)))))) ?_
 rintro _ _ _ ⟨t, vo, so, rfl, ⟨ht, hro⟩, rfl, rfl⟩
 refine Zq <| Zq <| Zg <| Zm Y <| Zv (p_lss_nat (n := 4) Y Y) <| Z0 <| Zx ?_
 refine at_if Y (fun ht4 => ?_) (fun ht4 => ?_)
 ·
  refine at_skip <| Zx <| Zq <| at_block <| Zq <| Zg <| Za Y <| Z0 <| Zx <| at_block <| Zb [3, 5, 0, 4] ?_
  refine at_loopB (e0 := [(3, _), (5, _)]) (H0 := _) (n := _) (fun m e H => ∃ (c : Nat) (vo2 : Value) (so2 : List Chunk), m = 4 - c ∧ (c ≤ 4 ∧ RowS 1 9 vo2 (4 * t + c) (((sumL rs).take (4 * t + c)).map strV) so2) ∧ e = [(3, vo2), (5, .int .i64 (c : Int))] ∧ H = [so2]) (by exact ⟨0, vo, so, rfl, ⟨by omega, hro⟩, rfl, rfl⟩) (by repeat (first | exact Pull.nil _ | (apply Pull.cons; (focus (repeat (first | exact One.here _ _ | apply One.there)))))) ?_
  rintro _ _ _ ⟨c, vo2, so2, rfl, ⟨hc, hro2⟩, rfl, rfl⟩
  obtain ⟨qo, co, rfl⟩ := hro2.form
  refine Zq <| Zq <| Zg <| Zm Y <| Zv (p_lss_nat (n := 4) Y Y) <| Z0 <| Zx ?_
  refine at_if Y (fun hc4 => ?_) (fun hc4 => ?_)
  ·
   have hol := ordL_len hs (t : Int) c
   refine at_skip <| Zx <| Zq <| at_block <| Zq <| Zg <| Zm Y <| Zm Y <| Zm Y <| Zc [_, _, _] Y call46 Y rfl (r10_order rp p w rs sv hrow hn (t : Int) c (by omega)) ?_
   rintro _ _ ⟨_, ⟨sx, hx, rfl⟩, rfl⟩
   have hUx := rowsU_row hx (by omega)
   refine Zc [_] Y call47 Y rfl (r10_entries hUx (by omega) (fun r h => hok r (range_mem h))) ?_
   rintro _ _ ⟨_, ⟨se, he, rfl⟩, rfl⟩
   obtain ⟨qe, ce, rfl⟩ := he.form
   have hSe : StrsU se (.slice qe (ordL rs (t : Int) c).length ce) (encL (ordL rs (t : Int) c)) := strsU_row (rowS_eq he (encL_len _).symm rfl) (by rw [encL_len]; omega)
   have hel := encI_len ((ordL rs (t : Int) c).length : Int) (by omega) (by omega)
   refine Za Y <| Z0 <| Zx <| Zq <| Zg <| Zm Y <| Zv (p_len_slice underlying35 Y) <| Zr [_] Y call64 Y rfl (rputIntZ _ (by omega) (by omega)) ?_
   rintro _ _ ⟨rfl, rfl⟩
   refine Zm Y <| Zd Y rfl <| Zd Y rfl <| Za Y <| Za Y <| Z0 <| Zn [0, 3, 4, 5, 6, 7] ?_
   refine Zx <| Zg <| Zm Y <| Zm Y <| Zm Y <| Zr [_] Y call35 Y rfl (r2_root _ (Nat.le_refl _) hSe (by rw [encL_len]; omega) (fun s h => by have := encL_ok (fun r hr => hok r (range_mem hr)) s h; omega)) ?_
   rintro _ _ ⟨rfl, rfl⟩
   (refine op_v (p_add_str Y Y ?_) ?_; (focus (rw [str_size, str_size, root_len]; omega)))
   refine Ze (w_buildSlice (vs := [_]) (cs := [_]) underlying35 sizeOf9 zeroValue9 Y rfl rfl rfl rfl rfl) ?_
   rintro _ _ ⟨b1, rfl, rfl⟩
   refine Ze (w_appendS (by_ := 16) (sz := 1) (news := [_]) underlying35 (rfl : Tryz.prog.info? 9 = some Tryz.t9) rfl rfl rfl rfl Y hro2 Y (by repeat (first | exact One.here _ _ | apply One.there)) (by repeat (first | exact Has.here _ | apply Has.there)) (by rfl) rfl (by simp [Value.oneCell']) (by decide) (by omega) (by omega)) ?_
   rintro _ _ ⟨sw5, hrw5, rfl⟩
   obtain ⟨gw5, cw5, rfl⟩ := hrw5.form
   refine Za Y <| Z0 <| nx_block_normal <| Zx <| Zg <| Zm Y <| Ya (n := 1) Y Y <| Za Y <| Z0 <| Zn [3, 5, 0, 4] ?_
   refine nx_againB (e' := [(3, _), (5, _)]) (m := _) (H' := _) (by exact ⟨c + 1, _, _, rfl, ⟨by omega, rowS_eq hrw5 rfl (by rw [← Nat.add_assoc, sum_next ht4 hc4, List.map_append]; unfold summ; rw [List.map_singleton]; unfold strV; rw [← str_app])⟩, rfl, rfl⟩)
  ·
   refine at_exit <| Zt <| Zt <| nx_block_exit <| nx_block_normal <| Zx <| Zg <| Zm Y <| Ya (n := 1) Y Y <| Za Y <| Z0 <| Zn [3, 4, 0] ?_
   refine nx_againB (e' := [(3, _), (4, _)]) (m := _) (H' := _) (by exact ⟨t + 1, _, so2, rfl, ⟨by omega, by have e4 : c = 4 := (by omega); subst e4; exact hro2⟩, rfl, rfl⟩)
 ·
  have e4 : t = 4 := by omega
  subst e4
  refine at_exit <| Zt <| Zt <| nx_block_exit <| Zx <| Zq <| Zg <| Zm Y <| Za Y <| Z0 <| Zx <| at_ret ?_
  refine nx_end1 rfl results36 Y (by exact ⟨so, rowS_eq hro rfl (by rw [List.take_of_length_le (by rw [sumL_len]; omega)]), rfl⟩)

end Go.Proofs.YtjeepldonhgohaaGreatDoor
