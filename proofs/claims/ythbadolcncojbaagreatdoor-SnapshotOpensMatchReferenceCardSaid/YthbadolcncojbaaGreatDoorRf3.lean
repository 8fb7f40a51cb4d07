/- The reference of chapter 2: Sum, Chain, Head. -/
import Derived.Test.YthbadolcncojbaaGreatDoorEz
import Derived.Test.YthbadolcncojbaaGreatDoorRf2
namespace Go.Proofs.YthbadolcncojbaaGreatDoor
open Go.Proofs.Tryz
open Go Go.RowKit Gw
set_option linter.unusedVariables false
set_option maxRecDepth 100000
attribute [local irreducible] Gw.At Gw.Nx Gw.Ops
theorem cut_mid (b l cap n : Nat) (h : l < cap) (e : n = 64) : Value.slice (cutAt (some ⟨b, 0, none⟩) l cap 1) n (cap - l) = .slice (some ⟨b, l, none⟩) 64 (cap - l) := by
  subst e
  unfold cutAt
  rw [if_neg (by omega), Option.map_some, add_addr, Nat.mul_one, Nat.zero_add]
theorem outW_step (l : List UInt32) (i : Nat) (h : i < l.length) : ((l.take (i + 1)).flatMap out32).map u8v = ((l.take i).flatMap out32).map u8v ++ [.int .u8 (((l.getD i 0) >>> UInt32.ofNat 24).toUInt8.toNat : Int), .int .u8 (((l.getD i 0) >>> UInt32.ofNat 16).toUInt8.toNat : Int), .int .u8 (((l.getD i 0) >>> UInt32.ofNat 8).toUInt8.toNat : Int), .int .u8 ((l.getD i 0).toUInt8.toNat : Int)] := by
  have e : l.take (i + 1) = l.take i ++ [l.getD i 0] := by
    have := take_step (fun x : UInt32 => x) l i 0 h
    simpa using this
  rw [e, List.flatMap_append, List.map_append]; rfl
theorem headT_step (ls : List (List UInt8)) (i : Nat) (x : List UInt8) (hx : ls[i]? = some x) : headL zero32 (ls.take (i + 1)) = chainS (headL zero32 (ls.take i)) x := by
  rw [List.take_add_one, hx]; exact headL_snoc x (ls.take i) zero32
theorem out4_len (l : List UInt32) : (l.flatMap out32).length = 4 * l.length := by
  induction l with
  | nil => rfl
  | cons a l ih => simp only [List.flatMap_cons, List.length_append, ih, List.length_cons, out32, List.length_nil]; omega

theorem rsum_spec (l : List UInt8) (hs : l.length ≤ 1099511627776) : DoesR Tryz.prog 155 #[.string (str l)] [] (.string (str (sha l))) := by
 have hml : maxLen = 9223372036854775807 := rfl
 obtain ⟨M, hM⟩ : ∃ M, (padded l).length = 64 * M := ⟨(padded l).length / 64, by have := padded_mod l; omega⟩
 have hpl := padded_len l
 have hzp : zpad l.length < 64 := by unfold zpad; omega
 refine spec_enter func155 rfl ntmps155 rfl ?_
 intro u R
 refine Zb [0] ?_
 refine Zq <| Zg <| Za Y <| Z0 <| Zx <| Zq <| Zg <| Ze (w_buildSlice (vs := [_, _, _, _, _, _, _, _]) (cs := [_, _, _, _, _, _, _, _]) underlying256 sizeOf220 zeroValue220 Y rfl rfl rfl rfl rfl) ?_
 rintro _ _ ⟨g0, rfl, rfl⟩
 refine Za Y <| Z0 <| Zx <| Zq <| Zg <| Zm Y <| Zc [_] Y call173 Y rfl (rext_spec l hs) ?_
 rintro _ _ ⟨_, ⟨sp, hrp, rfl⟩, rfl⟩
 obtain ⟨gp, capp, curp, zp, rfl, rfl, hlep, hcmp, hcsp, htkp, hfrp⟩ := hrp.some (by rw [List.length_map]; omega)
 rw [List.length_map] at hlep htkp ⊢
 refine Za Y <| Z0 <| Zx <| Zq <| Zq <| Zg <| Za Y <| Z0 <| Zx <| at_block <| Zb [3, 5, 4] ?_
 refine at_loopB (e0 := [(3, _), (5, _)]) (H0 := _) (n := _) (fun m e H => ∃ (k : Nat) (v : Value) (sv : List Chunk), m = M - k ∧ (k ≤ M ∧ Row 220 v ((blocks k h0 (padded l)).list.map u32v) sv) ∧ e = [(3, v), (5, .int .i64 ((64 * k : Nat) : Int))] ∧ H = [sv]) (by exact ⟨0, _, _, rfl, ⟨Nat.zero_le _, row_new _ g0 (h0.list.map u32v) 8 rfl (by decide)⟩, rfl, rfl⟩) (by repeat (first | exact Pull.nil _ | (apply Pull.cons; (focus (repeat (first | exact One.here _ _ | apply One.there)))))) ?_
 rintro _ _ _ ⟨k, v, sv, rfl, ⟨hk, hrv⟩, rfl, rfl⟩
 obtain ⟨gh, caph, curh, zh, rfl, rfl, hleh, hcmh, hcsh, htkh, hfrh⟩ := hrv.some (by show 0 < 8; decide)
 rw [show (List.map u32v (blocks k h0 (padded l)).list).length = 8 from rfl] at hleh ⊢
 refine Zq <| Zq <| Zg <| Zm Y <| Zm Y <| Zv (p_len_slice underlying36 Y) ?_
 first | refine op_v (p_lss_nat Y Y) ?_ | refine op_v (p_lss Y Y) ?_
 refine Z0 <| Zx ?_
 first | refine at_if Y (fun hlt => ?_) (fun hlt => ?_) | refine at_if_bool Y (fun hlt => ?_) (fun hlt => ?_)
 ·
  refine at_skip <| Zx <| Zq <| at_block <| Zg <| Zm Y <| Zm Y <| Zm Y <| Zm Y ?_
  first | (refine op_v (p_add_nat (n := 64) Y Y ?_) ?_; (focus (omega))) | (refine op_v (p_add Y Y (IntWalk.i64_in _ ?_)) ?_; (focus (omega)))
  (refine op_v (p_slice_slice underlying36 sizeOf5 Y Y Y ?_ ?_) ?_; (focus (omega)); (focus (omega)))
  rw [cut_mid gp (64 * k) capp _ (by omega) (by omega)]
  refine Zc [_, _] Y call174 Y rfl (rblock_spec gh caph gp (64 * k) (capp - 64 * k) curh curp _ _ zh zp (blocks k h0 (padded l)) (((padded l).drop (64 * k)).take 64) htkh (bytes_chunk (by rw [List.length_map]; exact htkp) k (by omega)) (by rw [List.length_take, List.length_drop]; omega)) ?_
  rintro _ _ ⟨_, ⟨sq, hrq, rfl⟩, rfl⟩
  refine Za Y <| Z0 <| nx_block_normal <| Zx <| Zg <| Zm Y ?_
  first | (refine op_v (p_add_nat (n := 64) Y Y ?_) ?_; (focus (omega))) | (refine op_v (p_add Y Y (IntWalk.i64_in _ ?_)) ?_; (focus (omega)))
  refine Za Y <| Z0 <| Zn [3, 5, 4] ?_
  refine nx_againB (e' := [(3, _), (5, _)]) (m := _) (H' := _) (by exact ⟨k + 1, _, _, rfl, ⟨by omega, by rw [blocks_snoc]; exact hrq⟩, rfl, rfl⟩)
 ·
  have ek : M = k := by omega
  subst ek
  refine at_exit <| Zt <| Zt <| nx_block_exit <| Zx <| Zq <| Zg <| Za Y <| Z0 <| Zx <| Zq <| Zq <| Zg <| Za Y <| Z0 <| Zx <| at_block <| at_nil ?_
  refine Zb [6, 7, 3] ?_
  refine at_loopB (e0 := [(6, _), (7, _)]) (H0 := _) (n := _) (fun m e H => ∃ (i : Nat) (v : Value) (sv : List Chunk), m = 8 - i ∧ (i ≤ 8 ∧ Row 5 v ((((blocks M h0 (padded l)).list.take i).flatMap out32).map u8v) sv) ∧ e = [(6, v), (7, .int .i64 (i : Int))] ∧ H = [sv]) (by exact ⟨0, _, [], rfl, ⟨Nat.zero_le _, row_nil _⟩, rfl, rfl⟩) (by repeat (first | exact Pull.nil _ | (apply Pull.cons; (focus (repeat (first | exact One.here _ _ | apply One.there)))))) ?_
  rintro _ _ _ ⟨i, v, sv, rfl, ⟨hi, hro⟩, rfl, rfl⟩
  obtain ⟨gv, cv, rfl⟩ := hro.form
  have htl : ((blocks M h0 (padded l)).list.take i).length ≤ i := List.length_take_le ..
  refine Zq <| Zq <| Zg <| Zm Y ?_
  first | refine op_v (p_lss_nat (n := 8) Y Y) ?_ | refine op_v (p_lss Y Y) ?_
  refine Z0 <| Zx ?_
  first | refine at_if Y (fun hi8 => ?_) (fun hi8 => ?_) | refine at_if_bool Y (fun hi8 => ?_) (fun hi8 => ?_)
  ·
   refine at_skip <| Zx <| Zq <| at_block <| at_draw (n := 27) (0 :: 0 :: 0 :: 6 :: 14 :: 30 :: 62 :: 0 :: 0 :: 384 :: 896 :: 1920 :: 3968 :: 0 :: 0 :: 24576 :: 57344 :: 122880 :: 253952 :: 0 :: 0 :: 1572864 :: 3670016 :: 7864320 :: 16777214 :: 33554431 :: 67108863 :: []) 50331648 (by kernel_rfl) (by kernel_rfl) rfl ?_
   refine Zi 1 0 rfl (p_move Y) <| Zi 3 1 rfl (p_move Y) <| Zi 7 2 rfl (p_move Y) ?_
   first | (refine lin_v (D' := 15) 3 (p_indexAddr_nat0 underlying256 sizeOf220 Y Y ?_) ?_; (focus (omega))) | (refine lin_v (D' := 15) 3 (p_indexAddr_nat1 underlying256 sizeOf220 Y Y ?_) ?_; (focus (omega)))
   refine Zj 31 4 rfl isAgg220 Y (hv := by exact v8_at htkh i (by omega)) ?_
   (refine lin_v (D' := 63) 5 (p_shr_u32 (n := 24) Y Y ?_) ?_; (focus (omega)))
   first | refine lin_v (D' := 127) 6 (p_conv_u32_u8 underlying220 underlying5 Y) ?_ | (refine lin_v (D' := 127) 6 (p_conv_nat_u8 underlying220 underlying5 Y ?_) ?_; (focus (omega))) | (refine lin_v (D' := 127) 6 (p_conv_int underlying220 underlying5 Y (IntWalk.u8_in _ ?_)) ?_; (focus (omega)))
   refine Zi 255 7 rfl (p_move Y) <| Zi 511 8 rfl (p_move Y) ?_
   first | (refine lin_v (D' := 1023) 9 (p_indexAddr_nat0 underlying256 sizeOf220 Y Y ?_) ?_; (focus (omega))) | (refine lin_v (D' := 1023) 9 (p_indexAddr_nat1 underlying256 sizeOf220 Y Y ?_) ?_; (focus (omega)))
   refine Zj 2047 10 rfl isAgg220 Y (hv := by exact v8_at htkh i (by omega)) ?_
   (refine lin_v (D' := 4095) 11 (p_shr_u32 (n := 16) Y Y ?_) ?_; (focus (omega)))
   first | refine lin_v (D' := 8191) 12 (p_conv_u32_u8 underlying220 underlying5 Y) ?_ | (refine lin_v (D' := 8191) 12 (p_conv_nat_u8 underlying220 underlying5 Y ?_) ?_; (focus (omega))) | (refine lin_v (D' := 8191) 12 (p_conv_int underlying220 underlying5 Y (IntWalk.u8_in _ ?_)) ?_; (focus (omega)))
   refine Zi 16383 13 rfl (p_move Y) <| Zi 32767 14 rfl (p_move Y) ?_
   first | (refine lin_v (D' := 65535) 15 (p_indexAddr_nat0 underlying256 sizeOf220 Y Y ?_) ?_; (focus (omega))) | (refine lin_v (D' := 65535) 15 (p_indexAddr_nat1 underlying256 sizeOf220 Y Y ?_) ?_; (focus (omega)))
   refine Zj 131071 16 rfl isAgg220 Y (hv := by exact v8_at htkh i (by omega)) ?_
   (refine lin_v (D' := 262143) 17 (p_shr_u32 (n := 8) Y Y ?_) ?_; (focus (omega)))
   first | refine lin_v (D' := 524287) 18 (p_conv_u32_u8 underlying220 underlying5 Y) ?_ | (refine lin_v (D' := 524287) 18 (p_conv_nat_u8 underlying220 underlying5 Y ?_) ?_; (focus (omega))) | (refine lin_v (D' := 524287) 18 (p_conv_int underlying220 underlying5 Y (IntWalk.u8_in _ ?_)) ?_; (focus (omega)))
   refine Zi 1048575 19 rfl (p_move Y) <| Zi 2097151 20 rfl (p_move Y) ?_
   first | (refine lin_v (D' := 4194303) 21 (p_indexAddr_nat0 underlying256 sizeOf220 Y Y ?_) ?_; (focus (omega))) | (refine lin_v (D' := 4194303) 21 (p_indexAddr_nat1 underlying256 sizeOf220 Y Y ?_) ?_; (focus (omega)))
   refine Zj 8388607 22 rfl isAgg220 Y (hv := by exact v8_at htkh i (by omega)) ?_
   first | refine lin_v (D' := 16777215) 23 (p_conv_u32_u8 underlying220 underlying5 Y) ?_ | (refine lin_v (D' := 16777215) 23 (p_conv_nat_u8 underlying220 underlying5 Y ?_) ?_; (focus (omega))) | (refine lin_v (D' := 16777215) 23 (p_conv_int underlying220 underlying5 Y (IntWalk.u8_in _ ?_)) ?_; (focus (omega)))
   refine Zz (l := [24]) ?_
   refine Zy 16777214 33554431 [22, 16, 10, 4] [false, false, false, false] [] rfl Y rfl rfl rfl rfl (w_buildSlice (vs := [_, _, _, _]) (cs := [_, _, _, _]) underlying36 sizeOf5 zeroValue5 Y rfl rfl rfl rfl rfl) ?hk_4 (fun _ _ h => h.elim) ?hl_4
   case hk_4 =>
    rintro _ _ ⟨g4, rfl, rfl⟩
    refine ⟨keep_nil, ?_⟩
    refine Zz (l := [25]) ?_
    refine Zy 33554431 67108863 [] [] [] rfl Y rfl rfl rfl rfl (w_append (by_ := 1) (news := [_, _, _, _]) underlying36 (rfl : Tryz.prog.info? 5 = some Tryz.t5) rfl rfl rfl rfl Y hro Y (by repeat (first | exact One.here _ _ | apply One.there)) (by repeat (first | exact Has.here _ | apply Has.there)) (by rfl) rfl (by simp [Value.oneCell']) (by decide) (by (simp only [List.length_map, out4_len]; omega)) (by (simp only [List.length_map, out4_len]; omega))) ?hk_5 (fun _ _ h => h.elim) ?hl_5
    case hk_5 =>
     rintro _ _ ⟨sw, hrw, rfl⟩
     refine ⟨keep_nil, ?_⟩
     obtain ⟨gw, cw, rfl⟩ := hrw.form
     refine Zi 134217727 26 rfl (p_assign Y) <| lin_nil ?_
     refine Zn [3, 6, 7] ?_
     refine nx_block_normal <| Zx <| Zg <| Zm Y ?_
     first | (refine op_v (p_add_nat (n := 1) Y Y ?_) ?_; (focus (omega))) | (refine op_v (p_add Y Y (IntWalk.i64_in _ ?_)) ?_; (focus (omega)))
     refine Za Y <| Z0 <| Zn [6, 7, 3] ?_
     refine nx_againB (e' := [(6, _), (7, _)]) (m := _) (H' := _) (by exact ⟨i + 1, _, _, rfl, ⟨by omega, by rw [outW_step (blocks M h0 (padded l)).list i (show i < 8 by omega)]; exact hrw⟩, rfl, rfl⟩)
    case hl_5 =>
     exact each_nil
   case hl_4 =>
    exact each_nil
  ·
   have ei : i = 8 := by omega
   subst ei
   obtain ⟨go, capo, curo, zo, hvo, rfl, hleo, hcmo, hcso, htko, hfro⟩ := hro.some (by rw [List.length_map, out4_len]; show 0 < 4 * 8; decide)
   injection hvo with e1 e2 e3
   subst e1 e3
   refine at_exit <| Zt <| Zt <| nx_block_exit <| Zx <| Zq <| Zg <| Zm Y <| Zo (by repeat (first | exact Has.here _ | apply Has.there)) (p_conv_bytes_str underlying36 underlying5 underlying9 Y (by exact ⟨htko, by simp⟩)) ?_
   refine Za Y <| Z0 <| Zx <| at_ret ?_
   refine nx_end1 rfl results155 Y (by exact ⟨by rw [sha_def l M hM]; rfl, rfl⟩)

theorem rchain_spec (h r : List UInt8) (hlen : h.length + r.length ≤ 1099511627775) : DoesR Tryz.prog 123 #[.string (str h), .string (str r)] [] (.string (str (chainS h r))) := by
 have hh := str_size h
 have hr := str_size r
 refine spec_enter func123 rfl ntmps123 rfl ?_
 intro u R
 have e2 : (⟨#[2]⟩ : ByteArray) = str [2] := rfl
 refine Zb [0, 1] ?_
 refine Zq <| Zg <| Za Y <| Z0 <| Zx <| Zq <| Zg <| Zm Y ?_
 (refine op_v (p_add_str Y Y ?_) ?_; (focus (rw [e2, str_size, str_size]; simp; omega)))
 refine Zm Y ?_
 (refine op_v (p_add_str Y Y ?_) ?_; (focus (rw [e2, str_app, str_size, str_size]; simp; omega)))
 rw [e2, str_app, str_app]
 refine Zr [_] Y call155 Y rfl (rsum_spec ([2] ++ h ++ r) (by simp; omega)) ?_
 rintro _ _ ⟨rfl, rfl⟩
 refine Za Y <| Z0 <| Zx <| at_ret ?_
 refine nx_end1 rfl results123 Y (by exact ⟨by simp [chainS], rfl⟩)

theorem rhead_spec {v : Value} {ls : List (List UInt8)} {sl : List Chunk} (hr : Row 9 v (ls.map strV) sl) (hn : ls.length ≤ 9223372036854775806) (hs : ∀ r ∈ ls, r.length ≤ 1099511627776 - 100) : DoesR Tryz.prog 114 #[v] [sl] (.string (str (headL zero32 ls))) := by
 have hml : maxLen = 9223372036854775807 := rfl
 obtain ⟨b, c, rfl⟩ := hr.form
 refine spec_enter func114 rfl ntmps114 rfl ?_
 intro u R
 refine Zb [0] ?_
 refine Zq <| Zg <| Za Y <| Z0 <| Zx <| Zq <| Zg ?_
 refine Ze (w_makeSlice (by_ := 1) (l := 32) (c := 32) underlying36 (rfl : Tryz.prog.info? 5 = some Tryz.t5) rfl rfl rfl rfl Y Y ?_ ?_ ?_) ?_
 (focus (decide))
 (focus (decide))
 (focus (decide))
 rintro _ _ ⟨b1, rfl, rfl⟩
 refine Zo (by repeat (first | exact Has.here _ | apply Has.there)) (p_conv_bytes_str underlying36 underlying5 underlying9 Y (by exact (show (_ = List.map u8v zero32) ∧ zero32.length = _ from ⟨rfl, rfl⟩))) ?_
 refine Za Y <| Z0 <| Zx <| Zq <| Zq <| Zg <| Za Y <| Z0 <| Zx <| at_block <| Zb [3, 4, 0] ?_
 refine at_loopB (e0 := [(3, _), (4, _)]) (H0 := _) (n := _) (fun m e H => ∃ (i : Nat), m = ls.length - i ∧ (i ≤ ls.length) ∧ e = [(3, .string (str (headL zero32 (ls.take i)))), (4, .int .i64 (i : Int))] ∧ H = []) (by exact ⟨0, rfl, Nat.zero_le _, rfl, rfl⟩) (by repeat (first | exact Pull.nil _ | (apply Pull.cons; (focus (repeat (first | exact One.here _ _ | apply One.there)))))) ?_
 rintro _ _ _ ⟨i, rfl, hi, rfl, rfl⟩
 refine Zq <| Zq <| Zg <| Zm Y <| Zm Y <| Zv (p_len_slice underlying43 Y) ?_
 first | refine op_v (p_lss_nat Y Y) ?_ | refine op_v (p_lss Y Y) ?_
 refine Z0 <| Zx ?_
 first | refine at_if Y (fun hlt => ?_) (fun hlt => ?_) | refine at_if_bool Y (fun hlt => ?_) (fun hlt => ?_)
 ·
  rw [List.length_map] at hlt
  obtain ⟨x, hx⟩ : ∃ x, ls[i]? = some x := ⟨_, List.getElem?_eq_getElem hlt⟩
  have hxs := hs x (List.mem_of_getElem? hx)
  obtain ⟨gk, ck, curk, zk, hvk, rfl, hink⟩ := row_in hr (by rw [List.length_map]; omega)
  injection hvk with e1 e2 e3
  subst e1 e3
  have hcell := cellAt hink hx
  have h32 := headL_len (ls.take i) zero32 rfl
  refine at_skip <| Zx <| Zq <| at_block <| Zg <| Zm Y <| Zm Y <| Zm Y ?_
  first | (refine op_v (p_indexAddr_nat0 underlying43 sizeOf9 Y Y ?_) ?_; (focus (first | omega | (rw [List.length_map]; omega)))) | (refine op_v (p_indexAddr_nat1 underlying43 sizeOf9 Y Y ?_) ?_; (focus (first | omega | (rw [List.length_map]; omega))))
  refine Zl isAgg9 Y (hv := by first | exact hcell | (rw [Nat.mul_one]; exact hcell) | simpa using hcell) ?_
  refine Zr [_, _] Y call123 Y rfl (rchain_spec _ x (by omega)) ?_
  rintro _ _ ⟨rfl, rfl⟩
  refine Za Y <| Z0 <| nx_block_normal <| Zx <| Zg <| Zm Y ?_
  first | (refine op_v (p_add_nat (n := 1) Y Y ?_) ?_; (focus (omega))) | (refine op_v (p_add Y Y (IntWalk.i64_in _ ?_)) ?_; (focus (omega)))
  refine Za Y <| Z0 <| Zn [3, 4, 0] ?_
  refine nx_againB (e' := [(3, _), (4, _)]) (m := _) (H' := _) (by exact ⟨i + 1, rfl, by omega, by rw [headT_step ls i x hx], rfl⟩)
 ·
  rw [List.length_map] at hlt
  refine at_exit <| Zt <| Zt <| nx_block_exit <| Zx <| Zq <| Zg <| Zm Y <| Za Y <| Z0 <| Zx <| at_ret ?_
  refine nx_end1 rfl results114 Y (by exact ⟨by rw [List.take_of_length_le (show ls.length ≤ i by omega)], rfl⟩)

end Go.Proofs.YthbadolcncojbaaGreatDoor
