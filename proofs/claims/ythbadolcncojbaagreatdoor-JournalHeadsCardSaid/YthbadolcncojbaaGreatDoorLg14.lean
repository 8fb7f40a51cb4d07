/- JournalHeads. -/
import Derived.Test.YthbadolcncojbaaGreatDoorEz
import Derived.Test.YthbadolcncojbaaGreatDoorLg13
import Derived.Test.YthbadolcncojbaaGreatDoorSn2

namespace Go.Proofs.YthbadolcncojbaaGreatDoor
open Go.Proofs.Tryz
open Go Go.RowKit Gw
set_option linter.unusedVariables false
set_option linter.unusedSimpArgs false
set_option maxRecDepth 100000
attribute [local irreducible] Gw.At Gw.Nx Gw.Ops
theorem sixIn_take {M : List Chunk} {p : Option Addr} {n cap : Nat} {xs : List (List Int)} (h : SixIn M (.slice p n cap) xs) (k : Nat) (hk : k ≤ n) : SixIn M (.slice p k cap) (xs.take k) := by
  obtain ⟨p9, cap9, e, hl, hg⟩ := h
  injection e with e1 e2 e3
  subst e1 e2 e3
  have e4 : (xs.take k).length = k := by rw [List.length_take]; exact Nat.min_eq_left hk
  refine ⟨p, cap, by rw [e4], by omega, fun i z hz => hg i z ?_⟩
  rw [List.getElem?_take] at hz
  split at hz
  · exact hz
  · cases hz
theorem vi_new (n : Nat) : (DiskS.new n).vi.length = n := by unfold DiskS.new; exact List.length_replicate
theorem rec_room (h r : List UInt8) (hr : r.length ≤ 65536) : (outL h [r]).length ≤ 42 + r.length := by
  have a := recS_len h r hr
  have b := encI_len r.length (by omega) (by omega)
  simp only [outL, List.append_nil]
  unfold encS at a
  rw [List.length_append] at a
  omega
theorem jd_last {j : JrS} {d : DiskS} (h : JD j d) {rs : List (List UInt8)} {r : List UInt8} (e : j.rs = rs ++ [r]) : (d.vi.drop (j.sz - 32)).take 32 = chainS (headL zero32 rs) r ∧ j.h = chainS (headL zero32 rs) r ∧ 33 ≤ j.sz := by
  have hh := h.head
  have hv := h.vi
  have hz := h.sz
  rw [e] at hh hv hz
  rw [headL_append] at hh
  rw [outL_append] at hv hz
  have hc := chain_len (headL zero32 rs) r
  have e2 : outL zero32 rs ++ outL (headL zero32 rs) [r] = (outL zero32 rs ++ ([1] ++ encS r)) ++ chainS (headL zero32 rs) r := by
    simp only [outL, recS, List.append_nil, List.append_assoc]
  rw [e2] at hv hz
  rw [List.length_append, hc] at hz
  refine ⟨?_, hh, ?_⟩
  · rw [hv, hz, Nat.add_sub_cancel, List.append_assoc, List.drop_left' rfl, List.take_left' hc]
  · rw [hz, List.length_append, List.length_append]; simp; omega

theorem heads_law {M : List Chunk} {v : Value} {ys : List (List Int)} (hX : SixIn M v ys) (pa : Addr) (Tx Tg : TypeId) (zx zg : Nat × Nat) : DoesR Tryz.prog 3 #[v] [[(4, .cells (kTab.map u32v).toArray Tg zg)], [(0, .cells #[.iface 299 (.pointer (some pa))] Tx zx)], M] (.bool true) := by
 have hml : maxLen = 9223372036854775807 := rfl
 obtain ⟨py, capy, rfl, hyl, hgy⟩ := id hX
 have hX2 := sixIn_take hX (min ys.length 15) (Nat.min_le_left _ _)
 have hyk : (ys.take (min ys.length 15)).length ≤ 15 := by rw [List.length_take]; omega
 refine spec_enter func3 rfl ntmps3 rfl ?_
 intro u R
 refine Zb [0] ?_
 refine Zq <| Zg <| Za Y <| Z0 <| Zx <| Zq <| Zg <| Zr [] Y call7 Y rfl (sane_spec pa Tx Tg zx zg) ?_
 rintro _ _ ⟨rfl, rfl⟩
 refine Za Y <| Z0 <| Zx <| Zq <| Zg <| Zm Y <| Zm Y <| Zv (p_len_slice underlying22 Y) ?_
 first | refine op_v (p_min_nat (n := 15) Y Y) ?_ | refine op_v (p_min_int Y Y) ?_
 (refine op_v (p_slice_slice_to underlying22 sizeOf87 Y Y ?_) ?_; (focus (omega)))
 refine Zc [_] Y call8 Y rfl (r4_log hX2 (by omega)) ?_
 rintro _ _ ⟨_, ⟨l, sM, hlog, hll, hRI, rfl⟩, rfl⟩
 obtain ⟨pl, capl, rfl, hlc, hgl⟩ := hRI
 refine Za Y <| Z0 <| Zx <| Zq <| Zg <| Zc [_] Y call9 Y rfl (new_state 9000 (by decide) (by decide)) ?_
 rintro _ _ ⟨_, ⟨dp, sd0, rfl, rfl, hR0⟩, rfl⟩
 have hD0 := JD.new 9000 (by decide)
 have hv0 := vi_new 9000
 obtain ⟨d0, hd0⟩ : ∃ d, d = DiskS.new 9000 := ⟨_, rfl⟩
 rw [← hd0] at hD0 hv0 hR0
 clear hd0
 refine Zm Y <| Zd Y rfl <| Zd Y rfl <| Za Y <| Za Y <| Z0 <| Zn [3, 4, 5] ?_
 refine Zx <| Zq <| Zg <| Zm Y <| Zc [_] Y call10 Y rfl (jr_open _ _ dp sd0 pa Tx Tg zx zg hD0 hR0) ?_
 rintro _ _ ⟨_, ⟨jp, sj0, rfl, hJ0, rfl⟩, rfl⟩
 refine Zm Y <| Zd Y rfl <| Zd Y rfl <| Za Y <| Za Y <| Z0 <| Zx <| Zq <| Zg ?_
 refine Ze (w_makeSlice (by_ := 1) (l := 32) (c := 32) underlying36 (rfl : Tryz.prog.info? 5 = some Tryz.t5) rfl rfl rfl rfl Y Y ?_ ?_ ?_) ?_
 (focus (decide))
 (focus (decide))
 (focus (decide))
 rintro _ _ ⟨ma, rfl, rfl⟩
 refine Zo (by repeat (first | exact Has.here _ | apply Has.there)) (p_conv_bytes_str underlying36 underlying5 underlying9 Y (by exact (show (_ = List.map u8v (List.replicate 32 0)) ∧ _ from ⟨rfl, rfl⟩))) ?_
 refine Zc [_] Y call11 Y rfl (lt_new (List.replicate 32 0) List.length_replicate) ?_
 rintro _ _ ⟨_, ⟨xp, gh, rfl, rfl⟩, rfl⟩
 refine Zm Y <| Zd Y rfl <| Zd Y rfl <| Za Y <| Za Y <| Z0 <| Zn [3, 4, 5, 7, 8, 9, 10] ?_
 refine Zx <| Zq <| Zq <| Zg <| Zm Y ?_
 first | refine op_v (p_neq_nat (n := 0) Y Y) ?_ | refine op_v (p_neq Y Y) ?_
 refine Zm Y ?_
 first | refine ops_split (t := 42) Y rfl (fun hg1 => ?_) (fun hg1 => ?_) | refine ops_split_bool (t := 42) Y rfl (fun hg1 => ?_) (fun hg1 => ?_)
 ·
  exfalso; first | exact hg1 rfl | (cases hg1; done) | contradiction | omega | (simp_all; done)
 ·
  refine Zf Y Y ?_
  first | refine op_wg Y (p_neq_nat (n := 0) Y Y) rfl rfl ?_ | refine op_wg Y (p_neq Y Y) rfl rfl ?_
  refine Zv (p_pick_f Y Y) <| Zm Y ?_
  first | refine ops_split (t := 46) Y rfl (fun hg2 => ?_) (fun hg2 => ?_) | refine ops_split_bool (t := 46) Y rfl (fun hg2 => ?_) (fun hg2 => ?_)
  ·
   exfalso; first | exact hg2 rfl | (cases hg2; done) | contradiction | omega | (simp_all; done)
  ·
   refine Zf Y Y ?_
   first | refine op_wg Y (p_eql_nil_nil underlying30 Y Y) rfl rfl ?_ | refine op_wg Y (p_eql_ptr_nil underlying30 Y Y) rfl rfl ?_
   refine Zv (p_pick_f Y Y) <| Z0 <| Zx ?_
   first | refine at_if Y (fun hg3 => ?_) (fun hg3 => ?_) | refine at_if_bool Y (fun hg3 => ?_) (fun hg3 => ?_)
   ·
    exfalso; first | exact hg3 rfl | (cases hg3; done) | contradiction | omega | (simp_all; done)
   ·
    refine at_skip <| Zx <| Zq <| Zq <| Zg <| Za Y <| Z0 <| Zx <| at_block <| at_nil ?_
    refine Zb [11, 3, 4, 5, 7, 9] ?_
    refine at_loopB (e0 := [(11, _)]) (H0 := _) (n := _) (fun m e H => ∃ (i : Nat) (j : JrS) (d : DiskS) (sj sd : List Chunk) (hs : List HeadM) (x : HeadM) (rs : List RecM) (vr vh : Value) (sr sh : List Chunk), m = l.length - i ∧ (i ≤ l.length ∧ JD j d ∧ d.vi.length = 9000 ∧ JrR j jp dp sj ∧ DiskR d dp sd ∧ j.sz ≤ i * 303 ∧ hs.length = i ∧ rs.length = i ∧ x.p = (i : Int) ∧ x.ch = j.h ∧ x.ch.length = 32 ∧ x.st.length = 32 ∧ RowS 3 46 vh (hs.length + 1) (headCells (hs ++ [x])) sh ∧ RowS 2 41 vr rs.length (recCells rs) sr) ∧ e = [(11, .int .i64 (i : Int))] ∧ H = [[(xp, .cells #[vr, vh] 117 (0, 0))], sr, sh, sj, sd]) (by exact ⟨0, _, _, sj0, sd0, [], ⟨0, zero32, (List.replicate 32 0)⟩, [], .slice none 0 0, .slice (some ⟨gh, 0, none⟩) 1 1, [], [(gh, .cells #[.int .i64 0, .string (str zero32), .string (str (List.replicate 32 0))] 46 (0, 0))], rfl, ⟨Nat.zero_le _, hD0, hv0, hJ0, hR0, Nat.zero_le _, rfl, rfl, rfl, rfl, List.length_replicate, List.length_replicate, rowS_new 3 _ gh 1 _ rfl (by decide), rowS_nil 2 _⟩, rfl, rfl⟩) (by repeat (first | exact Pull.nil _ | (apply Pull.cons; (focus (repeat (first | exact One.here _ _ | apply One.there)))))) ?_
    rintro _ _ _ ⟨i, j, d, sj, sd, hs, x, rs, vr, vh, sr, sh, rfl, ⟨hi, hD, hv, hJ, hR, hsz, hhl, hrl, hxp, hxc, hxl, hxs, hrh, hrr⟩, rfl, rfl⟩
    refine Zq <| Zq <| Zg <| Zm Y <| Zm Y <| Zv (p_len_slice underlying24 Y) ?_
    first | refine op_v (p_lss_nat Y Y) ?_ | refine op_v (p_lss Y Y) ?_
    refine Z0 <| Zx ?_
    first | refine at_if Y (fun hlt => ?_) (fun hlt => ?_) | refine at_if_bool Y (fun hlt => ?_) (fun hlt => ?_)
    ·
     obtain ⟨r, hr⟩ : ∃ r, l[i]? = some r := ⟨_, List.getElem?_eq_getElem hlt⟩
     obtain ⟨hOr, g, off, cur, T, zz, rfl, hm, hsze, hex⟩ := hgl i r hr
     obtain ⟨happ, h3⟩ := hlog i r hr
     have hok := happ.ok
     have hrp := happ.pos
     have hel := encRec_len hok
     obtain ⟨enc, henc⟩ : ∃ e, e = encRec r.p r.cs := ⟨_, rfl⟩
     rw [← henc] at hel
     have hroom := rec_room j.h enc (by omega)
     refine at_skip <| Zx <| Zq <| at_block <| Zq <| Zg <| Zm Y <| Zm Y ?_
     (refine op_v (p_indexAddr_nat underlying24 sizeOf41 Y Y ?_) ?_; (focus (omega)))
     refine op_rm (cs := [(g, .cells cur T zz)]) (by simp [hm]) (p_load_agg (cs := #[.int .i64 r.p, .slice r.q r.cs.length r.cap]) isAgg41 sizeOf41 Y (by omega) hex) rfl rfl ?_
     refine Zr [_] Y call12 Y rfl (henc ▸ rw_encrec r.p r.q r.cap r.cs sM hOr hok) ?_
     rintro _ _ ⟨rfl, rfl⟩
     refine Zm Y <| Zd Y rfl <| Zd Y rfl <| Za Y <| Za Y <| Z0 <| Zn [3, 4, 5, 7, 9, 11, 12, 13] ?_
     refine Zx <| Zq <| Zq <| at_draw (n := 20) (0 :: 1 :: 3 :: 7 :: 7 :: 23 :: 63 :: 127 :: 255 :: 511 :: 1023 :: 1023 :: 1023 :: 7167 :: 15359 :: 1023 :: 33791 :: 131071 :: 262143 :: 524287 :: []) 163936 (by kernel_rfl) (by kernel_rfl) rfl ?_
     refine Zi 1 0 rfl (p_move Y) ?_
     first | refine lin_v (D' := 3) 1 (p_neq_nat (n := 0) Y Y) ?_ | refine lin_v (D' := 3) 1 (p_neq Y Y) ?_
     refine Zi 7 2 rfl (p_move Y) ?_
     first | refine lin_split (t := 66) Y (fun hg4 => ?_) (fun hg4 => ?_) | refine lin_split_bool (t := 66) Y (fun hg4 => ?_) (fun hg4 => ?_)
     ·
      first | rw [decide_eq_true hg4] | rw [hg4] | skip
      exfalso; first | exact hg4 rfl | (cases hg4; done) | contradiction | omega | (simp_all; done)
     ·
      first | rw [decide_eq_false hg4] | rw [hg4] | skip
      refine lin_wg (D' := 15) 3 Y rfl rfl rfl (p_move Y) ?_
      refine lin_wg (D' := 31) 4 Y rfl rfl rfl (p_move Y) ?_
      refine Zz (l := [5]) ?_
      refine Zy 23 63 [] [] [] rfl Y rfl rfl rfl rfl (w_buildSlice (vs := [_]) (cs := [_]) underlying43 sizeOf9 zeroValue9 Y rfl rfl rfl rfl rfl) ?hk_2 (fun _ _ h => h.elim) ?hl_2
      case hk_2 =>
       rintro _ _ ⟨gs, rfl, rfl⟩
       refine ⟨keep_nil, ?_⟩
       refine Zz (l := [6]) ?_
       refine Zy 63 127 [] [] [] rfl Y rfl rfl rfl rfl (Zw [_, _] Y call13 Y rfl (jd_append j d jp dp sj _ sd _ [enc] Tg zg hD hJ hR (row_new _ gs [strV enc] 1 rfl (by decide)) (by intro w hw; rw [List.mem_singleton.1 hw]; omega) (by show 1 ≤ 1000000; decide))) ?hk_3 no_pan ?hl_3
       case hk_3 =>
        rintro _ _ ⟨_, ⟨e1, j1, d1, sj1, sd1, rfl, hD1, hv1, ho1, hJ1, hR1, rfl⟩, rfl⟩
        refine ⟨keep_nil, ?_⟩
        have hx1 : e1 = 0 ∧ j1.rs = j.rs ++ [enc] ∧ j1.sz = j.sz + (outL j.h [enc]).length := by rcases ho1 with ⟨h, _⟩ | ⟨_, h1, h2, h3⟩; (exfalso; omega); exact ⟨h1, h2, h3⟩
        obtain ⟨rfl, hrs1, hz1⟩ := hx1
        obtain ⟨hla1, hla2, hla3⟩ := jd_last hD1 hrs1
        rw [← hD.head] at hla1 hla2
        have hjh : j1.h = chainS x.ch enc := by rw [hxc]; exact hla2
        rw [← hxc] at hla1
        first | refine lin_wg (D' := 255) 7 Y rfl rfl rfl (p_neq_nat (n := 0) Y Y) ?_ | refine lin_wg (D' := 255) 7 Y rfl rfl rfl (p_neq Y Y) ?_
        refine Zi 511 8 rfl (p_pick_f Y Y) <| Zi 1023 9 rfl (p_move Y) ?_
        first | refine lin_split (t := 73) Y (fun hg5 => ?_) (fun hg5 => ?_) | refine lin_split_bool (t := 73) Y (fun hg5 => ?_) (fun hg5 => ?_)
        ·
         first | rw [decide_eq_true hg5] | rw [hg5] | skip
         exfalso; first | exact hg5 rfl | (cases hg5; done) | contradiction | omega | (simp_all; done)
        ·
         first | rw [decide_eq_false hg5] | rw [hg5] | skip
         refine lin_wg (D' := 2047) 10 Y rfl rfl rfl (p_move Y) ?_
         refine lin_wg (D' := 4095) 11 Y rfl rfl rfl (p_move Y) ?_
         refine lin_wg (D' := 8191) 12 Y rfl rfl rfl (p_move Y) ?_
         (refine lin_wg (D' := 16383) 13 Y rfl rfl rfl (p_indexAddr_nat underlying24 sizeOf41 Y Y ?_) ?_; (focus (omega)))
         refine lin_rgm (b := g) (x := .cells cur T zz) (D' := 32767) 14 Y rfl rfl rfl (by simp [hm]) (p_load_agg (cs := #[.int .i64 r.p, .slice r.q r.cs.length r.cap]) isAgg41 sizeOf41 Y (by omega) hex) ?_
         refine Zz (l := [15]) ?_
         refine Zy 1023 65535 [14] [true] [(14, (_, _))] rfl Y rfl rfl rfl rfl (w_makeSlice (by_ := 1) (l := 32) (c := 32) underlying36 (rfl : Tryz.prog.info? 5 = some Tryz.t5) rfl rfl rfl rfl Y Y ?_ ?_ ?_) ?hk_4 (fun _ _ h => h.elim) ?hl_4
         (focus (decide))
         (focus (decide))
         (focus (decide))
         case hk_4 =>
          rintro _ _ ⟨mb, rfl, rfl⟩
          refine ⟨keep_consm (by simp [*]) (keep_nil), ?_⟩
          refine lin_rg (D' := 131071) 16 Y rfl rfl rfl (by repeat (first | exact Has.here _ | apply Has.there)) (p_conv_bytes_str underlying36 underlying5 underlying9 Y (by exact (show (_ = List.map u8v (List.replicate 32 0)) ∧ _ from ⟨rfl, rfl⟩))) ?_
          refine Zz (l := [17]) ?_
          refine Zy 131071 262143 [16, 14] [false, false] [] rfl Y rfl rfl rfl rfl (Zw [_, _, _] Y call14 Y rfl (henc ▸ lt_append xp hs x rs vr vh sr sh r.p r.q r.cap r.cs (List.replicate 32 0) sM hOr hok (by omega) hxl hxs List.length_replicate hrh hrr (by omega) (by omega) Tg zg)) ?hk_5 no_pan ?hl_5
          case hk_5 =>
           rintro _ _ ⟨_, ⟨rfl, vr1, vh1, sr1, sh1, q1, c1, sq1, hsq1, hrr1, hrh0, rfl⟩, rfl⟩
           refine ⟨keep_nil, ?_⟩
           obtain ⟨y, hy⟩ : ∃ y : HeadM, y = ⟨r.p, chainS x.ch enc, (List.replicate 32 0)⟩ := ⟨_, rfl⟩
           rw [← hy] at hrh0
           have hyp : y.p = r.p := by rw [hy]
           have hyc : y.ch = chainS x.ch enc := by rw [hy]
           have hyst : y.st.length = 32 := by rw [hy]; exact List.length_replicate
           have hrh1 := rowS_eq hrh0 (n' := (hs ++ [x, y]).length) (by rw [List.length_append]; rfl) rfl
           obtain ⟨qh, ch, rfl⟩ := hrh1.form
           first | refine lin_wg (D' := 524287) 18 Y rfl rfl rfl (p_neq_nat (n := 0) Y Y) ?_ | refine lin_wg (D' := 524287) 18 Y rfl rfl rfl (p_neq Y Y) ?_
           refine Zi 1048575 19 rfl (p_pick_f Y Y) <| lin_nil ?_
           refine Zn [3, 4, 5, 7, 9, 11, 83] ?_
           refine Zx ?_
           first | refine at_if Y (fun hg6 => ?_) (fun hg6 => ?_) | refine at_if_bool Y (fun hg6 => ?_) (fun hg6 => ?_)
           ·
            exfalso; first | exact hg6 rfl | (cases hg6; done) | contradiction | omega | (simp_all; done)
           ·
            refine at_skip <| Zx <| Zq <| Zg <| Zm Y <| Zm Y ?_
            first | (refine op_v (p_add_nat (n := 1) Y Y ?_) ?_; (focus (omega))) | (refine op_v (p_add Y Y (IntWalk.i64_in _ ?_)) ?_; (focus (omega)))
            refine Zr [_, _] Y call15 Y rfl (lt_head xp vr1 qh ch (hs ++ [x, y]) sh1 (headsIn_of hrh1 (by rw [List.length_append]; show hs.length + 2 ≤ maxLen; omega)) (i + 1) y (by rw [List.getElem?_append_right (by omega), show i + 1 - hs.length = 1 by omega]; rfl)) ?_
            rintro _ _ ⟨rfl, rfl⟩
            rw [hyc]
            refine Zm Y <| Zd Y rfl <| Zd Y rfl <| Ze (w_alloc zeroValue46 (cs := #[_, _, _]) rfl) ?_
            rintro _ _ ⟨hb, rfl, rfl⟩
            refine Ze (w_store_agg sizeOf46 Y Y (by first | (simp [Value.oneCell']; done) | (simp [Value.oneCell', Value.cells]; done)) (by repeat (first | exact Upd.here _ | apply Upd.there)) (by exact (rfl : _ = (#[.int .i64 y.p, .string (str (chainS x.ch enc)), .string (str y.st)] : Array Value))) (by first | rfl | (simp; done)) (by first | omega | decide | (simp; done)) (by exact free_zero _)) ?_
            rintro _ _ ⟨rfl, rfl⟩
            refine Za Y <| Z0 <| Zx <| Zq <| Zg <| Zm Y <| Zm Y <| Zr [_] Y call17 Y rfl (jr_room j1 d1 jp dp sj1 sd1 hJ1 hR1 hD1.fit) ?_
            rintro _ _ ⟨rfl, rfl⟩
            first | (refine op_v (p_sub_nat (m := 9000) Y Y ?_ ?_) ?_; (focus (omega)); (focus (omega))) | (refine op_v (p_sub Y Y (IntWalk.i64_in _ ?_)) ?_; (focus (omega)))
            first | (refine op_v (p_sub_nat (n := 32) Y Y ?_ ?_) ?_; (focus (omega)); (focus (omega))) | (refine op_v (p_sub Y Y (IntWalk.i64_in _ ?_)) ?_; (focus (omega)))
            refine Zr [_, _, _] Y call16 Y rfl ((by have h := disk_read d1 dp sd1 hR1 (j1.sz - 32) 32 (by have := hD1.fit; omega) (by have := hD1.fit; omega); rw [hD1.off, hla1] at h; simp only [Bool.false_eq_true, if_false] at h; rw [show ((j1.sz - 32 : Nat) : Int) = 9000 - ((d1.vi.length : Int) - (j1.sz : Int)) - 32 by omega] at h; exact h : DoesR Tryz.prog 16 #[.pointer (some ⟨dp, 0, none⟩), .int .i64 (9000 - ((d1.vi.length : Int) - (j1.sz : Int)) - 32), .int .i64 32] [sd1] (.tuple #[.string (str (chainS x.ch enc)), .int .i64 0]))) ?_
            rintro _ _ ⟨rfl, rfl⟩
            refine Zm Y <| Zd Y rfl <| Zd Y rfl <| Za Y <| Za Y <| Z0 <| Zn [3, 4, 5, 7, 9, 11, 14, 15, 16, 17] ?_
            refine Zx <| Zq <| Zg <| Zm Y ?_
            first | refine op_v (p_not_dec Y) ?_ | refine op_v (p_not Y) ?_
            refine Zm Y ?_
            refine ops_split_bool (t := 102) Y rfl (fun hg7 => ?_) (fun hg7 => ?_)
            ·
             cases hg7
            ·
             refine Zf Y Y ?_
             first | refine op_wg Y (p_neq_nat (n := 0) Y Y) rfl rfl ?_ | refine op_wg Y (p_neq Y Y) rfl rfl ?_
             refine Zv (p_pick_f Y Y) <| Zm Y ?_
             first | refine ops_split (t := 106) Y rfl (fun hg8 => ?_) (fun hg8 => ?_) | refine ops_split_bool (t := 106) Y rfl (fun hg8 => ?_) (fun hg8 => ?_)
             ·
              exfalso; first | exact hg8 rfl | (cases hg8; done) | contradiction | omega | (simp_all; done)
             ·
              refine Zf Y Y <| op_wg Y (p_fieldAddr0 (off := 1) underlying46 rfl rfl sizeOf9 Y) rfl rfl ?_
              refine op_rg Y (by repeat (first | exact Has.here _ | apply Has.there)) (p_load isAgg9 Y (by rfl)) rfl rfl ?_
              refine op_wg Y (p_neq_str Y Y) rfl rfl ?_
              refine Zv (p_pick_f Y Y) <| Z0 <| Zx ?_
              first | refine at_if Y (fun hg9 => ?_) (fun hg9 => ?_) | refine at_if_bool Y (fun hg9 => ?_) (fun hg9 => ?_)
              ·
               exfalso; first | exact hg9 rfl | (cases hg9; done) | contradiction | omega | (simp_all; done)
              ·
               refine at_skip <| nx_block_normal <| Zx <| Zg <| Zm Y ?_
               first | (refine op_v (p_add_nat (n := 1) Y Y ?_) ?_; (focus (omega))) | (refine op_v (p_add Y Y (IntWalk.i64_in _ ?_)) ?_; (focus (omega)))
               refine Za Y <| Z0 <| Zn [11, 3, 4, 5, 7, 9] ?_
               refine nx_againB (e' := [(11, _)]) (m := _) (H' := _) (by exact ⟨i + 1, j1, d1, sj1, sd1, hs ++ [x], y, rs ++ [⟨r.p, q1, c1, r.cs⟩], vr1, _, sr1, sh1, rfl, ⟨by omega, hD1, by omega, hJ1, hR1, by omega, by rw [List.length_append, hhl]; rfl, by rw [List.length_append, hrl]; rfl, by rw [hyp, hrp]; omega, by rw [hyc, hjh], by rw [hyc]; exact chain_len _ _, hyst, rowS_eq hrh1 (by rw [List.length_append, List.length_append]; rfl) (by rw [List.append_assoc]; rfl), rowS_eq hrr1 (by rw [List.length_append]; rfl) rfl⟩, rfl, rfl⟩)
          case hl_5 =>
           exact each_nil
         case hl_4 =>
          exact each_nil
       case hl_3 =>
        exact each_nil
      case hl_2 =>
       exact each_nil
    ·
     refine at_exit <| Zt <| Zt <| nx_block_exit <| Zx <| Zq <| Zg <| Zm Y <| Za Y <| Z0 <| Zx <| at_ret ?_
     refine nx_end1 rfl results3 Y (by exact ⟨rfl, rfl⟩)

end Go.Proofs.YthbadolcncojbaaGreatDoor
