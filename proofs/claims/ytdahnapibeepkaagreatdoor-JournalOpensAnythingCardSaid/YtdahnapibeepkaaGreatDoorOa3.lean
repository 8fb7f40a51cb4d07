/- JournalOpensAnything: the law. -/
import Derived.Test.YtdahnapibeepkaaGreatDoorOa2
import Derived.Test.YtdahnapibeepkaaGreatDoorJm6
import Derived.Test.YtdahnapibeepkaaGreatDoorTl2
import Derived.Test.YtdahnapibeepkaaGreatDoorEx12
namespace Go.Proofs.YtdahnapibeepkaaGreatDoor
open Go Go.RowKit Gw
set_option linter.unusedVariables false
set_option maxRecDepth 100000
attribute [local irreducible] Gw.At Gw.Nx Gw.Ops
theorem p_slice_take {P : Program} {env : Env} {d : Option Nat} {ty : TypeId} {pos : String} {af : Array Edge} {g : Option (Nat × Bool)} {t : TypeId} {x hi : Operand} {l : List UInt8} {k : Nat} {lk : IntKind} (hu : P.underlying t = some .string) (hx : ∀ a, ev a env x = .string (str l)) (hh : ∀ a, ev a env hi = .int lk (k : Int)) (h1 : k ≤ l.length) : OpP P ⟨d, .slice t x none (some hi) none, ty, pos, af, g⟩ env [] (.string (str (l.take k))) := by
  have := p_slice_str_to (P := P) (d := d) (ty := ty) (pos := pos) (af := af) (g := g) hu hx hh (by rw [str_size]; exact h1)
  have e : (str l).extract 0 k = str (l.take k) := by
    have h2 := extract_str l 0 k
    rw [Nat.zero_add, List.drop_zero] at h2
    exact h2
  rw [e] at this; exact this
theorem jr_appendR (j : JrS) (d : DiskS) (jp dp : Nat) (sj sl sd : List Chunk) (v : Value) (ls : List (List UInt8)) (Tg : TypeId) (zg : Nat × Nat) (hJ : JrR j jp dp sj) (hR : DiskR d dp sd) (hl : Row 9 v (ls.map strV) sl) (hbr : j.br = false) (hz : j.sz ≤ d.vi.length) (hk : d.pend.length ≤ 999990) (hls : ls.length ≤ 1000000) (hs : ∀ r ∈ ls, r.length ≤ 65536) (hb : (j.append d ls).2.1.rs.length ≤ 4194304) :
    Does Tryz.prog 8 #[.pointer (some ⟨jp, 0, none⟩), v] [sj, sl, sd, [(4, .cells (kTab.map u32v).toArray Tg zg)]] (fun r H' => ∃ sj' sd', r = .int .i64 (j.append d ls).1 ∧ JrR (j.append d ls).2.1 jp dp sj' ∧ DiskR (j.append d ls).2.2 dp sd' ∧ H' = [sj', sl, sd', [(4, .cells (kTab.map u32v).toArray Tg zg)]]) := by
  refine does_mono (jr_append j d jp dp sj sl sd v ls Tg zg hJ hR hl hbr hz hk hls (isLong_none hs)) ?_
  rintro r _ ⟨v', sr', sd', rfl, h1, h2, rfl⟩
  have hh : (j.append d ls).2.1.h.length = 32 := by
    have h32 := hJ.1
    unfold JrS.append
    repeat' split
    all_goals first | exact h32 | exact headL_len ls j.h h32
  exact ⟨_, ⟨_, sd', rfl, ⟨hh, hb, v', sr', h1, rfl⟩, h2, rfl⟩, by simp⟩
theorem wopen_any (wp dp rp : Nat) (v1 v2 : Value) (d : DiskS) (sd sr : List Chunk) (pa : Addr) (Tx Tg : TypeId) (zx zg : Nat × Nat) (hR : DiskR d dp sd) (hr : RdR d rp sr) (hk : d.pend.length ≤ 999990) :
    Does Tryz.prog 15 #[.pointer (some ⟨wp, 0, none⟩)] [[(wp, .cells #[.pointer (some ⟨dp, 0, none⟩), v1, .pointer (some ⟨rp, 0, none⟩), v2] 32 (0, 0))], sd, sr, [(4, .cells (kTab.map u32v).toArray Tg zg)], [(0, .cells #[.iface 274 (.pointer (some pa))] Tx zx)]]
      (fun r H' => ∃ sd' sr', r = .bool true ∧ DiskR d.openJ.2.2 dp sd' ∧ RdR d.openJ.2.2 rp sr' ∧ ((∃ j jp kp sj sk, d.openJ.2.1 = some j ∧ JrR j jp dp sj ∧ KrR j kp rp sk ∧ H' = [[(wp, .cells #[.pointer (some ⟨dp, 0, none⟩), .pointer (some ⟨jp, 0, none⟩), .pointer (some ⟨rp, 0, none⟩), .pointer (some ⟨kp, 0, none⟩)] 32 (0, 0))], sj, sk, sd', sr', [(4, .cells (kTab.map u32v).toArray Tg zg)], [(0, .cells #[.iface 274 (.pointer (some pa))] Tx zx)]]) ∨ (d.openJ.2.1 = none ∧ H' = [[(wp, .cells #[.pointer (some ⟨dp, 0, none⟩), .pointer none, .pointer (some ⟨rp, 0, none⟩), .pointer none] 32 (0, 0))], sd', sr', [(4, .cells (kTab.map u32v).toArray Tg zg)], [(0, .cells #[.iface 274 (.pointer (some pa))] Tx zx)]]))) := by
  rcases openJ_code d with ⟨j, hj, he⟩ | ⟨hj, he⟩
  · refine does_mono (wopen_some wp dp rp v1 v2 d sd sr pa Tx Tg zx zg hR hr hk j hj he) ?_
    rintro r _ ⟨jp, kp, sj, sk, sd', sr', rfl, hJ, hK, hR', hr', rfl⟩
    exact ⟨_, ⟨sd', sr', rfl, hR', hr', .inl ⟨j, jp, kp, sj, sk, hj, hJ, hK, rfl⟩⟩, rfl⟩
  · refine does_mono (wopen_none wp dp rp v1 v2 d sd sr pa Tx Tg zx zg hR hr hk hj he) ?_
    rintro r _ ⟨sd', sr', rfl, hR', hr', rfl⟩
    exact ⟨_, ⟨sd', sr', rfl, hR', hr', .inr ⟨hj, rfl⟩⟩, rfl⟩
theorem write_on (d : DiskS) (o : Nat) (b : List UInt8) (ho : d.off = false) (hl : d.left = 0) : (d.write o b).2.off = false ∧ (d.write o b).2.left = 0 := by
  obtain ⟨off, left, du, vi, pend⟩ := d
  simp only at ho hl
  subst ho hl
  simp [DiskS.write, usedOff, usedLeft]

theorem opens_law (n : Int) (h1 : -9223372036854775808 ≤ n) (h2 : n ≤ 9223372036854775807) (s : List UInt8) (p : Option Addr) (cap : Nat) (ls : List (List UInt8)) (M : List Chunk) (hls : StrsIn M (.slice p ls.length cap) ls) (at_ : Int) (m1 : -9223372036854775808 ≤ at_) (m2 : at_ ≤ 9223372036854775807) (c : UInt8) (pa : Addr) (Tx Tg : TypeId) (zx zg : Nat × Nat) :
    DoesR Tryz.prog 3 #[.int .i64 n, .string (str s), .slice p ls.length cap, .int .i64 at_, .int .u8 (c.toNat : Int)] [[(4, .cells (kTab.map u32v).toArray Tg zg)], [(0, .cells #[.iface 274 (.pointer (some pa))] Tx zx)], M] (.bool true) := by
 have hsz0 : sizeN n = 1 + pickN n 1500 := rfl
 have hsz1 := pickN_lt n 1500 (by decide)
 have hpk := pickN_lt at_ (sizeN n) (by omega)
 have hss := str_size s
 have hD0 := JD.new (sizeN n) (by omega)
 have hv0 : (DiskS.new (sizeN n)).vi.length = sizeN n := by simp [DiskS.new]
 refine spec_enter Tryz.func3 rfl Tryz.ntmps3 rfl ?_
 intro u R
 refine at_slots (env' := [(0, _), (1, _), (2, _), (3, _), (4, _)]) [0, 1, 2, 3, 4] rfl (fun _=>rfl) ?_
 refine at_seq ?_
 refine at_region ?_
 refine op_v (p_assign (fun _=>rfl)) ?_
 refine ops_nil ?_
 refine nx_slots (env' := [(0, _), (1, _), (2, _), (3, _), (4, _)]) [0, 1, 2, 3, 4] rfl (fun _=>rfl) ?_
 refine nx_next ?_
 refine at_seq ?_
 refine at_region ?_
 refine op_e (w_callR (vs := []) (fun _=>rfl) Tryz.call6 (fun _=>rfl) rfl (sane_spec pa Tx Tg zx zg) (by repeat (first | exact Pull.nil _ | (apply Pull.cons; (focus (repeat (first | exact One.here _ _ | apply One.there))))))) (fun _=>rfl) rfl rfl ?_
 rintro _ _ ⟨rfl, rfl⟩
 refine op_v (p_assign (fun _=>rfl)) ?_
 refine ops_nil ?_
 refine nx_slots (env' := [(0, _), (1, _), (2, _), (3, _), (4, _), (11, _)]) [0, 1, 2, 3, 4, 11] rfl (fun _=>rfl) ?_
 refine nx_next ?_
 refine at_seq ?_
 refine at_region ?_
 refine op_v (p_move (fun _=>rfl)) ?_
 refine ops_eff (fun _=>rfl) (fits_of rfl) rfl (w_call (vs := [_]) (fun _=>rfl) Tryz.call7 (fun _=>rfl) rfl (wbegin n h1 h2 pa Tx Tg zx zg) (by repeat (first | exact Pull.nil _ | (apply Pull.cons; (focus (repeat (first | exact One.here _ _ | apply One.there))))))) ?_ no_pan
 rintro _ _ ⟨_, ⟨wp, dp, rp, jp, kp, sj, sk, sd, sr, rfl, hJ, hK, hR, hr, rfl⟩, rfl⟩
 obtain ⟨q, hq⟩ : ∃ q, q = JrS.append ⟨[], zero32, 0, false⟩ (DiskS.new (sizeN n)) (fewL ls) := ⟨_, rfl⟩
 have hDq := JD.append hD0 (fewL ls) few_short
 rw [← hq, hv0] at hDq
 have hcq := hDq.1.count
 have hfq := hDq.1.fit
 refine op_v (p_move (fun _=>rfl)) ?_
 refine op_v (p_extract (fun _=>rfl) rfl) ?_
 refine op_v (p_extract (fun _=>rfl) rfl) ?_
 refine op_v (p_assign (fun _=>rfl)) ?_
 refine op_v (p_assign (fun _=>rfl)) ?_
 refine ops_nil ?_
 refine nx_slots (env' := [(0, _), (1, _), (2, _), (3, _), (4, _), (11, _), (12, _), (13, _)]) [0, 1, 2, 3, 4, 11, 12, 13] rfl (fun _=>rfl) ?_
 refine nx_next ?_
 refine at_seq ?_
 refine at_seq ?_
 refine at_region ?_
 refine op_v (p_move (fun _=>rfl)) ?_
 first | refine op_v (p_not_dec (fun _=>rfl)) ?_ | refine op_v (p_not (fun _=>rfl)) ?_
 refine ops_nil ?_
 refine nx_slots (env' := [(0, _), (1, _), (2, _), (3, _), (4, _), (11, _), (12, _), (22, _)]) [0, 1, 2, 3, 4, 11, 12, 22] rfl (fun _=>rfl) ?_
 refine nx_next ?_
 refine at_else (fun _=>rfl) ?_
 refine at_skip ?_
 refine nx_next ?_
 refine at_slots (env' := [(0, _), (1, _), (2, _), (3, _), (4, _), (11, _), (12, _)]) [0, 1, 2, 3, 4, 11, 12] rfl (fun _=>rfl) ?_
 refine at_cutB (e0 := [(0, _), (1, _), (2, _), (3, _), (4, _)]) (H0 := [[(wp, .cells #[.pointer (some ⟨dp, 0, none⟩), .pointer (some ⟨jp, 0, none⟩), .pointer (some ⟨rp, 0, none⟩), .pointer (some ⟨kp, 0, none⟩)] 32 (0, 0))], sj, sk, sd, sr]) (fun e H => ∃ (d2 : DiskS) (v1 v2 : Value) (sd2 sr2 : List Chunk), (DiskR d2 dp sd2 ∧ RdR d2 rp sr2 ∧ (d2.off = false ∧ d2.left = 0) ∧ d2.vi.length = sizeN n ∧ d2.pend.length ≤ 1) ∧ e = [] ∧ H = [[(wp, .cells #[.pointer (some ⟨dp, 0, none⟩), v1, .pointer (some ⟨rp, 0, none⟩), v2] 32 (0, 0))], sd2, sr2]) (by repeat (first | exact Pull.nil _ | (apply Pull.cons; (focus (repeat (first | exact One.here _ _ | apply One.there)))))) ?hx_1 ?hy_1
 case hx_1 =>
  refine at_seq ?_
  refine at_region ?_
  refine op_v (p_move (fun _=>rfl)) ?_
  refine op_v (p_len_slice Tryz.underlying22 (fun _=>rfl)) ?_
  first | refine op_v (p_gtr_nat (n := 0) (fun _=>rfl) (fun _=>rfl)) ?_ | refine op_v (p_gtr (fun _=>rfl) (fun _=>rfl)) ?_
  refine ops_nil ?_
  refine nx_slots (env' := [(0, _), (1, _), (2, _), (3, _), (4, _), (11, _), (12, _), (25, _)]) [0, 1, 2, 3, 4, 11, 12, 25] rfl (fun _=>rfl) ?_
  refine nx_next ?_
  first | refine at_if (fun _=>rfl) (fun hln => ?_) (fun hln => ?_) | refine at_if_bool (fun _=>rfl) (fun hln => ?_) (fun hln => ?_)
  ·
   refine at_seq ?_
   refine at_seq ?_
   refine at_draw (n := 22) (0 :: 1 :: 3 :: 7 :: 15 :: 31 :: 63 :: 127 :: 255 :: 511 :: 63 :: 1087 :: 4095 :: 63 :: 8255 :: 24639 :: 57407 :: 63 :: 139263 :: 524287 :: 1048575 :: 2097151 :: []) 792576 (by kernel_rfl) (by kernel_rfl) rfl ?_
   refine lin_w (D' := 1) 0 rfl rfl rfl (p_move (fun _=>rfl)) ?_
   refine lin_w (D' := 3) 1 rfl rfl rfl (p_nilChk (fun _=>rfl) rfl) ?_
   first | refine lin_w (D' := 7) 2 rfl rfl rfl (p_fieldAddr0 (off := 1) Tryz.underlying32 rfl rfl Tryz.sizeOf28 (fun _=>rfl)) ?_ | refine lin_w (D' := 7) 2 rfl rfl rfl (p_fieldAddr1 (off := 1) Tryz.underlying32 rfl rfl Tryz.sizeOf28 (fun _=>rfl)) ?_
   refine lin_r (D' := 15) 3 rfl rfl rfl (by repeat (first | exact Has.here _ | apply Has.there)) (p_load Tryz.isAgg28 (fun _=>rfl) (by rfl)) ?_
   first | refine lin_w (D' := 31) 4 rfl rfl rfl (p_eql_nil_nil Tryz.underlying28 (fun _=>rfl) (fun _=>rfl)) ?_ | refine lin_w (D' := 31) 4 rfl rfl rfl (p_eql_ptr_nil Tryz.underlying28 (fun _=>rfl) (fun _=>rfl)) ?_
   refine lin_w (D' := 63) 5 rfl rfl rfl (p_move (fun _=>rfl)) ?_
   refine lin_split_bool (t := 31) (fun _=>rfl) (fun hg1 => ?_) (fun hg1 => ?_)
   ·
    first | rw [decide_eq_true hg1] | rw [hg1] | skip
    exfalso; first | exact hg1 rfl | (cases hg1; done) | contradiction | omega | (simp at hg1; omega) | (simp_all; done) | (simp_all; omega)
   ·
    first | rw [decide_eq_false hg1] | rw [hg1] | skip
    refine lin_wg (D' := 127) 6 (fun _=>rfl) rfl rfl rfl (p_move (fun _=>rfl)) ?_
    refine lin_wg (D' := 255) 7 (fun _=>rfl) rfl rfl rfl (p_nilChk (fun _=>rfl) rfl) ?_
    first | refine lin_wg (D' := 511) 8 (fun _=>rfl) rfl rfl rfl (p_fieldAddr0 (off := 1) Tryz.underlying32 rfl rfl Tryz.sizeOf28 (fun _=>rfl)) ?_ | refine lin_wg (D' := 511) 8 (fun _=>rfl) rfl rfl rfl (p_fieldAddr1 (off := 1) Tryz.underlying32 rfl rfl Tryz.sizeOf28 (fun _=>rfl)) ?_
    refine lin_rg (D' := 1023) 9 (fun _=>rfl) rfl rfl rfl (by repeat (first | exact Has.here _ | apply Has.there)) (p_load Tryz.isAgg28 (fun _=>rfl) (by rfl)) ?_
    refine lin_wg (D' := 2047) 10 (fun _=>rfl) rfl rfl rfl (p_move (fun _=>rfl)) ?_
    refine lin_wg (D' := 10239) 13 (fun _=>rfl) rfl rfl rfl (p_move (fun _=>rfl)) ?_
    refine lin_wg (D' := 26623) 14 (fun _=>rfl) rfl rfl rfl (p_nilChk (fun _=>rfl) rfl) ?_
    first | refine lin_wg (D' := 59391) 15 (fun _=>rfl) rfl rfl rfl (p_fieldAddr0 (off := 3) Tryz.underlying32 rfl rfl Tryz.sizeOf30 (fun _=>rfl)) ?_ | refine lin_wg (D' := 59391) 15 (fun _=>rfl) rfl rfl rfl (p_fieldAddr1 (off := 3) Tryz.underlying32 rfl rfl Tryz.sizeOf30 (fun _=>rfl)) ?_
    refine lin_rg (D' := 124927) 16 (fun _=>rfl) rfl rfl rfl (by repeat (first | exact Has.here _ | apply Has.there)) (p_load Tryz.isAgg30 (fun _=>rfl) (by rfl)) ?_
    refine lin_wg (D' := 255999) 17 (fun _=>rfl) rfl rfl rfl (p_move (fun _=>rfl)) ?_
    refine lin_eff (l := [11]) (by kernel_rfl) (by kernel_rfl) ?_
    refine each_cons (m := 1087) (D' := 258047) (is := [16, 9, 3]) (bs := [true, true, false]) (T' := [(16, (_, _)), (9, (_, _))]) rfl (fun _=>rfl) rfl rfl rfl (by kernel_rfl) rfl (w_call (vs := [_]) (fun _=>rfl) Tryz.call9 (fun _=>rfl) rfl (few_mem hls) (by repeat (first | exact Pull.nil _ | (apply Pull.cons; (focus (repeat (first | exact One.here _ _ | apply One.there))))))) ?hk_2 no_pan ?hl_2
    case hk_2 =>
     rintro _ _ ⟨_, ⟨sf, hf, rfl⟩, rfl⟩
     refine ⟨keep_cons (by repeat (first | exact Has.here _ | apply Has.there)) (keep_cons (by repeat (first | exact Has.here _ | apply Has.there)) (keep_nil)), ?_⟩
     refine lin_eff (l := [12]) (by kernel_rfl) (by kernel_rfl) ?_
     refine each_cons (m := 4095) (D' := 262143) (is := [16, 9]) (bs := [true, false]) (T' := [(16, (_, _))]) rfl (fun _=>rfl) rfl rfl rfl (by kernel_rfl) rfl (w_call (vs := [_, _]) (fun _=>rfl) Tryz.call8 (fun _=>rfl) rfl (jr_appendR _ _ jp dp sj sf sd _ (fewL ls) Tg zg hJ hR hf rfl (Nat.zero_le _) (by simp [DiskS.new]) (by have := few_len ls; omega) few_short (by rw [← hq]; omega)) (by repeat (first | exact Pull.nil _ | (apply Pull.cons; (focus (repeat (first | exact One.here _ _ | apply One.there))))))) ?hk_3 no_pan ?hl_3
     case hk_3 =>
      rintro _ _ ⟨_, ⟨sj1, sd1, rfl, hJ1, hR1, rfl⟩, rfl⟩
      refine ⟨keep_cons (by repeat (first | exact Has.here _ | apply Has.there)) (keep_nil), ?_⟩
      rw [← hq] at hJ1 hR1 ⊢
      refine lin_eff (l := [18]) (by kernel_rfl) (by kernel_rfl) ?_
      refine each_cons (m := 139263) (D' := 524287) (is := [16]) (bs := [true]) (T' := [(16, (_, _))]) rfl (fun _=>rfl) rfl rfl rfl (by kernel_rfl) rfl (w_call (vs := [_]) (fun _=>rfl) Tryz.call9 (fun _=>rfl) rfl (few_mem hls) (by repeat (first | exact Pull.nil _ | (apply Pull.cons; (focus (repeat (first | exact One.here _ _ | apply One.there))))))) ?hk_4 no_pan ?hl_4
      case hk_4 =>
       rintro _ _ ⟨_, ⟨sf2, hf2, rfl⟩, rfl⟩
       refine ⟨keep_cons (by repeat (first | exact Has.here _ | apply Has.there)) (keep_nil), ?_⟩
       refine lin_eff (l := [19]) (by kernel_rfl) (by kernel_rfl) ?_
       refine each_cons (m := 524287) (D' := 1048575) (is := [16]) (bs := [false]) (T' := []) rfl (fun _=>rfl) rfl rfl rfl (by kernel_rfl) rfl (w_call (vs := [_, _]) (fun _=>rfl) Tryz.call10 (fun _=>rfl) rfl (kr_append _ _ kp rp sk sf2 sr _ (fewL ls) hK hr hf2 rfl (Nat.zero_le _) (by simp [DiskS.new]) (by have := few_len ls; omega) few_short (by rw [← hq]; omega)) (by repeat (first | exact Pull.nil _ | (apply Pull.cons; (focus (repeat (first | exact One.here _ _ | apply One.there))))))) ?hk_5 no_pan ?hl_5
       case hk_5 =>
        rintro _ _ ⟨_, ⟨sk1, sr1, rfl, hK1, hr1, rfl⟩, rfl⟩
        refine ⟨keep_nil, ?_⟩
        rw [← hq] at hK1 hr1 ⊢
        first | refine lin_wg (D' := 2097151) 20 (fun _=>rfl) rfl rfl rfl (p_neq_nat (fun _=>rfl) (fun _=>rfl)) ?_ | refine lin_wg (D' := 2097151) 20 (fun _=>rfl) rfl rfl rfl (p_neq (fun _=>rfl) (fun _=>rfl)) ?_
        refine lin_w (D' := 4194303) 21 rfl rfl rfl (p_pick_f (fun _=>rfl) (fun _=>rfl)) ?_
        refine lin_nil ?_
        refine nx_slots (env' := [(0, _), (3, _), (4, _), (11, _), (12, _), (47, _)]) [0, 3, 4, 11, 12, 47] rfl (fun _=>rfl) ?_
        refine nx_next ?_
        first | refine at_if (fun _=>rfl) (fun hg2 => ?_) (fun hg2 => ?_) | refine at_if_bool (fun _=>rfl) (fun hg2 => ?_) (fun hg2 => ?_)
        ·
         exfalso; first | exact hg2 rfl | (cases hg2; done) | contradiction | omega | (simp at hg2; omega) | (simp_all; done) | (simp_all; omega)
        ·
         refine at_skip ?_
         refine nx_next ?_
         refine at_seq ?_
         refine at_draw (n := 12) (0 :: 1 :: 3 :: 7 :: 0 :: 0 :: 32 :: 112 :: 0 :: 256 :: 768 :: 2047 :: []) 2752 (by kernel_rfl) (by kernel_rfl) rfl ?_
         refine lin_w (D' := 1) 0 rfl rfl rfl (p_move (fun _=>rfl)) ?_
         refine lin_w (D' := 3) 1 rfl rfl rfl (p_nilChk (fun _=>rfl) rfl) ?_
         first | refine lin_w (D' := 7) 2 rfl rfl rfl (p_fieldAddr0 (off := 0) Tryz.underlying32 rfl rfl Tryz.sizeOf27 (fun _=>rfl)) ?_ | refine lin_w (D' := 7) 2 rfl rfl rfl (p_fieldAddr1 (off := 0) Tryz.underlying32 rfl rfl Tryz.sizeOf27 (fun _=>rfl)) ?_
         refine lin_r (D' := 15) 3 rfl rfl rfl (by repeat (first | exact Has.here _ | apply Has.there)) (p_load Tryz.isAgg27 (fun _=>rfl) (by rfl)) ?_
         refine lin_w (D' := 31) 4 rfl rfl rfl (p_move (fun _=>rfl)) ?_
         refine lin_w (D' := 63) 5 rfl rfl rfl (p_move (fun _=>rfl)) ?_
         refine lin_w (D' := 319) 8 rfl rfl rfl (p_move (fun _=>rfl)) ?_
         refine lin_eff (l := [6, 9]) (by kernel_rfl) (by kernel_rfl) ?_
         refine each_cons (m := 32) (D' := 383) (is := [3]) (bs := [true]) (T' := [(3, (_, _))]) rfl (fun _=>rfl) rfl rfl rfl (by kernel_rfl) rfl (w_callR (vs := [_]) (fun _=>rfl) Tryz.call13 (fun _=>rfl) rfl (size_law n h1 h2) (by repeat (first | exact Pull.nil _ | (apply Pull.cons; (focus (repeat (first | exact One.here _ _ | apply One.there))))))) ?hk_6 (fun _ _ h => h.elim) ?hl_6
         case hk_6 =>
          rintro _ _ ⟨rfl, rfl⟩
          refine ⟨keep_cons (by repeat (first | exact Has.here _ | apply Has.there)) (keep_nil), ?_⟩
          refine lin_eff (l := [7, 9]) (by kernel_rfl) (by kernel_rfl) ?_
          refine each_cons (m := 112) (D' := 511) (is := [3]) (bs := [true]) (T' := [(3, (_, _))]) rfl (fun _=>rfl) rfl rfl rfl (by kernel_rfl) rfl (w_callR (vs := [_, _]) (fun _=>rfl) Tryz.call12 (fun _=>rfl) rfl (pick_spec at_ (sizeN n) (by omega) (by omega) m1 m2) (by repeat (first | exact Pull.nil _ | (apply Pull.cons; (focus (repeat (first | exact One.here _ _ | apply One.there))))))) ?hk_7 (fun _ _ h => h.elim) ?hl_7
          case hk_7 =>
           rintro _ _ ⟨rfl, rfl⟩
           refine ⟨keep_cons (by repeat (first | exact Has.here _ | apply Has.there)) (keep_nil), ?_⟩
           refine lin_eff (l := [9]) (by kernel_rfl) (by kernel_rfl) ?_
           refine each_cons (m := 256) (D' := 1023) (is := [3]) (bs := [true]) (T' := [(3, (_, _))]) rfl (fun _=>rfl) rfl rfl rfl (by kernel_rfl) rfl (w_buildSlice (vs := [_]) (cs := [_]) Tryz.underlying39 Tryz.sizeOf5 Tryz.zeroValue5 (fun _=>rfl) rfl rfl rfl rfl rfl) ?hk_8 (fun _ _ h => h.elim) ?hl_8
           case hk_8 =>
            rintro _ _ ⟨gc, rfl, rfl⟩
            refine ⟨keep_cons (by repeat (first | exact Has.here _ | apply Has.there)) (keep_nil), ?_⟩
            refine lin_r (D' := 2047) 10 rfl rfl rfl (by repeat (first | exact Has.here _ | apply Has.there)) (p_conv_bytes_str Tryz.underlying39 Tryz.underlying5 Tryz.underlying9 (fun _=>rfl) (by exact (show (_ = List.map u8v [c]) ∧ _ from ⟨rfl, rfl⟩))) ?_
            refine lin_eff (l := [11]) (by kernel_rfl) (by kernel_rfl) ?_
            refine each_cons (m := 2047) (D' := 4095) (is := [10, 3]) (bs := [false, false]) (T' := []) rfl (fun _=>rfl) rfl rfl rfl (by kernel_rfl) rfl (w_call (vs := [_, _, _]) (fun _=>rfl) Tryz.call11 (fun _=>rfl) rfl (disk_write q.2.2 dp sd1 hR1 (pickN at_ (sizeN n)) [c] (by rw [hDq.2.1]; simp; omega) (by rw [hDq.2.1]; omega) (by rw [hDq.1.pend]; simp)) (by repeat (first | exact Pull.nil _ | (apply Pull.cons; (focus (repeat (first | exact One.here _ _ | apply One.there))))))) ?hk_9 no_pan ?hl_9
            case hk_9 =>
             rintro _ _ ⟨_, ⟨sd2, rfl, rfl, hR2⟩, rfl⟩
             refine ⟨keep_nil, ?_⟩
             refine lin_nil ?_
             refine nx_slots (env' := [(0, _), (3, _), (4, _), (11, _), (12, _)]) [0, 3, 4, 11, 12] rfl (fun _=>rfl) ?_
             refine nx_next ?_
             refine at_draw (n := 12) (0 :: 1 :: 3 :: 7 :: 0 :: 0 :: 32 :: 112 :: 0 :: 256 :: 768 :: 2047 :: []) 2752 (by kernel_rfl) (by kernel_rfl) rfl ?_
             refine lin_w (D' := 1) 0 rfl rfl rfl (p_move (fun _=>rfl)) ?_
             refine lin_w (D' := 3) 1 rfl rfl rfl (p_nilChk (fun _=>rfl) rfl) ?_
             first | refine lin_w (D' := 7) 2 rfl rfl rfl (p_fieldAddr0 (off := 2) Tryz.underlying32 rfl rfl Tryz.sizeOf29 (fun _=>rfl)) ?_ | refine lin_w (D' := 7) 2 rfl rfl rfl (p_fieldAddr1 (off := 2) Tryz.underlying32 rfl rfl Tryz.sizeOf29 (fun _=>rfl)) ?_
             refine lin_r (D' := 15) 3 rfl rfl rfl (by repeat (first | exact Has.here _ | apply Has.there)) (p_load Tryz.isAgg29 (fun _=>rfl) (by rfl)) ?_
             refine lin_w (D' := 31) 4 rfl rfl rfl (p_move (fun _=>rfl)) ?_
             refine lin_w (D' := 63) 5 rfl rfl rfl (p_move (fun _=>rfl)) ?_
             refine lin_w (D' := 319) 8 rfl rfl rfl (p_move (fun _=>rfl)) ?_
             refine lin_eff (l := [6, 9]) (by kernel_rfl) (by kernel_rfl) ?_
             refine each_cons (m := 32) (D' := 383) (is := [3]) (bs := [true]) (T' := [(3, (_, _))]) rfl (fun _=>rfl) rfl rfl rfl (by kernel_rfl) rfl (w_callR (vs := [_]) (fun _=>rfl) Tryz.call13 (fun _=>rfl) rfl (size_law n h1 h2) (by repeat (first | exact Pull.nil _ | (apply Pull.cons; (focus (repeat (first | exact One.here _ _ | apply One.there))))))) ?hk_10 (fun _ _ h => h.elim) ?hl_10
             case hk_10 =>
              rintro _ _ ⟨rfl, rfl⟩
              refine ⟨keep_cons (by repeat (first | exact Has.here _ | apply Has.there)) (keep_nil), ?_⟩
              refine lin_eff (l := [7, 9]) (by kernel_rfl) (by kernel_rfl) ?_
              refine each_cons (m := 112) (D' := 511) (is := [3]) (bs := [true]) (T' := [(3, (_, _))]) rfl (fun _=>rfl) rfl rfl rfl (by kernel_rfl) rfl (w_callR (vs := [_, _]) (fun _=>rfl) Tryz.call12 (fun _=>rfl) rfl (pick_spec at_ (sizeN n) (by omega) (by omega) m1 m2) (by repeat (first | exact Pull.nil _ | (apply Pull.cons; (focus (repeat (first | exact One.here _ _ | apply One.there))))))) ?hk_11 (fun _ _ h => h.elim) ?hl_11
              case hk_11 =>
               rintro _ _ ⟨rfl, rfl⟩
               refine ⟨keep_cons (by repeat (first | exact Has.here _ | apply Has.there)) (keep_nil), ?_⟩
               refine lin_eff (l := [9]) (by kernel_rfl) (by kernel_rfl) ?_
               refine each_cons (m := 256) (D' := 1023) (is := [3]) (bs := [true]) (T' := [(3, (_, _))]) rfl (fun _=>rfl) rfl rfl rfl (by kernel_rfl) rfl (w_buildSlice (vs := [_]) (cs := [_]) Tryz.underlying39 Tryz.sizeOf5 Tryz.zeroValue5 (fun _=>rfl) rfl rfl rfl rfl rfl) ?hk_12 (fun _ _ h => h.elim) ?hl_12
               case hk_12 =>
                rintro _ _ ⟨gd, rfl, rfl⟩
                refine ⟨keep_cons (by repeat (first | exact Has.here _ | apply Has.there)) (keep_nil), ?_⟩
                refine lin_r (D' := 2047) 10 rfl rfl rfl (by repeat (first | exact Has.here _ | apply Has.there)) (p_conv_bytes_str Tryz.underlying39 Tryz.underlying5 Tryz.underlying9 (fun _=>rfl) (by exact (show (_ = List.map u8v [c]) ∧ _ from ⟨rfl, rfl⟩))) ?_
                refine lin_eff (l := [11]) (by kernel_rfl) (by kernel_rfl) ?_
                refine each_cons (m := 2047) (D' := 4095) (is := [10, 3]) (bs := [false, false]) (T' := []) rfl (fun _=>rfl) rfl rfl rfl (by kernel_rfl) rfl (w_call (vs := [_, _, _]) (fun _=>rfl) Tryz.call14 (fun _=>rfl) rfl (rd_write q.2.2 rp sr1 hr1 (pickN at_ (sizeN n)) [c] (by rw [hDq.2.1]; simp; omega) (by rw [hDq.1.pend]; simp)) (by repeat (first | exact Pull.nil _ | (apply Pull.cons; (focus (repeat (first | exact One.here _ _ | apply One.there))))))) ?hk_13 no_pan ?hl_13
                case hk_13 =>
                 rintro _ _ ⟨_, ⟨sr2, rfl, rfl, hr2⟩, rfl⟩
                 refine ⟨keep_nil, ?_⟩
                 have hw2 := write_on q.2.2 (pickN at_ (sizeN n)) [c] hDq.1.off hDq.1.left
                 have hv2 := write_len q.2.2 (pickN at_ (sizeN n)) [c] (by rw [hDq.2.1]; simp; omega)
                 have hp2 := write_pend q.2.2 (pickN at_ (sizeN n)) [c]
                 obtain ⟨d2, hd2⟩ : ∃ x, x = (q.2.2.write (pickN at_ (sizeN n)) [c]).2 := ⟨_, rfl⟩
                 rw [← hd2] at hR2 hr2 hw2 hv2 hp2
                 rw [hDq.1.pend] at hp2
                 rw [hDq.2.1] at hv2
                 simp only [List.length_nil] at hp2
                 refine lin_nil ?_
                 refine nx_slots (env' := [(11, _), (12, _)]) [11, 12] rfl (fun _=>rfl) ?_
                 refine nx_slots (env' := [(11, _), (12, _)]) [11, 12] rfl (fun _=>rfl) ?_
                 refine nx_cutB (e' := []) (H' := _) (by exact ⟨d2, .pointer (some ⟨jp, 0, none⟩), .pointer (some ⟨kp, 0, none⟩), sd2, sr2, ⟨hR2, hr2, hw2, by omega, by omega⟩, rfl, rfl⟩) ?hp_14
                 case hp_14 => repeat (first | exact Sub.refl _ | exact Sub.nil _ | (apply Sub.cons; (focus (repeat (first | exact One.here _ _ | apply One.there)))) | refine Sub.drop _ ?_)
                case hl_13 =>
                 exact each_nil
               case hl_12 =>
                exact each_nil
              case hl_11 =>
               refine each_cons (m := 256) (D' := 895) (is := [3]) (bs := [true]) (T' := [(3, (_, _))]) rfl (fun _=>rfl) rfl rfl rfl (by kernel_rfl) rfl (w_buildSlice (vs := [_]) (cs := [_]) Tryz.underlying39 Tryz.sizeOf5 Tryz.zeroValue5 (fun _=>rfl) rfl rfl rfl rfl rfl) ?hk_15 (fun _ _ h => h.elim) ?hl_15
               case hk_15 =>
                rintro _ _ ⟨gd, rfl, rfl⟩
                refine ⟨keep_cons (by repeat (first | exact Has.here _ | apply Has.there)) (keep_nil), ?_⟩
                refine lin_r (D' := 1919) 10 rfl rfl rfl (by repeat (first | exact Has.here _ | apply Has.there)) (p_conv_bytes_str Tryz.underlying39 Tryz.underlying5 Tryz.underlying9 (fun _=>rfl) (by exact (show (_ = List.map u8v [c]) ∧ _ from ⟨rfl, rfl⟩))) ?_
                refine lin_eff (l := [7]) (by kernel_rfl) (by kernel_rfl) ?_
                refine each_cons (m := 112) (D' := 2047) (is := [10, 3]) (bs := [true, true]) (T' := [(10, (_, _)), (3, (_, _))]) rfl (fun _=>rfl) rfl rfl rfl (by kernel_rfl) rfl (w_callR (vs := [_, _]) (fun _=>rfl) Tryz.call12 (fun _=>rfl) rfl (pick_spec at_ (sizeN n) (by omega) (by omega) m1 m2) (by repeat (first | exact Pull.nil _ | (apply Pull.cons; (focus (repeat (first | exact One.here _ _ | apply One.there))))))) ?hk_16 (fun _ _ h => h.elim) ?hl_16
                case hk_16 =>
                 rintro _ _ ⟨rfl, rfl⟩
                 refine ⟨keep_cons (by repeat (first | exact Has.here _ | apply Has.there)) (keep_cons (by repeat (first | exact Has.here _ | apply Has.there)) (keep_nil)), ?_⟩
                 refine lin_eff (l := [11]) (by kernel_rfl) (by kernel_rfl) ?_
                 refine each_cons (m := 2047) (D' := 4095) (is := [10, 3]) (bs := [false, false]) (T' := []) rfl (fun _=>rfl) rfl rfl rfl (by kernel_rfl) rfl (w_call (vs := [_, _, _]) (fun _=>rfl) Tryz.call14 (fun _=>rfl) rfl (rd_write q.2.2 rp sr1 hr1 (pickN at_ (sizeN n)) [c] (by rw [hDq.2.1]; simp; omega) (by rw [hDq.1.pend]; simp)) (by repeat (first | exact Pull.nil _ | (apply Pull.cons; (focus (repeat (first | exact One.here _ _ | apply One.there))))))) ?hk_17 no_pan ?hl_17
                 case hk_17 =>
                  rintro _ _ ⟨_, ⟨sr2, rfl, rfl, hr2⟩, rfl⟩
                  refine ⟨keep_nil, ?_⟩
                  have hw2 := write_on q.2.2 (pickN at_ (sizeN n)) [c] hDq.1.off hDq.1.left
                  have hv2 := write_len q.2.2 (pickN at_ (sizeN n)) [c] (by rw [hDq.2.1]; simp; omega)
                  have hp2 := write_pend q.2.2 (pickN at_ (sizeN n)) [c]
                  obtain ⟨d2, hd2⟩ : ∃ x, x = (q.2.2.write (pickN at_ (sizeN n)) [c]).2 := ⟨_, rfl⟩
                  rw [← hd2] at hR2 hr2 hw2 hv2 hp2
                  rw [hDq.1.pend] at hp2
                  rw [hDq.2.1] at hv2
                  simp only [List.length_nil] at hp2
                  refine lin_nil ?_
                  refine nx_slots (env' := [(11, _), (12, _)]) [11, 12] rfl (fun _=>rfl) ?_
                  refine nx_slots (env' := [(11, _), (12, _)]) [11, 12] rfl (fun _=>rfl) ?_
                  refine nx_cutB (e' := []) (H' := _) (by exact ⟨d2, .pointer (some ⟨jp, 0, none⟩), .pointer (some ⟨kp, 0, none⟩), sd2, sr2, ⟨hR2, hr2, hw2, by omega, by omega⟩, rfl, rfl⟩) ?hp_18
                  case hp_18 => repeat (first | exact Sub.refl _ | exact Sub.nil _ | (apply Sub.cons; (focus (repeat (first | exact One.here _ _ | apply One.there)))) | refine Sub.drop _ ?_)
                 case hl_17 =>
                  exact each_nil
                case hl_16 =>
                 exact each_nil
               case hl_15 =>
                exact each_nil
             case hl_10 =>
              refine each_cons (m := 256) (D' := 831) (is := [3]) (bs := [true]) (T' := [(3, (_, _))]) rfl (fun _=>rfl) rfl rfl rfl (by kernel_rfl) rfl (w_buildSlice (vs := [_]) (cs := [_]) Tryz.underlying39 Tryz.sizeOf5 Tryz.zeroValue5 (fun _=>rfl) rfl rfl rfl rfl rfl) ?hk_19 (fun _ _ h => h.elim) ?hl_19
              case hk_19 =>
               rintro _ _ ⟨gd, rfl, rfl⟩
               refine ⟨keep_cons (by repeat (first | exact Has.here _ | apply Has.there)) (keep_nil), ?_⟩
               refine lin_r (D' := 1855) 10 rfl rfl rfl (by repeat (first | exact Has.here _ | apply Has.there)) (p_conv_bytes_str Tryz.underlying39 Tryz.underlying5 Tryz.underlying9 (fun _=>rfl) (by exact (show (_ = List.map u8v [c]) ∧ _ from ⟨rfl, rfl⟩))) ?_
               refine lin_eff (l := [6]) (by kernel_rfl) (by kernel_rfl) ?_
               refine each_cons (m := 32) (D' := 1919) (is := [10, 3]) (bs := [true, true]) (T' := [(10, (_, _)), (3, (_, _))]) rfl (fun _=>rfl) rfl rfl rfl (by kernel_rfl) rfl (w_callR (vs := [_]) (fun _=>rfl) Tryz.call13 (fun _=>rfl) rfl (size_law n h1 h2) (by repeat (first | exact Pull.nil _ | (apply Pull.cons; (focus (repeat (first | exact One.here _ _ | apply One.there))))))) ?hk_20 (fun _ _ h => h.elim) ?hl_20
               case hk_20 =>
                rintro _ _ ⟨rfl, rfl⟩
                refine ⟨keep_cons (by repeat (first | exact Has.here _ | apply Has.there)) (keep_cons (by repeat (first | exact Has.here _ | apply Has.there)) (keep_nil)), ?_⟩
                refine lin_eff (l := [7]) (by kernel_rfl) (by kernel_rfl) ?_
                refine each_cons (m := 112) (D' := 2047) (is := [10, 3]) (bs := [true, true]) (T' := [(10, (_, _)), (3, (_, _))]) rfl (fun _=>rfl) rfl rfl rfl (by kernel_rfl) rfl (w_callR (vs := [_, _]) (fun _=>rfl) Tryz.call12 (fun _=>rfl) rfl (pick_spec at_ (sizeN n) (by omega) (by omega) m1 m2) (by repeat (first | exact Pull.nil _ | (apply Pull.cons; (focus (repeat (first | exact One.here _ _ | apply One.there))))))) ?hk_21 (fun _ _ h => h.elim) ?hl_21
                case hk_21 =>
                 rintro _ _ ⟨rfl, rfl⟩
                 refine ⟨keep_cons (by repeat (first | exact Has.here _ | apply Has.there)) (keep_cons (by repeat (first | exact Has.here _ | apply Has.there)) (keep_nil)), ?_⟩
                 refine lin_eff (l := [11]) (by kernel_rfl) (by kernel_rfl) ?_
                 refine each_cons (m := 2047) (D' := 4095) (is := [10, 3]) (bs := [false, false]) (T' := []) rfl (fun _=>rfl) rfl rfl rfl (by kernel_rfl) rfl (w_call (vs := [_, _, _]) (fun _=>rfl) Tryz.call14 (fun _=>rfl) rfl (rd_write q.2.2 rp sr1 hr1 (pickN at_ (sizeN n)) [c] (by rw [hDq.2.1]; simp; omega) (by rw [hDq.1.pend]; simp)) (by repeat (first | exact Pull.nil _ | (apply Pull.cons; (focus (repeat (first | exact One.here _ _ | apply One.there))))))) ?hk_22 no_pan ?hl_22
                 case hk_22 =>
                  rintro _ _ ⟨_, ⟨sr2, rfl, rfl, hr2⟩, rfl⟩
                  refine ⟨keep_nil, ?_⟩
                  have hw2 := write_on q.2.2 (pickN at_ (sizeN n)) [c] hDq.1.off hDq.1.left
                  have hv2 := write_len q.2.2 (pickN at_ (sizeN n)) [c] (by rw [hDq.2.1]; simp; omega)
                  have hp2 := write_pend q.2.2 (pickN at_ (sizeN n)) [c]
                  obtain ⟨d2, hd2⟩ : ∃ x, x = (q.2.2.write (pickN at_ (sizeN n)) [c]).2 := ⟨_, rfl⟩
                  rw [← hd2] at hR2 hr2 hw2 hv2 hp2
                  rw [hDq.1.pend] at hp2
                  rw [hDq.2.1] at hv2
                  simp only [List.length_nil] at hp2
                  refine lin_nil ?_
                  refine nx_slots (env' := [(11, _), (12, _)]) [11, 12] rfl (fun _=>rfl) ?_
                  refine nx_slots (env' := [(11, _), (12, _)]) [11, 12] rfl (fun _=>rfl) ?_
                  refine nx_cutB (e' := []) (H' := _) (by exact ⟨d2, .pointer (some ⟨jp, 0, none⟩), .pointer (some ⟨kp, 0, none⟩), sd2, sr2, ⟨hR2, hr2, hw2, by omega, by omega⟩, rfl, rfl⟩) ?hp_23
                  case hp_23 => repeat (first | exact Sub.refl _ | exact Sub.nil _ | (apply Sub.cons; (focus (repeat (first | exact One.here _ _ | apply One.there)))) | refine Sub.drop _ ?_)
                 case hl_22 =>
                  exact each_nil
                case hl_21 =>
                 exact each_nil
               case hl_20 =>
                exact each_nil
              case hl_19 =>
               exact each_nil
            case hl_9 =>
             exact each_nil
           case hl_8 =>
            exact each_nil
          case hl_7 =>
           refine each_cons (m := 256) (D' := 895) (is := [3]) (bs := [true]) (T' := [(3, (_, _))]) rfl (fun _=>rfl) rfl rfl rfl (by kernel_rfl) rfl (w_buildSlice (vs := [_]) (cs := [_]) Tryz.underlying39 Tryz.sizeOf5 Tryz.zeroValue5 (fun _=>rfl) rfl rfl rfl rfl rfl) ?hk_24 (fun _ _ h => h.elim) ?hl_24
           case hk_24 =>
            rintro _ _ ⟨gc, rfl, rfl⟩
            refine ⟨keep_cons (by repeat (first | exact Has.here _ | apply Has.there)) (keep_nil), ?_⟩
            refine lin_r (D' := 1919) 10 rfl rfl rfl (by repeat (first | exact Has.here _ | apply Has.there)) (p_conv_bytes_str Tryz.underlying39 Tryz.underlying5 Tryz.underlying9 (fun _=>rfl) (by exact (show (_ = List.map u8v [c]) ∧ _ from ⟨rfl, rfl⟩))) ?_
            refine lin_eff (l := [7]) (by kernel_rfl) (by kernel_rfl) ?_
            refine each_cons (m := 112) (D' := 2047) (is := [10, 3]) (bs := [true, true]) (T' := [(10, (_, _)), (3, (_, _))]) rfl (fun _=>rfl) rfl rfl rfl (by kernel_rfl) rfl (w_callR (vs := [_, _]) (fun _=>rfl) Tryz.call12 (fun _=>rfl) rfl (pick_spec at_ (sizeN n) (by omega) (by omega) m1 m2) (by repeat (first | exact Pull.nil _ | (apply Pull.cons; (focus (repeat (first | exact One.here _ _ | apply One.there))))))) ?hk_25 (fun _ _ h => h.elim) ?hl_25
            case hk_25 =>
             rintro _ _ ⟨rfl, rfl⟩
             refine ⟨keep_cons (by repeat (first | exact Has.here _ | apply Has.there)) (keep_cons (by repeat (first | exact Has.here _ | apply Has.there)) (keep_nil)), ?_⟩
             refine lin_eff (l := [11]) (by kernel_rfl) (by kernel_rfl) ?_
             refine each_cons (m := 2047) (D' := 4095) (is := [10, 3]) (bs := [false, false]) (T' := []) rfl (fun _=>rfl) rfl rfl rfl (by kernel_rfl) rfl (w_call (vs := [_, _, _]) (fun _=>rfl) Tryz.call11 (fun _=>rfl) rfl (disk_write q.2.2 dp sd1 hR1 (pickN at_ (sizeN n)) [c] (by rw [hDq.2.1]; simp; omega) (by rw [hDq.2.1]; omega) (by rw [hDq.1.pend]; simp)) (by repeat (first | exact Pull.nil _ | (apply Pull.cons; (focus (repeat (first | exact One.here _ _ | apply One.there))))))) ?hk_26 no_pan ?hl_26
             case hk_26 =>
              rintro _ _ ⟨_, ⟨sd2, rfl, rfl, hR2⟩, rfl⟩
              refine ⟨keep_nil, ?_⟩
              refine lin_nil ?_
              refine nx_slots (env' := [(0, _), (3, _), (4, _), (11, _), (12, _)]) [0, 3, 4, 11, 12] rfl (fun _=>rfl) ?_
              refine nx_next ?_
              refine at_draw (n := 12) (0 :: 1 :: 3 :: 7 :: 0 :: 0 :: 32 :: 112 :: 0 :: 256 :: 768 :: 2047 :: []) 2752 (by kernel_rfl) (by kernel_rfl) rfl ?_
              refine lin_w (D' := 1) 0 rfl rfl rfl (p_move (fun _=>rfl)) ?_
              refine lin_w (D' := 3) 1 rfl rfl rfl (p_nilChk (fun _=>rfl) rfl) ?_
              first | refine lin_w (D' := 7) 2 rfl rfl rfl (p_fieldAddr0 (off := 2) Tryz.underlying32 rfl rfl Tryz.sizeOf29 (fun _=>rfl)) ?_ | refine lin_w (D' := 7) 2 rfl rfl rfl (p_fieldAddr1 (off := 2) Tryz.underlying32 rfl rfl Tryz.sizeOf29 (fun _=>rfl)) ?_
              refine lin_r (D' := 15) 3 rfl rfl rfl (by repeat (first | exact Has.here _ | apply Has.there)) (p_load Tryz.isAgg29 (fun _=>rfl) (by rfl)) ?_
              refine lin_w (D' := 31) 4 rfl rfl rfl (p_move (fun _=>rfl)) ?_
              refine lin_w (D' := 63) 5 rfl rfl rfl (p_move (fun _=>rfl)) ?_
              refine lin_w (D' := 319) 8 rfl rfl rfl (p_move (fun _=>rfl)) ?_
              refine lin_eff (l := [6, 9]) (by kernel_rfl) (by kernel_rfl) ?_
              refine each_cons (m := 32) (D' := 383) (is := [3]) (bs := [true]) (T' := [(3, (_, _))]) rfl (fun _=>rfl) rfl rfl rfl (by kernel_rfl) rfl (w_callR (vs := [_]) (fun _=>rfl) Tryz.call13 (fun _=>rfl) rfl (size_law n h1 h2) (by repeat (first | exact Pull.nil _ | (apply Pull.cons; (focus (repeat (first | exact One.here _ _ | apply One.there))))))) ?hk_27 (fun _ _ h => h.elim) ?hl_27
              case hk_27 =>
               rintro _ _ ⟨rfl, rfl⟩
               refine ⟨keep_cons (by repeat (first | exact Has.here _ | apply Has.there)) (keep_nil), ?_⟩
               refine lin_eff (l := [7, 9]) (by kernel_rfl) (by kernel_rfl) ?_
               refine each_cons (m := 112) (D' := 511) (is := [3]) (bs := [true]) (T' := [(3, (_, _))]) rfl (fun _=>rfl) rfl rfl rfl (by kernel_rfl) rfl (w_callR (vs := [_, _]) (fun _=>rfl) Tryz.call12 (fun _=>rfl) rfl (pick_spec at_ (sizeN n) (by omega) (by omega) m1 m2) (by repeat (first | exact Pull.nil _ | (apply Pull.cons; (focus (repeat (first | exact One.here _ _ | apply One.there))))))) ?hk_28 (fun _ _ h => h.elim) ?hl_28
               case hk_28 =>
                rintro _ _ ⟨rfl, rfl⟩
                refine ⟨keep_cons (by repeat (first | exact Has.here _ | apply Has.there)) (keep_nil), ?_⟩
                refine lin_eff (l := [9]) (by kernel_rfl) (by kernel_rfl) ?_
                refine each_cons (m := 256) (D' := 1023) (is := [3]) (bs := [true]) (T' := [(3, (_, _))]) rfl (fun _=>rfl) rfl rfl rfl (by kernel_rfl) rfl (w_buildSlice (vs := [_]) (cs := [_]) Tryz.underlying39 Tryz.sizeOf5 Tryz.zeroValue5 (fun _=>rfl) rfl rfl rfl rfl rfl) ?hk_29 (fun _ _ h => h.elim) ?hl_29
                case hk_29 =>
                 rintro _ _ ⟨gd, rfl, rfl⟩
                 refine ⟨keep_cons (by repeat (first | exact Has.here _ | apply Has.there)) (keep_nil), ?_⟩
                 refine lin_r (D' := 2047) 10 rfl rfl rfl (by repeat (first | exact Has.here _ | apply Has.there)) (p_conv_bytes_str Tryz.underlying39 Tryz.underlying5 Tryz.underlying9 (fun _=>rfl) (by exact (show (_ = List.map u8v [c]) ∧ _ from ⟨rfl, rfl⟩))) ?_
                 refine lin_eff (l := [11]) (by kernel_rfl) (by kernel_rfl) ?_
                 refine each_cons (m := 2047) (D' := 4095) (is := [10, 3]) (bs := [false, false]) (T' := []) rfl (fun _=>rfl) rfl rfl rfl (by kernel_rfl) rfl (w_call (vs := [_, _, _]) (fun _=>rfl) Tryz.call14 (fun _=>rfl) rfl (rd_write q.2.2 rp sr1 hr1 (pickN at_ (sizeN n)) [c] (by rw [hDq.2.1]; simp; omega) (by rw [hDq.1.pend]; simp)) (by repeat (first | exact Pull.nil _ | (apply Pull.cons; (focus (repeat (first | exact One.here _ _ | apply One.there))))))) ?hk_30 no_pan ?hl_30
                 case hk_30 =>
                  rintro _ _ ⟨_, ⟨sr2, rfl, rfl, hr2⟩, rfl⟩
                  refine ⟨keep_nil, ?_⟩
                  have hw2 := write_on q.2.2 (pickN at_ (sizeN n)) [c] hDq.1.off hDq.1.left
                  have hv2 := write_len q.2.2 (pickN at_ (sizeN n)) [c] (by rw [hDq.2.1]; simp; omega)
                  have hp2 := write_pend q.2.2 (pickN at_ (sizeN n)) [c]
                  obtain ⟨d2, hd2⟩ : ∃ x, x = (q.2.2.write (pickN at_ (sizeN n)) [c]).2 := ⟨_, rfl⟩
                  rw [← hd2] at hR2 hr2 hw2 hv2 hp2
                  rw [hDq.1.pend] at hp2
                  rw [hDq.2.1] at hv2
                  simp only [List.length_nil] at hp2
                  refine lin_nil ?_
                  refine nx_slots (env' := [(11, _), (12, _)]) [11, 12] rfl (fun _=>rfl) ?_
                  refine nx_slots (env' := [(11, _), (12, _)]) [11, 12] rfl (fun _=>rfl) ?_
                  refine nx_cutB (e' := []) (H' := _) (by exact ⟨d2, .pointer (some ⟨jp, 0, none⟩), .pointer (some ⟨kp, 0, none⟩), sd2, sr2, ⟨hR2, hr2, hw2, by omega, by omega⟩, rfl, rfl⟩) ?hp_31
                  case hp_31 => repeat (first | exact Sub.refl _ | exact Sub.nil _ | (apply Sub.cons; (focus (repeat (first | exact One.here _ _ | apply One.there)))) | refine Sub.drop _ ?_)
                 case hl_30 =>
                  exact each_nil
                case hl_29 =>
                 exact each_nil
               case hl_28 =>
                refine each_cons (m := 256) (D' := 895) (is := [3]) (bs := [true]) (T' := [(3, (_, _))]) rfl (fun _=>rfl) rfl rfl rfl (by kernel_rfl) rfl (w_buildSlice (vs := [_]) (cs := [_]) Tryz.underlying39 Tryz.sizeOf5 Tryz.zeroValue5 (fun _=>rfl) rfl rfl rfl rfl rfl) ?hk_32 (fun _ _ h => h.elim) ?hl_32
                case hk_32 =>
                 rintro _ _ ⟨gd, rfl, rfl⟩
                 refine ⟨keep_cons (by repeat (first | exact Has.here _ | apply Has.there)) (keep_nil), ?_⟩
                 refine lin_r (D' := 1919) 10 rfl rfl rfl (by repeat (first | exact Has.here _ | apply Has.there)) (p_conv_bytes_str Tryz.underlying39 Tryz.underlying5 Tryz.underlying9 (fun _=>rfl) (by exact (show (_ = List.map u8v [c]) ∧ _ from ⟨rfl, rfl⟩))) ?_
                 refine lin_eff (l := [7]) (by kernel_rfl) (by kernel_rfl) ?_
                 refine each_cons (m := 112) (D' := 2047) (is := [10, 3]) (bs := [true, true]) (T' := [(10, (_, _)), (3, (_, _))]) rfl (fun _=>rfl) rfl rfl rfl (by kernel_rfl) rfl (w_callR (vs := [_, _]) (fun _=>rfl) Tryz.call12 (fun _=>rfl) rfl (pick_spec at_ (sizeN n) (by omega) (by omega) m1 m2) (by repeat (first | exact Pull.nil _ | (apply Pull.cons; (focus (repeat (first | exact One.here _ _ | apply One.there))))))) ?hk_33 (fun _ _ h => h.elim) ?hl_33
                 case hk_33 =>
                  rintro _ _ ⟨rfl, rfl⟩
                  refine ⟨keep_cons (by repeat (first | exact Has.here _ | apply Has.there)) (keep_cons (by repeat (first | exact Has.here _ | apply Has.there)) (keep_nil)), ?_⟩
                  refine lin_eff (l := [11]) (by kernel_rfl) (by kernel_rfl) ?_
                  refine each_cons (m := 2047) (D' := 4095) (is := [10, 3]) (bs := [false, false]) (T' := []) rfl (fun _=>rfl) rfl rfl rfl (by kernel_rfl) rfl (w_call (vs := [_, _, _]) (fun _=>rfl) Tryz.call14 (fun _=>rfl) rfl (rd_write q.2.2 rp sr1 hr1 (pickN at_ (sizeN n)) [c] (by rw [hDq.2.1]; simp; omega) (by rw [hDq.1.pend]; simp)) (by repeat (first | exact Pull.nil _ | (apply Pull.cons; (focus (repeat (first | exact One.here _ _ | apply One.there))))))) ?hk_34 no_pan ?hl_34
                  case hk_34 =>
                   rintro _ _ ⟨_, ⟨sr2, rfl, rfl, hr2⟩, rfl⟩
                   refine ⟨keep_nil, ?_⟩
                   have hw2 := write_on q.2.2 (pickN at_ (sizeN n)) [c] hDq.1.off hDq.1.left
                   have hv2 := write_len q.2.2 (pickN at_ (sizeN n)) [c] (by rw [hDq.2.1]; simp; omega)
                   have hp2 := write_pend q.2.2 (pickN at_ (sizeN n)) [c]
                   obtain ⟨d2, hd2⟩ : ∃ x, x = (q.2.2.write (pickN at_ (sizeN n)) [c]).2 := ⟨_, rfl⟩
                   rw [← hd2] at hR2 hr2 hw2 hv2 hp2
                   rw [hDq.1.pend] at hp2
                   rw [hDq.2.1] at hv2
                   simp only [List.length_nil] at hp2
                   refine lin_nil ?_
                   refine nx_slots (env' := [(11, _), (12, _)]) [11, 12] rfl (fun _=>rfl) ?_
                   refine nx_slots (env' := [(11, _), (12, _)]) [11, 12] rfl (fun _=>rfl) ?_
                   refine nx_cutB (e' := []) (H' := _) (by exact ⟨d2, .pointer (some ⟨jp, 0, none⟩), .pointer (some ⟨kp, 0, none⟩), sd2, sr2, ⟨hR2, hr2, hw2, by omega, by omega⟩, rfl, rfl⟩) ?hp_35
                   case hp_35 => repeat (first | exact Sub.refl _ | exact Sub.nil _ | (apply Sub.cons; (focus (repeat (first | exact One.here _ _ | apply One.there)))) | refine Sub.drop _ ?_)
                  case hl_34 =>
                   exact each_nil
                 case hl_33 =>
                  exact each_nil
                case hl_32 =>
                 exact each_nil
              case hl_27 =>
               refine each_cons (m := 256) (D' := 831) (is := [3]) (bs := [true]) (T' := [(3, (_, _))]) rfl (fun _=>rfl) rfl rfl rfl (by kernel_rfl) rfl (w_buildSlice (vs := [_]) (cs := [_]) Tryz.underlying39 Tryz.sizeOf5 Tryz.zeroValue5 (fun _=>rfl) rfl rfl rfl rfl rfl) ?hk_36 (fun _ _ h => h.elim) ?hl_36
               case hk_36 =>
                rintro _ _ ⟨gd, rfl, rfl⟩
                refine ⟨keep_cons (by repeat (first | exact Has.here _ | apply Has.there)) (keep_nil), ?_⟩
                refine lin_r (D' := 1855) 10 rfl rfl rfl (by repeat (first | exact Has.here _ | apply Has.there)) (p_conv_bytes_str Tryz.underlying39 Tryz.underlying5 Tryz.underlying9 (fun _=>rfl) (by exact (show (_ = List.map u8v [c]) ∧ _ from ⟨rfl, rfl⟩))) ?_
                refine lin_eff (l := [6]) (by kernel_rfl) (by kernel_rfl) ?_
                refine each_cons (m := 32) (D' := 1919) (is := [10, 3]) (bs := [true, true]) (T' := [(10, (_, _)), (3, (_, _))]) rfl (fun _=>rfl) rfl rfl rfl (by kernel_rfl) rfl (w_callR (vs := [_]) (fun _=>rfl) Tryz.call13 (fun _=>rfl) rfl (size_law n h1 h2) (by repeat (first | exact Pull.nil _ | (apply Pull.cons; (focus (repeat (first | exact One.here _ _ | apply One.there))))))) ?hk_37 (fun _ _ h => h.elim) ?hl_37
                case hk_37 =>
                 rintro _ _ ⟨rfl, rfl⟩
                 refine ⟨keep_cons (by repeat (first | exact Has.here _ | apply Has.there)) (keep_cons (by repeat (first | exact Has.here _ | apply Has.there)) (keep_nil)), ?_⟩
                 refine lin_eff (l := [7]) (by kernel_rfl) (by kernel_rfl) ?_
                 refine each_cons (m := 112) (D' := 2047) (is := [10, 3]) (bs := [true, true]) (T' := [(10, (_, _)), (3, (_, _))]) rfl (fun _=>rfl) rfl rfl rfl (by kernel_rfl) rfl (w_callR (vs := [_, _]) (fun _=>rfl) Tryz.call12 (fun _=>rfl) rfl (pick_spec at_ (sizeN n) (by omega) (by omega) m1 m2) (by repeat (first | exact Pull.nil _ | (apply Pull.cons; (focus (repeat (first | exact One.here _ _ | apply One.there))))))) ?hk_38 (fun _ _ h => h.elim) ?hl_38
                 case hk_38 =>
                  rintro _ _ ⟨rfl, rfl⟩
                  refine ⟨keep_cons (by repeat (first | exact Has.here _ | apply Has.there)) (keep_cons (by repeat (first | exact Has.here _ | apply Has.there)) (keep_nil)), ?_⟩
                  refine lin_eff (l := [11]) (by kernel_rfl) (by kernel_rfl) ?_
                  refine each_cons (m := 2047) (D' := 4095) (is := [10, 3]) (bs := [false, false]) (T' := []) rfl (fun _=>rfl) rfl rfl rfl (by kernel_rfl) rfl (w_call (vs := [_, _, _]) (fun _=>rfl) Tryz.call14 (fun _=>rfl) rfl (rd_write q.2.2 rp sr1 hr1 (pickN at_ (sizeN n)) [c] (by rw [hDq.2.1]; simp; omega) (by rw [hDq.1.pend]; simp)) (by repeat (first | exact Pull.nil _ | (apply Pull.cons; (focus (repeat (first | exact One.here _ _ | apply One.there))))))) ?hk_39 no_pan ?hl_39
                  case hk_39 =>
                   rintro _ _ ⟨_, ⟨sr2, rfl, rfl, hr2⟩, rfl⟩
                   refine ⟨keep_nil, ?_⟩
                   have hw2 := write_on q.2.2 (pickN at_ (sizeN n)) [c] hDq.1.off hDq.1.left
                   have hv2 := write_len q.2.2 (pickN at_ (sizeN n)) [c] (by rw [hDq.2.1]; simp; omega)
                   have hp2 := write_pend q.2.2 (pickN at_ (sizeN n)) [c]
                   obtain ⟨d2, hd2⟩ : ∃ x, x = (q.2.2.write (pickN at_ (sizeN n)) [c]).2 := ⟨_, rfl⟩
                   rw [← hd2] at hR2 hr2 hw2 hv2 hp2
                   rw [hDq.1.pend] at hp2
                   rw [hDq.2.1] at hv2
                   simp only [List.length_nil] at hp2
                   refine lin_nil ?_
                   refine nx_slots (env' := [(11, _), (12, _)]) [11, 12] rfl (fun _=>rfl) ?_
                   refine nx_slots (env' := [(11, _), (12, _)]) [11, 12] rfl (fun _=>rfl) ?_
                   refine nx_cutB (e' := []) (H' := _) (by exact ⟨d2, .pointer (some ⟨jp, 0, none⟩), .pointer (some ⟨kp, 0, none⟩), sd2, sr2, ⟨hR2, hr2, hw2, by omega, by omega⟩, rfl, rfl⟩) ?hp_40
                   case hp_40 => repeat (first | exact Sub.refl _ | exact Sub.nil _ | (apply Sub.cons; (focus (repeat (first | exact One.here _ _ | apply One.there)))) | refine Sub.drop _ ?_)
                  case hl_39 =>
                   exact each_nil
                 case hl_38 =>
                  exact each_nil
                case hl_37 =>
                 exact each_nil
               case hl_36 =>
                exact each_nil
             case hl_26 =>
              exact each_nil
            case hl_25 =>
             exact each_nil
           case hl_24 =>
            exact each_nil
         case hl_6 =>
          refine each_cons (m := 256) (D' := 831) (is := [3]) (bs := [true]) (T' := [(3, (_, _))]) rfl (fun _=>rfl) rfl rfl rfl (by kernel_rfl) rfl (w_buildSlice (vs := [_]) (cs := [_]) Tryz.underlying39 Tryz.sizeOf5 Tryz.zeroValue5 (fun _=>rfl) rfl rfl rfl rfl rfl) ?hk_41 (fun _ _ h => h.elim) ?hl_41
          case hk_41 =>
           rintro _ _ ⟨gc, rfl, rfl⟩
           refine ⟨keep_cons (by repeat (first | exact Has.here _ | apply Has.there)) (keep_nil), ?_⟩
           refine lin_r (D' := 1855) 10 rfl rfl rfl (by repeat (first | exact Has.here _ | apply Has.there)) (p_conv_bytes_str Tryz.underlying39 Tryz.underlying5 Tryz.underlying9 (fun _=>rfl) (by exact (show (_ = List.map u8v [c]) ∧ _ from ⟨rfl, rfl⟩))) ?_
           refine lin_eff (l := [6]) (by kernel_rfl) (by kernel_rfl) ?_
           refine each_cons (m := 32) (D' := 1919) (is := [10, 3]) (bs := [true, true]) (T' := [(10, (_, _)), (3, (_, _))]) rfl (fun _=>rfl) rfl rfl rfl (by kernel_rfl) rfl (w_callR (vs := [_]) (fun _=>rfl) Tryz.call13 (fun _=>rfl) rfl (size_law n h1 h2) (by repeat (first | exact Pull.nil _ | (apply Pull.cons; (focus (repeat (first | exact One.here _ _ | apply One.there))))))) ?hk_42 (fun _ _ h => h.elim) ?hl_42
           case hk_42 =>
            rintro _ _ ⟨rfl, rfl⟩
            refine ⟨keep_cons (by repeat (first | exact Has.here _ | apply Has.there)) (keep_cons (by repeat (first | exact Has.here _ | apply Has.there)) (keep_nil)), ?_⟩
            refine lin_eff (l := [7]) (by kernel_rfl) (by kernel_rfl) ?_
            refine each_cons (m := 112) (D' := 2047) (is := [10, 3]) (bs := [true, true]) (T' := [(10, (_, _)), (3, (_, _))]) rfl (fun _=>rfl) rfl rfl rfl (by kernel_rfl) rfl (w_callR (vs := [_, _]) (fun _=>rfl) Tryz.call12 (fun _=>rfl) rfl (pick_spec at_ (sizeN n) (by omega) (by omega) m1 m2) (by repeat (first | exact Pull.nil _ | (apply Pull.cons; (focus (repeat (first | exact One.here _ _ | apply One.there))))))) ?hk_43 (fun _ _ h => h.elim) ?hl_43
            case hk_43 =>
             rintro _ _ ⟨rfl, rfl⟩
             refine ⟨keep_cons (by repeat (first | exact Has.here _ | apply Has.there)) (keep_cons (by repeat (first | exact Has.here _ | apply Has.there)) (keep_nil)), ?_⟩
             refine lin_eff (l := [11]) (by kernel_rfl) (by kernel_rfl) ?_
             refine each_cons (m := 2047) (D' := 4095) (is := [10, 3]) (bs := [false, false]) (T' := []) rfl (fun _=>rfl) rfl rfl rfl (by kernel_rfl) rfl (w_call (vs := [_, _, _]) (fun _=>rfl) Tryz.call11 (fun _=>rfl) rfl (disk_write q.2.2 dp sd1 hR1 (pickN at_ (sizeN n)) [c] (by rw [hDq.2.1]; simp; omega) (by rw [hDq.2.1]; omega) (by rw [hDq.1.pend]; simp)) (by repeat (first | exact Pull.nil _ | (apply Pull.cons; (focus (repeat (first | exact One.here _ _ | apply One.there))))))) ?hk_44 no_pan ?hl_44
             case hk_44 =>
              rintro _ _ ⟨_, ⟨sd2, rfl, rfl, hR2⟩, rfl⟩
              refine ⟨keep_nil, ?_⟩
              refine lin_nil ?_
              refine nx_slots (env' := [(0, _), (3, _), (4, _), (11, _), (12, _)]) [0, 3, 4, 11, 12] rfl (fun _=>rfl) ?_
              refine nx_next ?_
              refine at_draw (n := 12) (0 :: 1 :: 3 :: 7 :: 0 :: 0 :: 32 :: 112 :: 0 :: 256 :: 768 :: 2047 :: []) 2752 (by kernel_rfl) (by kernel_rfl) rfl ?_
              refine lin_w (D' := 1) 0 rfl rfl rfl (p_move (fun _=>rfl)) ?_
              refine lin_w (D' := 3) 1 rfl rfl rfl (p_nilChk (fun _=>rfl) rfl) ?_
              first | refine lin_w (D' := 7) 2 rfl rfl rfl (p_fieldAddr0 (off := 2) Tryz.underlying32 rfl rfl Tryz.sizeOf29 (fun _=>rfl)) ?_ | refine lin_w (D' := 7) 2 rfl rfl rfl (p_fieldAddr1 (off := 2) Tryz.underlying32 rfl rfl Tryz.sizeOf29 (fun _=>rfl)) ?_
              refine lin_r (D' := 15) 3 rfl rfl rfl (by repeat (first | exact Has.here _ | apply Has.there)) (p_load Tryz.isAgg29 (fun _=>rfl) (by rfl)) ?_
              refine lin_w (D' := 31) 4 rfl rfl rfl (p_move (fun _=>rfl)) ?_
              refine lin_w (D' := 63) 5 rfl rfl rfl (p_move (fun _=>rfl)) ?_
              refine lin_w (D' := 319) 8 rfl rfl rfl (p_move (fun _=>rfl)) ?_
              refine lin_eff (l := [6, 9]) (by kernel_rfl) (by kernel_rfl) ?_
              refine each_cons (m := 32) (D' := 383) (is := [3]) (bs := [true]) (T' := [(3, (_, _))]) rfl (fun _=>rfl) rfl rfl rfl (by kernel_rfl) rfl (w_callR (vs := [_]) (fun _=>rfl) Tryz.call13 (fun _=>rfl) rfl (size_law n h1 h2) (by repeat (first | exact Pull.nil _ | (apply Pull.cons; (focus (repeat (first | exact One.here _ _ | apply One.there))))))) ?hk_45 (fun _ _ h => h.elim) ?hl_45
              case hk_45 =>
               rintro _ _ ⟨rfl, rfl⟩
               refine ⟨keep_cons (by repeat (first | exact Has.here _ | apply Has.there)) (keep_nil), ?_⟩
               refine lin_eff (l := [7, 9]) (by kernel_rfl) (by kernel_rfl) ?_
               refine each_cons (m := 112) (D' := 511) (is := [3]) (bs := [true]) (T' := [(3, (_, _))]) rfl (fun _=>rfl) rfl rfl rfl (by kernel_rfl) rfl (w_callR (vs := [_, _]) (fun _=>rfl) Tryz.call12 (fun _=>rfl) rfl (pick_spec at_ (sizeN n) (by omega) (by omega) m1 m2) (by repeat (first | exact Pull.nil _ | (apply Pull.cons; (focus (repeat (first | exact One.here _ _ | apply One.there))))))) ?hk_46 (fun _ _ h => h.elim) ?hl_46
               case hk_46 =>
                rintro _ _ ⟨rfl, rfl⟩
                refine ⟨keep_cons (by repeat (first | exact Has.here _ | apply Has.there)) (keep_nil), ?_⟩
                refine lin_eff (l := [9]) (by kernel_rfl) (by kernel_rfl) ?_
                refine each_cons (m := 256) (D' := 1023) (is := [3]) (bs := [true]) (T' := [(3, (_, _))]) rfl (fun _=>rfl) rfl rfl rfl (by kernel_rfl) rfl (w_buildSlice (vs := [_]) (cs := [_]) Tryz.underlying39 Tryz.sizeOf5 Tryz.zeroValue5 (fun _=>rfl) rfl rfl rfl rfl rfl) ?hk_47 (fun _ _ h => h.elim) ?hl_47
                case hk_47 =>
                 rintro _ _ ⟨gd, rfl, rfl⟩
                 refine ⟨keep_cons (by repeat (first | exact Has.here _ | apply Has.there)) (keep_nil), ?_⟩
                 refine lin_r (D' := 2047) 10 rfl rfl rfl (by repeat (first | exact Has.here _ | apply Has.there)) (p_conv_bytes_str Tryz.underlying39 Tryz.underlying5 Tryz.underlying9 (fun _=>rfl) (by exact (show (_ = List.map u8v [c]) ∧ _ from ⟨rfl, rfl⟩))) ?_
                 refine lin_eff (l := [11]) (by kernel_rfl) (by kernel_rfl) ?_
                 refine each_cons (m := 2047) (D' := 4095) (is := [10, 3]) (bs := [false, false]) (T' := []) rfl (fun _=>rfl) rfl rfl rfl (by kernel_rfl) rfl (w_call (vs := [_, _, _]) (fun _=>rfl) Tryz.call14 (fun _=>rfl) rfl (rd_write q.2.2 rp sr1 hr1 (pickN at_ (sizeN n)) [c] (by rw [hDq.2.1]; simp; omega) (by rw [hDq.1.pend]; simp)) (by repeat (first | exact Pull.nil _ | (apply Pull.cons; (focus (repeat (first | exact One.here _ _ | apply One.there))))))) ?hk_48 no_pan ?hl_48
                 case hk_48 =>
                  rintro _ _ ⟨_, ⟨sr2, rfl, rfl, hr2⟩, rfl⟩
                  refine ⟨keep_nil, ?_⟩
                  have hw2 := write_on q.2.2 (pickN at_ (sizeN n)) [c] hDq.1.off hDq.1.left
                  have hv2 := write_len q.2.2 (pickN at_ (sizeN n)) [c] (by rw [hDq.2.1]; simp; omega)
                  have hp2 := write_pend q.2.2 (pickN at_ (sizeN n)) [c]
                  obtain ⟨d2, hd2⟩ : ∃ x, x = (q.2.2.write (pickN at_ (sizeN n)) [c]).2 := ⟨_, rfl⟩
                  rw [← hd2] at hR2 hr2 hw2 hv2 hp2
                  rw [hDq.1.pend] at hp2
                  rw [hDq.2.1] at hv2
                  simp only [List.length_nil] at hp2
                  refine lin_nil ?_
                  refine nx_slots (env' := [(11, _), (12, _)]) [11, 12] rfl (fun _=>rfl) ?_
                  refine nx_slots (env' := [(11, _), (12, _)]) [11, 12] rfl (fun _=>rfl) ?_
                  refine nx_cutB (e' := []) (H' := _) (by exact ⟨d2, .pointer (some ⟨jp, 0, none⟩), .pointer (some ⟨kp, 0, none⟩), sd2, sr2, ⟨hR2, hr2, hw2, by omega, by omega⟩, rfl, rfl⟩) ?hp_49
                  case hp_49 => repeat (first | exact Sub.refl _ | exact Sub.nil _ | (apply Sub.cons; (focus (repeat (first | exact One.here _ _ | apply One.there)))) | refine Sub.drop _ ?_)
                 case hl_48 =>
                  exact each_nil
                case hl_47 =>
                 exact each_nil
               case hl_46 =>
                refine each_cons (m := 256) (D' := 895) (is := [3]) (bs := [true]) (T' := [(3, (_, _))]) rfl (fun _=>rfl) rfl rfl rfl (by kernel_rfl) rfl (w_buildSlice (vs := [_]) (cs := [_]) Tryz.underlying39 Tryz.sizeOf5 Tryz.zeroValue5 (fun _=>rfl) rfl rfl rfl rfl rfl) ?hk_50 (fun _ _ h => h.elim) ?hl_50
                case hk_50 =>
                 rintro _ _ ⟨gd, rfl, rfl⟩
                 refine ⟨keep_cons (by repeat (first | exact Has.here _ | apply Has.there)) (keep_nil), ?_⟩
                 refine lin_r (D' := 1919) 10 rfl rfl rfl (by repeat (first | exact Has.here _ | apply Has.there)) (p_conv_bytes_str Tryz.underlying39 Tryz.underlying5 Tryz.underlying9 (fun _=>rfl) (by exact (show (_ = List.map u8v [c]) ∧ _ from ⟨rfl, rfl⟩))) ?_
                 refine lin_eff (l := [7]) (by kernel_rfl) (by kernel_rfl) ?_
                 refine each_cons (m := 112) (D' := 2047) (is := [10, 3]) (bs := [true, true]) (T' := [(10, (_, _)), (3, (_, _))]) rfl (fun _=>rfl) rfl rfl rfl (by kernel_rfl) rfl (w_callR (vs := [_, _]) (fun _=>rfl) Tryz.call12 (fun _=>rfl) rfl (pick_spec at_ (sizeN n) (by omega) (by omega) m1 m2) (by repeat (first | exact Pull.nil _ | (apply Pull.cons; (focus (repeat (first | exact One.here _ _ | apply One.there))))))) ?hk_51 (fun _ _ h => h.elim) ?hl_51
                 case hk_51 =>
                  rintro _ _ ⟨rfl, rfl⟩
                  refine ⟨keep_cons (by repeat (first | exact Has.here _ | apply Has.there)) (keep_cons (by repeat (first | exact Has.here _ | apply Has.there)) (keep_nil)), ?_⟩
                  refine lin_eff (l := [11]) (by kernel_rfl) (by kernel_rfl) ?_
                  refine each_cons (m := 2047) (D' := 4095) (is := [10, 3]) (bs := [false, false]) (T' := []) rfl (fun _=>rfl) rfl rfl rfl (by kernel_rfl) rfl (w_call (vs := [_, _, _]) (fun _=>rfl) Tryz.call14 (fun _=>rfl) rfl (rd_write q.2.2 rp sr1 hr1 (pickN at_ (sizeN n)) [c] (by rw [hDq.2.1]; simp; omega) (by rw [hDq.1.pend]; simp)) (by repeat (first | exact Pull.nil _ | (apply Pull.cons; (focus (repeat (first | exact One.here _ _ | apply One.there))))))) ?hk_52 no_pan ?hl_52
                  case hk_52 =>
                   rintro _ _ ⟨_, ⟨sr2, rfl, rfl, hr2⟩, rfl⟩
                   refine ⟨keep_nil, ?_⟩
                   have hw2 := write_on q.2.2 (pickN at_ (sizeN n)) [c] hDq.1.off hDq.1.left
                   have hv2 := write_len q.2.2 (pickN at_ (sizeN n)) [c] (by rw [hDq.2.1]; simp; omega)
                   have hp2 := write_pend q.2.2 (pickN at_ (sizeN n)) [c]
                   obtain ⟨d2, hd2⟩ : ∃ x, x = (q.2.2.write (pickN at_ (sizeN n)) [c]).2 := ⟨_, rfl⟩
                   rw [← hd2] at hR2 hr2 hw2 hv2 hp2
                   rw [hDq.1.pend] at hp2
                   rw [hDq.2.1] at hv2
                   simp only [List.length_nil] at hp2
                   refine lin_nil ?_
                   refine nx_slots (env' := [(11, _), (12, _)]) [11, 12] rfl (fun _=>rfl) ?_
                   refine nx_slots (env' := [(11, _), (12, _)]) [11, 12] rfl (fun _=>rfl) ?_
                   refine nx_cutB (e' := []) (H' := _) (by exact ⟨d2, .pointer (some ⟨jp, 0, none⟩), .pointer (some ⟨kp, 0, none⟩), sd2, sr2, ⟨hR2, hr2, hw2, by omega, by omega⟩, rfl, rfl⟩) ?hp_53
                   case hp_53 => repeat (first | exact Sub.refl _ | exact Sub.nil _ | (apply Sub.cons; (focus (repeat (first | exact One.here _ _ | apply One.there)))) | refine Sub.drop _ ?_)
                  case hl_52 =>
                   exact each_nil
                 case hl_51 =>
                  exact each_nil
                case hl_50 =>
                 exact each_nil
              case hl_45 =>
               refine each_cons (m := 256) (D' := 831) (is := [3]) (bs := [true]) (T' := [(3, (_, _))]) rfl (fun _=>rfl) rfl rfl rfl (by kernel_rfl) rfl (w_buildSlice (vs := [_]) (cs := [_]) Tryz.underlying39 Tryz.sizeOf5 Tryz.zeroValue5 (fun _=>rfl) rfl rfl rfl rfl rfl) ?hk_54 (fun _ _ h => h.elim) ?hl_54
               case hk_54 =>
                rintro _ _ ⟨gd, rfl, rfl⟩
                refine ⟨keep_cons (by repeat (first | exact Has.here _ | apply Has.there)) (keep_nil), ?_⟩
                refine lin_r (D' := 1855) 10 rfl rfl rfl (by repeat (first | exact Has.here _ | apply Has.there)) (p_conv_bytes_str Tryz.underlying39 Tryz.underlying5 Tryz.underlying9 (fun _=>rfl) (by exact (show (_ = List.map u8v [c]) ∧ _ from ⟨rfl, rfl⟩))) ?_
                refine lin_eff (l := [6]) (by kernel_rfl) (by kernel_rfl) ?_
                refine each_cons (m := 32) (D' := 1919) (is := [10, 3]) (bs := [true, true]) (T' := [(10, (_, _)), (3, (_, _))]) rfl (fun _=>rfl) rfl rfl rfl (by kernel_rfl) rfl (w_callR (vs := [_]) (fun _=>rfl) Tryz.call13 (fun _=>rfl) rfl (size_law n h1 h2) (by repeat (first | exact Pull.nil _ | (apply Pull.cons; (focus (repeat (first | exact One.here _ _ | apply One.there))))))) ?hk_55 (fun _ _ h => h.elim) ?hl_55
                case hk_55 =>
                 rintro _ _ ⟨rfl, rfl⟩
                 refine ⟨keep_cons (by repeat (first | exact Has.here _ | apply Has.there)) (keep_cons (by repeat (first | exact Has.here _ | apply Has.there)) (keep_nil)), ?_⟩
                 refine lin_eff (l := [7]) (by kernel_rfl) (by kernel_rfl) ?_
                 refine each_cons (m := 112) (D' := 2047) (is := [10, 3]) (bs := [true, true]) (T' := [(10, (_, _)), (3, (_, _))]) rfl (fun _=>rfl) rfl rfl rfl (by kernel_rfl) rfl (w_callR (vs := [_, _]) (fun _=>rfl) Tryz.call12 (fun _=>rfl) rfl (pick_spec at_ (sizeN n) (by omega) (by omega) m1 m2) (by repeat (first | exact Pull.nil _ | (apply Pull.cons; (focus (repeat (first | exact One.here _ _ | apply One.there))))))) ?hk_56 (fun _ _ h => h.elim) ?hl_56
                 case hk_56 =>
                  rintro _ _ ⟨rfl, rfl⟩
                  refine ⟨keep_cons (by repeat (first | exact Has.here _ | apply Has.there)) (keep_cons (by repeat (first | exact Has.here _ | apply Has.there)) (keep_nil)), ?_⟩
                  refine lin_eff (l := [11]) (by kernel_rfl) (by kernel_rfl) ?_
                  refine each_cons (m := 2047) (D' := 4095) (is := [10, 3]) (bs := [false, false]) (T' := []) rfl (fun _=>rfl) rfl rfl rfl (by kernel_rfl) rfl (w_call (vs := [_, _, _]) (fun _=>rfl) Tryz.call14 (fun _=>rfl) rfl (rd_write q.2.2 rp sr1 hr1 (pickN at_ (sizeN n)) [c] (by rw [hDq.2.1]; simp; omega) (by rw [hDq.1.pend]; simp)) (by repeat (first | exact Pull.nil _ | (apply Pull.cons; (focus (repeat (first | exact One.here _ _ | apply One.there))))))) ?hk_57 no_pan ?hl_57
                  case hk_57 =>
                   rintro _ _ ⟨_, ⟨sr2, rfl, rfl, hr2⟩, rfl⟩
                   refine ⟨keep_nil, ?_⟩
                   have hw2 := write_on q.2.2 (pickN at_ (sizeN n)) [c] hDq.1.off hDq.1.left
                   have hv2 := write_len q.2.2 (pickN at_ (sizeN n)) [c] (by rw [hDq.2.1]; simp; omega)
                   have hp2 := write_pend q.2.2 (pickN at_ (sizeN n)) [c]
                   obtain ⟨d2, hd2⟩ : ∃ x, x = (q.2.2.write (pickN at_ (sizeN n)) [c]).2 := ⟨_, rfl⟩
                   rw [← hd2] at hR2 hr2 hw2 hv2 hp2
                   rw [hDq.1.pend] at hp2
                   rw [hDq.2.1] at hv2
                   simp only [List.length_nil] at hp2
                   refine lin_nil ?_
                   refine nx_slots (env' := [(11, _), (12, _)]) [11, 12] rfl (fun _=>rfl) ?_
                   refine nx_slots (env' := [(11, _), (12, _)]) [11, 12] rfl (fun _=>rfl) ?_
                   refine nx_cutB (e' := []) (H' := _) (by exact ⟨d2, .pointer (some ⟨jp, 0, none⟩), .pointer (some ⟨kp, 0, none⟩), sd2, sr2, ⟨hR2, hr2, hw2, by omega, by omega⟩, rfl, rfl⟩) ?hp_58
                   case hp_58 => repeat (first | exact Sub.refl _ | exact Sub.nil _ | (apply Sub.cons; (focus (repeat (first | exact One.here _ _ | apply One.there)))) | refine Sub.drop _ ?_)
                  case hl_57 =>
                   exact each_nil
                 case hl_56 =>
                  exact each_nil
                case hl_55 =>
                 exact each_nil
               case hl_54 =>
                exact each_nil
             case hl_44 =>
              exact each_nil
            case hl_43 =>
             exact each_nil
           case hl_42 =>
            exact each_nil
          case hl_41 =>
           exact each_nil
       case hl_5 =>
        exact each_nil
      case hl_4 =>
       exact each_nil
     case hl_3 =>
      exact each_nil
    case hl_2 =>
     exact each_nil
  ·
   refine at_seq ?_
   refine at_draw (n := 12) (0 :: 1 :: 3 :: 7 :: 0 :: 0 :: 32 :: 0 :: 128 :: 480 :: 1008 :: 2047 :: []) 2304 (by kernel_rfl) (by kernel_rfl) rfl ?_
   refine lin_w (D' := 1) 0 rfl rfl rfl (p_move (fun _=>rfl)) ?_
   refine lin_w (D' := 3) 1 rfl rfl rfl (p_nilChk (fun _=>rfl) rfl) ?_
   first | refine lin_w (D' := 7) 2 rfl rfl rfl (p_fieldAddr0 (off := 0) Tryz.underlying32 rfl rfl Tryz.sizeOf27 (fun _=>rfl)) ?_ | refine lin_w (D' := 7) 2 rfl rfl rfl (p_fieldAddr1 (off := 0) Tryz.underlying32 rfl rfl Tryz.sizeOf27 (fun _=>rfl)) ?_
   refine lin_r (D' := 15) 3 rfl rfl rfl (by repeat (first | exact Has.here _ | apply Has.there)) (p_load Tryz.isAgg27 (fun _=>rfl) (by rfl)) ?_
   refine lin_w (D' := 31) 4 rfl rfl rfl (p_move (fun _=>rfl)) ?_
   refine lin_w (D' := 63) 5 rfl rfl rfl (p_move (fun _=>rfl)) ?_
   refine lin_w (D' := 127) 6 rfl rfl rfl (p_len_str Tryz.underlying9 (fun _=>rfl)) ?_
   refine lin_w (D' := 255) 7 rfl rfl rfl (p_move (fun _=>rfl)) ?_
   refine lin_eff (l := [8]) (by kernel_rfl) (by kernel_rfl) ?_
   refine each_cons (m := 128) (D' := 511) (is := [3]) (bs := [true]) (T' := [(3, (_, _))]) rfl (fun _=>rfl) rfl rfl rfl (by kernel_rfl) rfl (w_callR (vs := [_]) (fun _=>rfl) Tryz.call13 (fun _=>rfl) rfl (size_law n h1 h2) (by repeat (first | exact Pull.nil _ | (apply Pull.cons; (focus (repeat (first | exact One.here _ _ | apply One.there))))))) ?hk_59 (fun _ _ h => h.elim) ?hl_59
   case hk_59 =>
    rintro _ _ ⟨rfl, rfl⟩
    refine ⟨keep_cons (by repeat (first | exact Has.here _ | apply Has.there)) (keep_nil), ?_⟩
    first | refine lin_w (D' := 1023) 9 rfl rfl rfl (p_min_nat (fun _=>rfl) (fun _=>rfl)) ?_ | refine lin_w (D' := 1023) 9 rfl rfl rfl (p_min_int (fun _=>rfl) (fun _=>rfl)) ?_
    refine lin_w (D' := 2047) 10 rfl rfl rfl (p_slice_take Tryz.underlying9 (fun _=>rfl) (fun _=>rfl) (by omega)) ?_
    refine lin_eff (l := [11]) (by kernel_rfl) (by kernel_rfl) ?_
    refine each_cons (m := 2047) (D' := 4095) (is := [3]) (bs := [false]) (T' := []) rfl (fun _=>rfl) rfl rfl rfl (by kernel_rfl) rfl (w_call (vs := [_, _, _]) (fun _=>rfl) Tryz.call11 (fun _=>rfl) rfl (disk_write (DiskS.new (sizeN n)) dp sd hR 0 (s.take (min (str s).size (sizeN n))) (by rw [List.length_take, hv0]; omega) (by omega) (by simp [DiskS.new])) (by repeat (first | exact Pull.nil _ | (apply Pull.cons; (focus (repeat (first | exact One.here _ _ | apply One.there))))))) ?hk_60 no_pan ?hl_60
    case hk_60 =>
     rintro _ _ ⟨_, ⟨sd2, rfl, rfl, hR2⟩, rfl⟩
     refine ⟨keep_nil, ?_⟩
     refine lin_nil ?_
     refine nx_slots (env' := [(0, _), (1, _), (11, _), (12, _)]) [0, 1, 11, 12] rfl (fun _=>rfl) ?_
     refine nx_next ?_
     refine at_draw (n := 12) (0 :: 1 :: 3 :: 7 :: 0 :: 0 :: 32 :: 0 :: 128 :: 480 :: 1008 :: 2047 :: []) 2304 (by kernel_rfl) (by kernel_rfl) rfl ?_
     refine lin_w (D' := 1) 0 rfl rfl rfl (p_move (fun _=>rfl)) ?_
     refine lin_w (D' := 3) 1 rfl rfl rfl (p_nilChk (fun _=>rfl) rfl) ?_
     first | refine lin_w (D' := 7) 2 rfl rfl rfl (p_fieldAddr0 (off := 2) Tryz.underlying32 rfl rfl Tryz.sizeOf29 (fun _=>rfl)) ?_ | refine lin_w (D' := 7) 2 rfl rfl rfl (p_fieldAddr1 (off := 2) Tryz.underlying32 rfl rfl Tryz.sizeOf29 (fun _=>rfl)) ?_
     refine lin_r (D' := 15) 3 rfl rfl rfl (by repeat (first | exact Has.here _ | apply Has.there)) (p_load Tryz.isAgg29 (fun _=>rfl) (by rfl)) ?_
     refine lin_w (D' := 31) 4 rfl rfl rfl (p_move (fun _=>rfl)) ?_
     refine lin_w (D' := 63) 5 rfl rfl rfl (p_move (fun _=>rfl)) ?_
     refine lin_w (D' := 127) 6 rfl rfl rfl (p_len_str Tryz.underlying9 (fun _=>rfl)) ?_
     refine lin_w (D' := 255) 7 rfl rfl rfl (p_move (fun _=>rfl)) ?_
     refine lin_eff (l := [8]) (by kernel_rfl) (by kernel_rfl) ?_
     refine each_cons (m := 128) (D' := 511) (is := [3]) (bs := [true]) (T' := [(3, (_, _))]) rfl (fun _=>rfl) rfl rfl rfl (by kernel_rfl) rfl (w_callR (vs := [_]) (fun _=>rfl) Tryz.call13 (fun _=>rfl) rfl (size_law n h1 h2) (by repeat (first | exact Pull.nil _ | (apply Pull.cons; (focus (repeat (first | exact One.here _ _ | apply One.there))))))) ?hk_61 (fun _ _ h => h.elim) ?hl_61
     case hk_61 =>
      rintro _ _ ⟨rfl, rfl⟩
      refine ⟨keep_cons (by repeat (first | exact Has.here _ | apply Has.there)) (keep_nil), ?_⟩
      first | refine lin_w (D' := 1023) 9 rfl rfl rfl (p_min_nat (fun _=>rfl) (fun _=>rfl)) ?_ | refine lin_w (D' := 1023) 9 rfl rfl rfl (p_min_int (fun _=>rfl) (fun _=>rfl)) ?_
      refine lin_w (D' := 2047) 10 rfl rfl rfl (p_slice_take Tryz.underlying9 (fun _=>rfl) (fun _=>rfl) (by omega)) ?_
      refine lin_eff (l := [11]) (by kernel_rfl) (by kernel_rfl) ?_
      refine each_cons (m := 2047) (D' := 4095) (is := [3]) (bs := [false]) (T' := []) rfl (fun _=>rfl) rfl rfl rfl (by kernel_rfl) rfl (w_call (vs := [_, _, _]) (fun _=>rfl) Tryz.call14 (fun _=>rfl) rfl (rd_write (DiskS.new (sizeN n)) rp sr hr 0 (s.take (min (str s).size (sizeN n))) (by rw [List.length_take, hv0]; omega) (by simp [DiskS.new])) (by repeat (first | exact Pull.nil _ | (apply Pull.cons; (focus (repeat (first | exact One.here _ _ | apply One.there))))))) ?hk_62 no_pan ?hl_62
      case hk_62 =>
       rintro _ _ ⟨_, ⟨sr2, rfl, rfl, hr2⟩, rfl⟩
       refine ⟨keep_nil, ?_⟩
       have hw2 := write_on (DiskS.new (sizeN n)) 0 (s.take (min (str s).size (sizeN n))) rfl rfl
       have hv2 := write_len (DiskS.new (sizeN n)) 0 (s.take (min (str s).size (sizeN n))) (by rw [List.length_take, hv0]; omega)
       have hp2 := write_pend (DiskS.new (sizeN n)) 0 (s.take (min (str s).size (sizeN n)))
       obtain ⟨d2, hd2⟩ : ∃ x, x = ((DiskS.new (sizeN n)).write 0 (s.take (min (str s).size (sizeN n)))).2 := ⟨_, rfl⟩
       rw [← hd2] at hR2 hr2 hw2 hv2 hp2
       rw [show (DiskS.new (sizeN n)).pend = [] from rfl] at hp2
       rw [hv0] at hv2
       simp only [List.length_nil] at hp2
       refine lin_nil ?_
       refine nx_slots (env' := [(11, _), (12, _)]) [11, 12] rfl (fun _=>rfl) ?_
       refine nx_slots (env' := [(11, _), (12, _)]) [11, 12] rfl (fun _=>rfl) ?_
       refine nx_cutB (e' := []) (H' := _) (by exact ⟨d2, .pointer (some ⟨jp, 0, none⟩), .pointer (some ⟨kp, 0, none⟩), sd2, sr2, ⟨hR2, hr2, hw2, by omega, by omega⟩, rfl, rfl⟩) ?hp_63
       case hp_63 => repeat (first | exact Sub.refl _ | exact Sub.nil _ | (apply Sub.cons; (focus (repeat (first | exact One.here _ _ | apply One.there)))) | refine Sub.drop _ ?_)
      case hl_62 =>
       exact each_nil
     case hl_61 =>
      exact each_nil
    case hl_60 =>
     exact each_nil
   case hl_59 =>
    exact each_nil
 case hy_1 =>
  rintro _ _ ⟨d2, v1, v2, sd2, sr2, ⟨hR2, hr2, hw2, hv2, hp2⟩, rfl, rfl⟩
  have hkeep := openJ_keep d2
  refine at_seq ?_
  refine at_region ?_
  refine op_v (p_move (fun _=>rfl)) ?_
  refine ops_eff (fun _=>rfl) (fits_of rfl) rfl (w_call (vs := [_]) (fun _=>rfl) Tryz.call15 (fun _=>rfl) rfl (wopen_any wp dp rp _ _ d2 sd2 sr2 pa Tx Tg zx zg hR2 hr2 (by omega)) (by repeat (first | exact Pull.nil _ | (apply Pull.cons; (focus (repeat (first | exact One.here _ _ | apply One.there))))))) ?_ no_pan
  rintro _ _ ⟨_, ⟨sd3, sr3, rfl, hR3, hr3, hx3⟩, rfl⟩
  obtain ⟨ho3, hl3⟩ := hkeep.2.2.2 hw2.1 hw2.2
  have hv3 := hkeep.1
  have hp3 := hkeep.2.1
  rcases hx3 with ⟨j3, jp3, kp3, sj3, sk3, hj3, hJ3, hK3, rfl⟩ | ⟨hj3, rfl⟩
  ·
   have hjb := hkeep.2.2.1 j3 hj3
   have hrl := hJ3.2.1
   obtain ⟨hkh, hkn, hks, vk, srk, hrowk, rfl⟩ := hK3
   refine op_v (p_assign (fun _=>rfl)) ?_
   refine ops_nil ?_
   refine nx_slots (env' := [(11, _), (12, _), (14, _)]) [11, 12, 14] rfl (fun _=>rfl) ?_
   refine nx_next ?_
   refine at_seq ?_
   first | refine at_cut1 (c := (kp3, _)) (s := srk) (by repeat (first | exact Cut1.here _ | apply Cut1.there)) ?_ | skip
   refine at_draw (n := 54) (0 :: 1 :: 3 :: 7 :: 15 :: 31 :: 63 :: 127 :: 255 :: 511 :: 1023 :: 2047 :: 4095 :: 8191 :: 16383 :: 32767 :: 2047 :: 67583 :: 198655 :: 460799 :: 985087 :: 2033663 :: 4130815 :: 8388607 :: 16777215 :: 33554431 :: 67108863 :: 134217727 :: 268435455 :: 536870911 :: 33554431 :: 1107296255 :: 3254779903 :: 7549747199 :: 17179869183 :: 34359738367 :: 68719476735 :: 137438953471 :: 274877906943 :: 549755813887 :: 1099511627775 :: 2199023255551 :: 4398046511103 :: 274877906943 :: 9070970929151 :: 26663156973567 :: 61847529062399 :: 140737488355327 :: 281474976710655 :: 562949953421311 :: 1125899906842623 :: 2251799813685247 :: 4503599627370495 :: 9007199254740991 :: []) 145153260027904 (by kernel_rfl) (by kernel_rfl) rfl ?_
   refine lin_w (D' := 1) 0 rfl rfl rfl (p_move (fun _=>rfl)) ?_
   refine lin_w (D' := 3) 1 rfl rfl rfl (p_move (fun _=>rfl)) ?_
   refine lin_split_bool (t := 99) (fun _=>rfl) (fun hb1 => ?_) (fun hb1 => ?_)
   ·
    first | rw [decide_eq_true hb1] | rw [hb1] | skip
    refine lin_wg (D' := 7) 2 (fun _=>rfl) rfl rfl rfl (p_move (fun _=>rfl)) ?_
    refine lin_w (D' := 15) 3 rfl rfl rfl (p_pick_t (fun _=>rfl) (fun _=>rfl)) ?_
    refine lin_w (D' := 31) 4 rfl rfl rfl (p_move (fun _=>rfl)) ?_
    refine lin_split_bool (t := 102) (fun _=>rfl) (fun hb2 => ?_) (fun hb2 => ?_)
    ·
     first | rw [decide_eq_true hb2] | rw [hb2] | skip
     refine lin_wg (D' := 63) 5 (fun _=>rfl) rfl rfl rfl (p_move (fun _=>rfl)) ?_
     refine lin_wg (D' := 127) 6 (fun _=>rfl) rfl rfl rfl (p_nilChk (fun _=>rfl) rfl) ?_
     first | refine lin_wg (D' := 255) 7 (fun _=>rfl) rfl rfl rfl (p_fieldAddr0 (off := 1) Tryz.underlying32 rfl rfl Tryz.sizeOf28 (fun _=>rfl)) ?_ | refine lin_wg (D' := 255) 7 (fun _=>rfl) rfl rfl rfl (p_fieldAddr1 (off := 1) Tryz.underlying32 rfl rfl Tryz.sizeOf28 (fun _=>rfl)) ?_
     refine lin_rg (D' := 511) 8 (fun _=>rfl) rfl rfl rfl (by repeat (first | exact Has.here _ | apply Has.there)) (p_load Tryz.isAgg28 (fun _=>rfl) (by rfl)) ?_
     first | refine lin_wg (D' := 1023) 9 (fun _=>rfl) rfl rfl rfl (p_eql_nil_nil Tryz.underlying28 (fun _=>rfl) (fun _=>rfl)) ?_ | refine lin_wg (D' := 1023) 9 (fun _=>rfl) rfl rfl rfl (p_eql_ptr_nil Tryz.underlying28 (fun _=>rfl) (fun _=>rfl)) ?_
     refine lin_wg (D' := 2047) 10 (fun _=>rfl) rfl rfl rfl (p_move (fun _=>rfl)) ?_
     refine lin_split_bool (t := 108) (fun _=>rfl) (fun hb3 => ?_) (fun hb3 => ?_)
     ·
      first | rw [decide_eq_true hb3] | rw [hb3] | skip
      exfalso; first | exact hb3 rfl | (cases hb3; done) | contradiction | omega | (simp at hb3; omega) | (simp_all; done) | (simp_all; omega)
     ·
      first | rw [decide_eq_false hb3] | rw [hb3] | skip
      refine lin_wg (D' := 4095) 11 (fun _=>rfl) rfl rfl rfl (p_move (fun _=>rfl)) ?_
      refine lin_wg (D' := 8191) 12 (fun _=>rfl) rfl rfl rfl (p_nilChk (fun _=>rfl) rfl) ?_
      first | refine lin_wg (D' := 16383) 13 (fun _=>rfl) rfl rfl rfl (p_fieldAddr0 (off := 1) Tryz.underlying32 rfl rfl Tryz.sizeOf28 (fun _=>rfl)) ?_ | refine lin_wg (D' := 16383) 13 (fun _=>rfl) rfl rfl rfl (p_fieldAddr1 (off := 1) Tryz.underlying32 rfl rfl Tryz.sizeOf28 (fun _=>rfl)) ?_
      refine lin_rg (D' := 32767) 14 (fun _=>rfl) rfl rfl rfl (by repeat (first | exact Has.here _ | apply Has.there)) (p_load Tryz.isAgg28 (fun _=>rfl) (by rfl)) ?_
      refine lin_wg (D' := 98303) 16 (fun _=>rfl) rfl rfl rfl (p_move (fun _=>rfl)) ?_
      refine lin_wg (D' := 229375) 17 (fun _=>rfl) rfl rfl rfl (p_nilChk (fun _=>rfl) rfl) ?_
      first | refine lin_wg (D' := 491519) 18 (fun _=>rfl) rfl rfl rfl (p_fieldAddr0 (off := 3) Tryz.underlying32 rfl rfl Tryz.sizeOf30 (fun _=>rfl)) ?_ | refine lin_wg (D' := 491519) 18 (fun _=>rfl) rfl rfl rfl (p_fieldAddr1 (off := 3) Tryz.underlying32 rfl rfl Tryz.sizeOf30 (fun _=>rfl)) ?_
      refine lin_rg (D' := 1015807) 19 (fun _=>rfl) rfl rfl rfl (by repeat (first | exact Has.here _ | apply Has.there)) (p_load Tryz.isAgg30 (fun _=>rfl) (by rfl)) ?_
      refine lin_wg (D' := 2064383) 20 (fun _=>rfl) rfl rfl rfl (p_nilChk (fun _=>rfl) rfl) ?_
      first | refine lin_wg (D' := 4161535) 21 (fun _=>rfl) rfl rfl rfl (p_fieldAddr0 (off := 1) Tryz.underlying43 rfl rfl Tryz.sizeOf22 (fun _=>rfl)) ?_ | refine lin_wg (D' := 4161535) 21 (fun _=>rfl) rfl rfl rfl (p_fieldAddr1 (off := 1) Tryz.underlying43 rfl rfl Tryz.sizeOf22 (fun _=>rfl)) ?_
      refine lin_rg (D' := 8355839) 22 (fun _=>rfl) rfl rfl rfl (by repeat (first | exact Has.here _ | apply Has.there)) (p_load Tryz.isAgg22 (fun _=>rfl) (by rfl)) ?_
      refine lin_eff (l := [15]) (by kernel_rfl) (by kernel_rfl) ?_
      refine each_cons (m := 32767) (D' := 8388607) (is := [22, 19, 14, 8]) (bs := [true, true, false, false]) (T' := [(22, (_, _)), (19, (_, _))]) rfl (fun _=>rfl) rfl rfl rfl (by kernel_rfl) rfl (w_call (vs := [_]) (fun _=>rfl) Tryz.call17 (fun _=>rfl) rfl (jr_records j3 jp3 dp sj3 hJ3) (by repeat (first | exact Pull.nil _ | (apply Pull.cons; (focus (repeat (first | exact One.here _ _ | apply One.there))))))) ?hk_64 no_pan ?hl_64
      case hk_64 =>
       rintro _ _ ⟨_, ⟨sv3, hv3r, rfl⟩, rfl⟩
       refine ⟨keep_cons (by repeat (first | exact Has.here _ | apply Has.there)) (keep_cons (by repeat (first | exact Has.here _ | apply Has.there)) (keep_nil)), ?_⟩
       refine lin_eff (l := [23]) (by kernel_rfl) (by kernel_rfl) ?_
       refine each_cons (m := 8388607) (D' := 16777215) (is := [22, 19]) (bs := [false, false]) (T' := []) rfl (fun _=>rfl) rfl rfl rfl (by kernel_rfl) rfl (w_callR (vs := [_, _]) (fun _=>rfl) Tryz.call16 (fun _=>rfl) rfl (same_rows hv3r hrowk hrl) (by repeat (first | exact Pull.nil _ | (apply Pull.cons; (focus (repeat (first | exact One.here _ _ | apply One.there))))))) ?hk_65 (fun _ _ h => h.elim) ?hl_65
       case hk_65 =>
        rintro _ _ ⟨rfl, rfl⟩
        refine ⟨keep_nil, ?_⟩
        refine lin_wg (D' := 33554431) 24 (fun _=>rfl) rfl rfl rfl (p_move (fun _=>rfl)) ?_
        first | refine lin_split (t := 122) (fun _=>rfl) (fun hb4 => ?_) (fun hb4 => ?_) | refine lin_split_bool (t := 122) (fun _=>rfl) (fun hb4 => ?_) (fun hb4 => ?_)
        ·
         first | rw [decide_eq_true hb4] | rw [hb4] | skip
         refine lin_wg (D' := 67108863) 25 (fun _=>rfl) rfl rfl rfl (p_move (fun _=>rfl)) ?_
         refine lin_wg (D' := 134217727) 26 (fun _=>rfl) rfl rfl rfl (p_nilChk (fun _=>rfl) rfl) ?_
         first | refine lin_wg (D' := 268435455) 27 (fun _=>rfl) rfl rfl rfl (p_fieldAddr0 (off := 1) Tryz.underlying32 rfl rfl Tryz.sizeOf28 (fun _=>rfl)) ?_ | refine lin_wg (D' := 268435455) 27 (fun _=>rfl) rfl rfl rfl (p_fieldAddr1 (off := 1) Tryz.underlying32 rfl rfl Tryz.sizeOf28 (fun _=>rfl)) ?_
         refine lin_rg (D' := 536870911) 28 (fun _=>rfl) rfl rfl rfl (by repeat (first | exact Has.here _ | apply Has.there)) (p_load Tryz.isAgg28 (fun _=>rfl) (by rfl)) ?_
         refine lin_wg (D' := 1610612735) 30 (fun _=>rfl) rfl rfl rfl (p_move (fun _=>rfl)) ?_
         refine lin_wg (D' := 3758096383) 31 (fun _=>rfl) rfl rfl rfl (p_nilChk (fun _=>rfl) rfl) ?_
         first | refine lin_wg (D' := 8053063679) 32 (fun _=>rfl) rfl rfl rfl (p_fieldAddr0 (off := 3) Tryz.underlying32 rfl rfl Tryz.sizeOf30 (fun _=>rfl)) ?_ | refine lin_wg (D' := 8053063679) 32 (fun _=>rfl) rfl rfl rfl (p_fieldAddr1 (off := 3) Tryz.underlying32 rfl rfl Tryz.sizeOf30 (fun _=>rfl)) ?_
         refine lin_rg (D' := 16642998271) 33 (fun _=>rfl) rfl rfl rfl (by repeat (first | exact Has.here _ | apply Has.there)) (p_load Tryz.isAgg30 (fun _=>rfl) (by rfl)) ?_
         refine lin_eff (l := [29]) (by kernel_rfl) (by kernel_rfl) ?_
         refine each_cons (m := 536870911) (D' := 17179869183) (is := [33, 28]) (bs := [true, false]) (T' := [(33, (_, _))]) rfl (fun _=>rfl) rfl rfl rfl (by kernel_rfl) rfl (w_callR (vs := [_]) (fun _=>rfl) Tryz.call18 (fun _=>rfl) rfl (jr_room j3 _ jp3 dp sj3 sd3 hJ3 hR3 (by omega)) (by repeat (first | exact Pull.nil _ | (apply Pull.cons; (focus (repeat (first | exact One.here _ _ | apply One.there))))))) ?hk_66 (fun _ _ h => h.elim) ?hl_66
         case hk_66 =>
          rintro _ _ ⟨rfl, rfl⟩
          refine ⟨keep_cons (by repeat (first | exact Has.here _ | apply Has.there)) (keep_nil), ?_⟩
          refine lin_eff (l := [34]) (by kernel_rfl) (by kernel_rfl) ?_
          refine each_cons (m := 17179869183) (D' := 34359738367) (is := [33]) (bs := [false]) (T' := []) rfl (fun _=>rfl) rfl rfl rfl (by kernel_rfl) rfl (w_callR (vs := [_]) (fun _=>rfl) Tryz.call19 (fun _=>rfl) rfl (rroom_st hr3 kp3 j3.sz _ _ (by have := hr3.1.2.2.1; omega)) (by repeat (first | exact Pull.nil _ | (apply Pull.cons; (focus (repeat (first | exact One.here _ _ | apply One.there))))))) ?hk_67 (fun _ _ h => h.elim) ?hl_67
          case hk_67 =>
           rintro _ _ ⟨rfl, rfl⟩
           refine ⟨keep_nil, ?_⟩
           first | refine lin_wg (D' := 68719476735) 35 (fun _=>rfl) rfl rfl rfl (p_eql_nat (fun _=>rfl) (fun _=>rfl)) ?_ | refine lin_wg (D' := 68719476735) 35 (fun _=>rfl) rfl rfl rfl (p_eql (fun _=>rfl) (fun _=>rfl)) ?_
           refine lin_wg (D' := 137438953471) 36 (fun _=>rfl) rfl rfl rfl (p_pick_t (fun _=>rfl) (fun _=>rfl)) ?_
           refine lin_wg (D' := 274877906943) 37 (fun _=>rfl) rfl rfl rfl (p_move (fun _=>rfl)) ?_
           first | refine lin_split (t := 135) (fun _=>rfl) (fun hb5 => ?_) (fun hb5 => ?_) | refine lin_split_bool (t := 135) (fun _=>rfl) (fun hb5 => ?_) (fun hb5 => ?_)
           ·
            first | rw [decide_eq_true hb5] | rw [hb5] | skip
            refine lin_wg (D' := 549755813887) 38 (fun _=>rfl) rfl rfl rfl (p_move (fun _=>rfl)) ?_
            refine lin_wg (D' := 1099511627775) 39 (fun _=>rfl) rfl rfl rfl (p_nilChk (fun _=>rfl) rfl) ?_
            first | refine lin_wg (D' := 2199023255551) 40 (fun _=>rfl) rfl rfl rfl (p_fieldAddr0 (off := 0) Tryz.underlying32 rfl rfl Tryz.sizeOf27 (fun _=>rfl)) ?_ | refine lin_wg (D' := 2199023255551) 40 (fun _=>rfl) rfl rfl rfl (p_fieldAddr1 (off := 0) Tryz.underlying32 rfl rfl Tryz.sizeOf27 (fun _=>rfl)) ?_
            refine lin_rg (D' := 4398046511103) 41 (fun _=>rfl) rfl rfl rfl (by repeat (first | exact Has.here _ | apply Has.there)) (p_load Tryz.isAgg27 (fun _=>rfl) (by rfl)) ?_
            refine lin_wg (D' := 13194139533311) 43 (fun _=>rfl) rfl rfl rfl (p_move (fun _=>rfl)) ?_
            refine lin_wg (D' := 30786325577727) 44 (fun _=>rfl) rfl rfl rfl (p_nilChk (fun _=>rfl) rfl) ?_
            first | refine lin_wg (D' := 65970697666559) 45 (fun _=>rfl) rfl rfl rfl (p_fieldAddr0 (off := 2) Tryz.underlying32 rfl rfl Tryz.sizeOf29 (fun _=>rfl)) ?_ | refine lin_wg (D' := 65970697666559) 45 (fun _=>rfl) rfl rfl rfl (p_fieldAddr1 (off := 2) Tryz.underlying32 rfl rfl Tryz.sizeOf29 (fun _=>rfl)) ?_
            refine lin_rg (D' := 136339441844223) 46 (fun _=>rfl) rfl rfl rfl (by repeat (first | exact Has.here _ | apply Has.there)) (p_load Tryz.isAgg29 (fun _=>rfl) (by rfl)) ?_
            refine lin_eff (l := [42]) (by kernel_rfl) (by kernel_rfl) ?_
            refine each_cons (m := 4398046511103) (D' := 140737488355327) (is := [46, 41]) (bs := [true, false]) (T' := [(46, (_, _))]) rfl (fun _=>rfl) rfl rfl rfl (by kernel_rfl) rfl (w_callR (vs := [_]) (fun _=>rfl) Tryz.call20 (fun _=>rfl) rfl (content_law dp _ sd3 hR3) (by repeat (first | exact Pull.nil _ | (apply Pull.cons; (focus (repeat (first | exact One.here _ _ | apply One.there))))))) ?hk_68 (fun _ _ h => h.elim) ?hl_68
            case hk_68 =>
             rintro _ _ ⟨rfl, rfl⟩
             refine ⟨keep_cons (by repeat (first | exact Has.here _ | apply Has.there)) (keep_nil), ?_⟩
             refine lin_eff (l := [47]) (by kernel_rfl) (by kernel_rfl) ?_
             refine each_cons (m := 140737488355327) (D' := 281474976710655) (is := [46]) (bs := [false]) (T' := []) rfl (fun _=>rfl) rfl rfl rfl (by kernel_rfl) rfl (w_call (vs := [_]) (fun _=>rfl) Tryz.call21 (fun _=>rfl) rfl (rd_vis _ rp sr3 hr3 (by omega)) (by repeat (first | exact Pull.nil _ | (apply Pull.cons; (focus (repeat (first | exact One.here _ _ | apply One.there))))))) ?hk_69 no_pan ?hl_69
             case hk_69 =>
              rintro _ _ ⟨_, ⟨sv4, hv4, rfl⟩, rfl⟩
              refine ⟨keep_nil, ?_⟩
              obtain ⟨g4, cap4, cur4, z4, rfl, rfl, hle4, hcm4, hcs4, htk4, hfr4⟩ := hv4.some (by rw [List.length_map]; have := hr3.1.2.1; omega)
              refine lin_rg (D' := 562949953421311) 48 (fun _=>rfl) rfl rfl rfl (by repeat (first | exact Has.here _ | apply Has.there)) (p_conv_bytes_str Tryz.underlying39 Tryz.underlying5 Tryz.underlying9 (fun _=>rfl) (by exact ⟨htk4, by simp⟩)) ?_
              refine lin_wg (D' := 1125899906842623) 49 (fun _=>rfl) rfl rfl rfl (p_eql_str (fun _=>rfl) (fun _=>rfl)) ?_
              refine lin_wg (D' := 2251799813685247) 50 (fun _=>rfl) rfl rfl rfl (p_pick_t (fun _=>rfl) (fun _=>rfl)) ?_
              refine lin_wg (D' := 4503599627370495) 51 (fun _=>rfl) rfl rfl rfl (p_pick_f (fun _=>rfl) (fun _=>rfl)) ?_
              refine lin_w (D' := 9007199254740991) 52 rfl rfl rfl (p_pick_t (fun _=>rfl) (fun _=>rfl)) ?_
              refine lin_w (D' := 18014398509481983) 53 rfl rfl rfl (p_assign (fun _=>rfl)) ?_
              refine lin_nil ?_
              refine nx_slots (env' := [(10, _)]) [10] rfl (fun _=>rfl) ?_
              refine nx_next ?_
              refine at_ret ?_
              refine nx_end1 (H' := _) rfl Tryz.results3 (fun _=>rfl) (by exact ⟨by first | rfl | simp [ho3] | (simp [ho3]; done), rfl⟩) ?hp_70
              case hp_70 => repeat (first | exact Sub.refl _ | exact Sub.nil _ | (apply Sub.cons; (focus (repeat (first | exact One.here _ _ | apply One.there)))) | refine Sub.drop _ ?_)
             case hl_69 =>
              exact each_nil
            case hl_68 =>
             exact each_nil
           ·
            first | rw [decide_eq_false hb5] | rw [hb5] | skip
            exfalso; first | exact hb5 rfl | (cases hb5; done) | contradiction | omega | (simp at hb5; omega) | (simp_all; done) | (simp_all; omega)
          case hl_67 =>
           exact each_nil
         case hl_66 =>
          exact each_nil
        ·
         first | rw [decide_eq_false hb4] | rw [hb4] | skip
         exfalso; first | exact hb4 rfl | (cases hb4; done) | contradiction | omega | (simp at hb4; omega) | (simp_all; done) | (simp_all; omega)
       case hl_65 =>
        exact each_nil
      case hl_64 =>
       exact each_nil
    ·
     first | rw [decide_eq_false hb2] | rw [hb2] | skip
     exfalso; first | exact hb2 rfl | (cases hb2; done) | contradiction | omega | (simp at hb2; omega) | (simp_all; done) | (simp_all; omega)
   ·
    first | rw [decide_eq_false hb1] | rw [hb1] | skip
    exfalso; first | exact hb1 rfl | (cases hb1; done) | contradiction | omega | (simp at hb1; omega) | (simp_all; done) | (simp_all; omega)
  ·
   refine op_v (p_assign (fun _=>rfl)) ?_
   refine ops_nil ?_
   refine nx_slots (env' := [(11, _), (12, _), (14, _)]) [11, 12, 14] rfl (fun _=>rfl) ?_
   refine nx_next ?_
   refine at_seq ?_
   first | refine at_cut1 (c := (kp3, _)) (s := srk) (by repeat (first | exact Cut1.here _ | apply Cut1.there)) ?_ | skip
   refine at_draw (n := 54) (0 :: 1 :: 3 :: 7 :: 15 :: 31 :: 63 :: 127 :: 255 :: 511 :: 1023 :: 2047 :: 4095 :: 8191 :: 16383 :: 32767 :: 2047 :: 67583 :: 198655 :: 460799 :: 985087 :: 2033663 :: 4130815 :: 8388607 :: 16777215 :: 33554431 :: 67108863 :: 134217727 :: 268435455 :: 536870911 :: 33554431 :: 1107296255 :: 3254779903 :: 7549747199 :: 17179869183 :: 34359738367 :: 68719476735 :: 137438953471 :: 274877906943 :: 549755813887 :: 1099511627775 :: 2199023255551 :: 4398046511103 :: 274877906943 :: 9070970929151 :: 26663156973567 :: 61847529062399 :: 140737488355327 :: 281474976710655 :: 562949953421311 :: 1125899906842623 :: 2251799813685247 :: 4503599627370495 :: 9007199254740991 :: []) 145153260027904 (by kernel_rfl) (by kernel_rfl) rfl ?_
   refine lin_w (D' := 1) 0 rfl rfl rfl (p_move (fun _=>rfl)) ?_
   refine lin_w (D' := 3) 1 rfl rfl rfl (p_move (fun _=>rfl)) ?_
   refine lin_split_bool (t := 99) (fun _=>rfl) (fun hb6 => ?_) (fun hb6 => ?_)
   ·
    first | rw [decide_eq_true hb6] | rw [hb6] | skip
    refine lin_wg (D' := 7) 2 (fun _=>rfl) rfl rfl rfl (p_move (fun _=>rfl)) ?_
    refine lin_w (D' := 15) 3 rfl rfl rfl (p_pick_t (fun _=>rfl) (fun _=>rfl)) ?_
    refine lin_w (D' := 31) 4 rfl rfl rfl (p_move (fun _=>rfl)) ?_
    refine lin_split_bool (t := 102) (fun _=>rfl) (fun hb7 => ?_) (fun hb7 => ?_)
    ·
     first | rw [decide_eq_true hb7] | rw [hb7] | skip
     refine lin_wg (D' := 63) 5 (fun _=>rfl) rfl rfl rfl (p_move (fun _=>rfl)) ?_
     refine lin_wg (D' := 127) 6 (fun _=>rfl) rfl rfl rfl (p_nilChk (fun _=>rfl) rfl) ?_
     first | refine lin_wg (D' := 255) 7 (fun _=>rfl) rfl rfl rfl (p_fieldAddr0 (off := 1) Tryz.underlying32 rfl rfl Tryz.sizeOf28 (fun _=>rfl)) ?_ | refine lin_wg (D' := 255) 7 (fun _=>rfl) rfl rfl rfl (p_fieldAddr1 (off := 1) Tryz.underlying32 rfl rfl Tryz.sizeOf28 (fun _=>rfl)) ?_
     refine lin_rg (D' := 511) 8 (fun _=>rfl) rfl rfl rfl (by repeat (first | exact Has.here _ | apply Has.there)) (p_load Tryz.isAgg28 (fun _=>rfl) (by rfl)) ?_
     first | refine lin_wg (D' := 1023) 9 (fun _=>rfl) rfl rfl rfl (p_eql_nil_nil Tryz.underlying28 (fun _=>rfl) (fun _=>rfl)) ?_ | refine lin_wg (D' := 1023) 9 (fun _=>rfl) rfl rfl rfl (p_eql_ptr_nil Tryz.underlying28 (fun _=>rfl) (fun _=>rfl)) ?_
     refine lin_wg (D' := 2047) 10 (fun _=>rfl) rfl rfl rfl (p_move (fun _=>rfl)) ?_
     refine lin_split_bool (t := 108) (fun _=>rfl) (fun hb8 => ?_) (fun hb8 => ?_)
     ·
      first | rw [decide_eq_true hb8] | rw [hb8] | skip
      refine lin_skip (D' := 4095) 11 rfl (fun _=>rfl) rfl rfl ?_
      refine lin_skip (D' := 8191) 12 rfl (fun _=>rfl) rfl rfl ?_
      refine lin_skip (D' := 16383) 13 rfl (fun _=>rfl) rfl rfl ?_
      refine lin_skip (D' := 32767) 14 rfl (fun _=>rfl) rfl rfl ?_
      refine lin_skip (D' := 65535) 15 rfl (fun _=>rfl) rfl rfl ?_
      refine lin_skip (D' := 131071) 16 rfl (fun _=>rfl) rfl rfl ?_
      refine lin_skip (D' := 262143) 17 rfl (fun _=>rfl) rfl rfl ?_
      refine lin_skip (D' := 524287) 18 rfl (fun _=>rfl) rfl rfl ?_
      refine lin_skip (D' := 1048575) 19 rfl (fun _=>rfl) rfl rfl ?_
      refine lin_skip (D' := 2097151) 20 rfl (fun _=>rfl) rfl rfl ?_
      refine lin_skip (D' := 4194303) 21 rfl (fun _=>rfl) rfl rfl ?_
      refine lin_skip (D' := 8388607) 22 rfl (fun _=>rfl) rfl rfl ?_
      refine lin_skip (D' := 16777215) 23 rfl (fun _=>rfl) rfl rfl ?_
      refine lin_skip (D' := 33554431) 24 rfl (fun _=>rfl) rfl rfl ?_
      refine lin_skip (D' := 67108863) 25 rfl (fun _=>rfl) rfl rfl ?_
      refine lin_skip (D' := 134217727) 26 rfl (fun _=>rfl) rfl rfl ?_
      refine lin_skip (D' := 268435455) 27 rfl (fun _=>rfl) rfl rfl ?_
      refine lin_skip (D' := 536870911) 28 rfl (fun _=>rfl) rfl rfl ?_
      refine lin_skip (D' := 1073741823) 29 rfl (fun _=>rfl) rfl rfl ?_
      refine lin_skip (D' := 2147483647) 30 rfl (fun _=>rfl) rfl rfl ?_
      refine lin_skip (D' := 4294967295) 31 rfl (fun _=>rfl) rfl rfl ?_
      refine lin_skip (D' := 8589934591) 32 rfl (fun _=>rfl) rfl rfl ?_
      refine lin_skip (D' := 17179869183) 33 rfl (fun _=>rfl) rfl rfl ?_
      refine lin_skip (D' := 34359738367) 34 rfl (fun _=>rfl) rfl rfl ?_
      refine lin_skip (D' := 68719476735) 35 rfl (fun _=>rfl) rfl rfl ?_
      refine lin_skip (D' := 137438953471) 36 rfl (fun _=>rfl) rfl rfl ?_
      refine lin_skip (D' := 274877906943) 37 rfl (fun _=>rfl) rfl rfl ?_
      refine lin_skip (D' := 549755813887) 38 rfl (fun _=>rfl) rfl rfl ?_
      refine lin_skip (D' := 1099511627775) 39 rfl (fun _=>rfl) rfl rfl ?_
      refine lin_skip (D' := 2199023255551) 40 rfl (fun _=>rfl) rfl rfl ?_
      refine lin_skip (D' := 4398046511103) 41 rfl (fun _=>rfl) rfl rfl ?_
      refine lin_skip (D' := 8796093022207) 42 rfl (fun _=>rfl) rfl rfl ?_
      refine lin_skip (D' := 17592186044415) 43 rfl (fun _=>rfl) rfl rfl ?_
      refine lin_skip (D' := 35184372088831) 44 rfl (fun _=>rfl) rfl rfl ?_
      refine lin_skip (D' := 70368744177663) 45 rfl (fun _=>rfl) rfl rfl ?_
      refine lin_skip (D' := 140737488355327) 46 rfl (fun _=>rfl) rfl rfl ?_
      refine lin_skip (D' := 281474976710655) 47 rfl (fun _=>rfl) rfl rfl ?_
      refine lin_skip (D' := 562949953421311) 48 rfl (fun _=>rfl) rfl rfl ?_
      refine lin_skip (D' := 1125899906842623) 49 rfl (fun _=>rfl) rfl rfl ?_
      refine lin_skip (D' := 2251799813685247) 50 rfl (fun _=>rfl) rfl rfl ?_
      refine lin_wg (D' := 4503599627370495) 51 (fun _=>rfl) rfl rfl rfl (p_pick_t (fun _=>rfl) (fun _=>rfl)) ?_
      refine lin_w (D' := 9007199254740991) 52 rfl rfl rfl (p_pick_t (fun _=>rfl) (fun _=>rfl)) ?_
      refine lin_w (D' := 18014398509481983) 53 rfl rfl rfl (p_assign (fun _=>rfl)) ?_
      refine lin_nil ?_
      refine nx_slots (env' := [(10, _)]) [10] rfl (fun _=>rfl) ?_
      refine nx_next ?_
      refine at_ret ?_
      refine nx_end1 (H' := _) rfl Tryz.results3 (fun _=>rfl) (by exact ⟨by first | rfl | simp [ho3] | (simp [ho3]; done), rfl⟩) ?hp_71
      case hp_71 => repeat (first | exact Sub.refl _ | exact Sub.nil _ | (apply Sub.cons; (focus (repeat (first | exact One.here _ _ | apply One.there)))) | refine Sub.drop _ ?_)
     ·
      first | rw [decide_eq_false hb8] | rw [hb8] | skip
      exfalso; first | exact hb8 rfl | (cases hb8; done) | contradiction | omega | (simp at hb8; omega) | (simp_all; done) | (simp_all; omega)
    ·
     first | rw [decide_eq_false hb7] | rw [hb7] | skip
     exfalso; first | exact hb7 rfl | (cases hb7; done) | contradiction | omega | (simp at hb7; omega) | (simp_all; done) | (simp_all; omega)
   ·
    first | rw [decide_eq_false hb6] | rw [hb6] | skip
    exfalso; first | exact hb6 rfl | (cases hb6; done) | contradiction | omega | (simp at hb6; omega) | (simp_all; done) | (simp_all; omega)

end Go.Proofs.YtdahnapibeepkaaGreatDoor
