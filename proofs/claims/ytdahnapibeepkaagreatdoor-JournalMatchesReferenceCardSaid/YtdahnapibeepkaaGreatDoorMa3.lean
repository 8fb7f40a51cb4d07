/- JournalMatchesReference: the law. -/
import Derived.Test.YtdahnapibeepkaaGreatDoorMa2
namespace Go.Proofs.YtdahnapibeepkaaGreatDoor
open Go Go.RowKit Gw
set_option linter.unusedVariables false
set_option maxRecDepth 100000
attribute [local irreducible] Gw.At Gw.Nx Gw.Ops
/-- In the memory M the value v is a row of calls. -/
def OpsIn (M : List Chunk) (v : Value) (os : List OpV) : Prop := ∃ p cap, v = .slice p os.length cap ∧ os.length ≤ maxLen ∧ ∀ (i : Nat) (o : OpV), os[i]? = some o → o.ok M ∧ ∃ g off cur T zz, p = some ⟨g, off, none⟩ ∧ (g, Obj.cells cur T zz) ∈ M ∧ off + i * 4 + 4 ≤ cur.size ∧ cur.extract (off + i * 4) (off + i * 4 + 4) = #[.int .i64 o.kind, o.vl, .int .i64 o.n, o.vk]
theorem wok_new (n : Nat) : Wok n 0 (DiskS.new n) (some ⟨[], zero32, 0, false⟩) := ⟨by simp [DiskS.new], Nat.le_refl _, (by intro p hp; cases hp), fun j hj => by cases hj; exact ⟨Nat.zero_le _, Nat.le_refl _⟩⟩

theorem matches_law (n : Int) (h1 : -9223372036854775808 ≤ n) (h2 : n ≤ 9223372036854775807) (p : Option Addr) (cap : Nat) (os : List OpV) (M : List Chunk) (hO : OpsIn M (.slice p os.length cap) os) (pa : Addr) (Tx Tg : TypeId) (zx zg : Nat × Nat) :
    DoesR Tryz.prog 5 #[.int .i64 n, .slice p os.length cap] [[(4, .cells (kTab.map u32v).toArray Tg zg)], [(0, .cells #[.iface 274 (.pointer (some pa))] Tx zx)], M] (.bool true) := by
 have hml : maxLen = 9223372036854775807 := rfl
 have hsz0 : sizeN n = 1 + pickN n 1500 := rfl
 have hsz1 := pickN_lt n 1500 (by decide)
 obtain ⟨p9, cap9, e9, hol, hg⟩ := hO
 injection e9 with e91 e92 e93
 subst e91 e93
 refine spec_enter Tryz.func5 rfl Tryz.ntmps5 rfl ?_
 intro u R
 refine at_slots (env' := [(0, _), (1, _)]) [0, 1] rfl (fun _=>rfl) ?_
 refine at_seq ?_
 refine at_region ?_
 refine op_v (p_assign (fun _=>rfl)) ?_
 refine ops_nil ?_
 refine nx_next ?_
 refine at_seq ?_
 refine at_region ?_
 refine op_e (w_callR (vs := []) (fun _=>rfl) Tryz.call6 (fun _=>rfl) rfl (sane_spec pa Tx Tg zx zg) (by repeat (first | exact Pull.nil _ | (apply Pull.cons; (focus (repeat (first | exact One.here _ _ | apply One.there))))))) (fun _=>rfl) rfl rfl ?_
 rintro _ _ ⟨rfl, rfl⟩
 refine op_v (p_assign (fun _=>rfl)) ?_
 refine ops_nil ?_
 refine nx_next ?_
 refine at_seq ?_
 refine at_region ?_
 refine op_v (p_move (fun _=>rfl)) ?_
 refine ops_eff (fun _=>rfl) (fits_of rfl) rfl (w_call (vs := [_]) (fun _=>rfl) Tryz.call7 (fun _=>rfl) rfl (wbegin n h1 h2 pa Tx Tg zx zg) (by repeat (first | exact Pull.nil _ | (apply Pull.cons; (focus (repeat (first | exact One.here _ _ | apply One.there))))))) ?_ no_pan
 rintro _ _ ⟨_, ⟨wp, dp, rp, jp, kp, sj, sk, sd, sr, rfl, hJ, hK, hR, hr, rfl⟩, rfl⟩
 refine op_v (p_move (fun _=>rfl)) ?_
 refine op_v (p_extract (fun _=>rfl) rfl) ?_
 refine op_v (p_extract (fun _=>rfl) rfl) ?_
 refine op_v (p_assign (fun _=>rfl)) ?_
 refine op_v (p_assign (fun _=>rfl)) ?_
 refine ops_nil ?_
 refine nx_next ?_
 refine at_seq ?_
 refine at_seq ?_
 refine at_region ?_
 refine op_v (p_move (fun _=>rfl)) ?_
 first | refine op_v (p_not_dec (fun _=>rfl)) ?_ | refine op_v (p_not (fun _=>rfl)) ?_
 refine ops_nil ?_
 refine nx_next ?_
 refine at_else (fun _=>rfl) ?_
 refine at_skip ?_
 refine nx_next ?_
 refine at_seq ?_
 refine at_seq ?_
 refine at_region ?_
 refine op_v (p_assign (fun _=>rfl)) ?_
 refine ops_nil ?_
 refine nx_slots (env' := [(1, _), (5, _), (6, _), (8, _)]) [1, 5, 6, 8] rfl (fun _=>rfl) ?_
 refine nx_next ?_
 refine at_block ?_
 refine at_slots (env' := [(8, _), (1, _), (5, _), (6, _)]) [8, 1, 5, 6] rfl (fun _=>rfl) ?_
 refine at_loopB (e0 := [(8, _)]) (H0 := _) (n := _) (fun m e H => ∃ (i : Nat) (d : DiskS) (jo : Option JrS) (v1 v2 : Value) (sj sk sd sr : List Chunk), m = 25 - i ∧ (i ≤ 25 ∧ Wok (sizeN n) i d jo ∧ JoP jo dp v1 sj ∧ KoP jo rp v2 sk ∧ DiskR d dp sd ∧ RdR d rp sr) ∧ e = [(8, .int .i64 (i : Int))] ∧ H = [[(wp, .cells #[.pointer (some ⟨dp, 0, none⟩), v1, .pointer (some ⟨rp, 0, none⟩), v2] 32 (0, 0))], sj, sk, sd, sr]) (by exact ⟨0, DiskS.new (sizeN n), some ⟨[], zero32, 0, false⟩, _, _, sj, sk, sd, sr, rfl, ⟨Nat.zero_le _, wok_new _, ⟨jp, rfl, hJ⟩, ⟨kp, rfl, hK⟩, hR, hr⟩, rfl, rfl⟩) (by repeat (first | exact Pull.nil _ | (apply Pull.cons; (focus (repeat (first | exact One.here _ _ | apply One.there)))))) ?_
 rintro _ _ _ ⟨i, d, jo, v1, v2, sj, sk, sd, sr, rfl, ⟨hi, hW, hJ, hK, hR, hr⟩, rfl, rfl⟩
 refine at_seq ?_
 refine at_seq ?_
 refine at_region ?_
 refine op_v (p_move (fun _=>rfl)) ?_
 refine op_v (p_move (fun _=>rfl)) ?_
 refine op_v (p_len_slice Tryz.underlying70 (fun _=>rfl)) ?_
 first | refine op_v (p_lss_nat (fun _=>rfl) (fun _=>rfl)) ?_ | refine op_v (p_lss (fun _=>rfl) (fun _=>rfl)) ?_
 refine op_v (p_move (fun _=>rfl)) ?_
 first | refine ops_split (t := 22) (fun _=>rfl) rfl (fun hlt => ?_) (fun hlt => ?_) | refine ops_split_bool (t := 22) (fun _=>rfl) rfl (fun hlt => ?_) (fun hlt => ?_)
 ·
  refine op_wg (fun _=>rfl) (p_move (fun _=>rfl)) rfl rfl ?_
  first | refine op_wg (fun _=>rfl) (p_lss_nat (n := 25) (fun _=>rfl) (fun _=>rfl)) rfl rfl ?_ | refine op_wg (fun _=>rfl) (p_lss (fun _=>rfl) (fun _=>rfl)) rfl rfl ?_
  refine op_v (p_pick_t (fun _=>rfl) (fun _=>rfl)) ?_
  refine ops_nil ?_
  refine nx_next ?_
  first | refine at_if (fun _=>rfl) (fun hl25 => ?_) (fun hl25 => ?_) | refine at_if_bool (fun _=>rfl) (fun hl25 => ?_) (fun hl25 => ?_)
  ·
   refine at_skip ?_
   refine nx_next ?_
   refine at_seq ?_
   refine at_block ?_
   refine at_seq ?_
   obtain ⟨o, ho⟩ : ∃ o, os[i]? = some o := ⟨_, List.getElem?_eq_getElem hlt⟩
   obtain ⟨hok, g, off, cur, T, zz, rfl, hm, hsz, hex⟩ := hg i o ho
   refine at_region ?_
   refine op_v (p_move (fun _=>rfl)) ?_
   refine op_v (p_move (fun _=>rfl)) ?_
   refine op_v (p_move (fun _=>rfl)) ?_
   (refine op_v (p_indexAddr_nat Tryz.underlying70 Tryz.sizeOf74 (fun _=>rfl) (fun _=>rfl) ?_) ?_; (focus (omega)))
   refine op_rm (cs := [(g, .cells cur T zz)]) (by simp [hm]) (p_load_agg (cs := #[.int .i64 o.kind, o.vl, .int .i64 o.n, o.vk]) Tryz.isAgg74 Tryz.sizeOf74 (fun _=>rfl) (by omega) hex) rfl rfl ?_
   refine ops_eff (fun _=>rfl) (fits_of rfl) rfl (w_call (vs := [_, _]) (fun _=>rfl) Tryz.call30 (fun _=>rfl) rfl (does_any wp dp rp (sizeN n) i v1 v2 d jo sj sk sd sr M pa Tx Tg zx zg o.kind o.n o.vl o.vk o.ls o.zs hok (by omega) (by omega) (by omega) hW hR hr hJ hK) (by repeat (first | exact Pull.nil _ | (apply Pull.cons; (focus (repeat (first | exact One.here _ _ | apply One.there))))))) ?_ no_pan
   rintro _ _ ⟨_, ⟨d2, jo2, w1, w2, sj2, sk2, sd2, sr2, rfl, hW2, hJ2, hK2, hR2, hr2, rfl⟩, rfl⟩
   have hbl := hW2.len
   have hbp := hW2.pend
   obtain ⟨hok2, hco2, v0, pv0, sv0, sp0, hr0, hp0, hs0⟩ := id hr2
   obtain ⟨b0, c0, hv0⟩ := hr0.form
   obtain ⟨b1, c1, hv1⟩ := hp0.form
   rw [List.length_map, hok2.1] at hv0
   subst hs0 hv0 hv1
   have hd4 := hok2.2.2.1
   have hd1 := hok2.2.1
   have hdl := hok2.1
   rcases jo2 with _ | j2
   ·
    obtain ⟨rfl, rfl⟩ := hJ2
    obtain ⟨rfl, rfl⟩ := hK2
    refine op_v (p_assign (fun _=>rfl)) ?_
    refine ops_nil ?_
    refine nx_slots (env' := [(1, _), (5, _), (6, _), (8, _), (9, _)]) [1, 5, 6, 8, 9] rfl (fun _=>rfl) ?_
    refine nx_next ?_
    refine at_seq ?_
    refine at_seq ?_
    refine at_cutA (s1 := [(rp, _)]) (s2 := sv0 ++ sp0) (by repeat (first | exact CutA.here _ | apply CutA.there)) ?_
    refine at_cutA (s1 := sv0) (s2 := sp0) (by repeat (first | exact CutA.here _ | apply CutA.there)) ?_
    first | refine at_cutA (s1 := [(kp2, _)]) (s2 := srk) (by repeat (first | exact CutA.here _ | apply CutA.there)) ?_ | skip
    refine at_draw (n := 42) (0 :: 1 :: 3 :: 7 :: 15 :: 31 :: 63 :: 127 :: 7 :: 263 :: 775 :: 1799 :: 3847 :: 7943 :: 16135 :: 32519 :: 65535 :: 131071 :: 262143 :: 524287 :: 1048575 :: 2097151 :: 4194303 :: 8388607 :: 16777215 :: 33554431 :: 67108863 :: 134217727 :: 268435455 :: 536870911 :: 1073741823 :: 2147483647 :: 4294967295 :: 268435455 :: 8858370047 :: 26038239231 :: 60397977599 :: 137438953471 :: 274877906943 :: 549755813887 :: 1099511627775 :: 2199023255551 :: []) 141733920896 (by kernel_rfl) (by kernel_rfl) rfl ?_
    refine lin_v (D' := 1) 0 (p_move (fun _=>rfl)) ?_
    first | refine lin_v (D' := 3) 1 (p_not_dec (fun _=>rfl)) ?_ | refine lin_v (D' := 3) 1 (p_not (fun _=>rfl)) ?_
    refine lin_v (D' := 7) 2 (p_move (fun _=>rfl)) ?_
    refine lin_split_bool (t := 36) (fun _=>rfl) (fun hb1 => ?_) (fun hb1 => ?_)
    ·
     first | rw [decide_eq_true hb1] | rw [hb1] | skip
     exfalso; first | exact hb1 rfl | (cases hb1; done) | contradiction | omega | (simp at hb1; omega) | (simp_all; done) | (simp_all; omega)
    ·
     first | rw [decide_eq_false hb1] | rw [hb1] | skip
     refine lin_wg (D' := 15) 3 (fun _=>rfl) rfl rfl rfl (p_move (fun _=>rfl)) ?_
     refine lin_wg (D' := 31) 4 (fun _=>rfl) rfl rfl rfl (p_nilChk (fun _=>rfl) rfl) ?_
     refine lin_wg (D' := 63) 5 (fun _=>rfl) rfl rfl rfl (p_fieldAddr0 (off := 0) Tryz.underlying32 rfl rfl Tryz.sizeOf27 (fun _=>rfl)) ?_
     refine lin_rg (D' := 127) 6 (fun _=>rfl) rfl rfl rfl (by repeat (first | exact Has.here _ | apply Has.there)) (p_load Tryz.isAgg27 (fun _=>rfl) (by rfl)) ?_
     refine lin_wg (D' := 383) 8 (fun _=>rfl) rfl rfl rfl (p_move (fun _=>rfl)) ?_
     refine lin_wg (D' := 895) 9 (fun _=>rfl) rfl rfl rfl (p_nilChk (fun _=>rfl) rfl) ?_
     refine lin_wg (D' := 1919) 10 (fun _=>rfl) rfl rfl rfl (p_fieldAddr0 (off := 2) Tryz.underlying32 rfl rfl Tryz.sizeOf29 (fun _=>rfl)) ?_
     refine lin_rg (D' := 3967) 11 (fun _=>rfl) rfl rfl rfl (by repeat (first | exact Has.here _ | apply Has.there)) (p_load Tryz.isAgg29 (fun _=>rfl) (by rfl)) ?_
     refine lin_wg (D' := 8063) 12 (fun _=>rfl) rfl rfl rfl (p_nilChk (fun _=>rfl) rfl) ?_
     refine lin_wg (D' := 16255) 13 (fun _=>rfl) rfl rfl rfl (p_fieldAddr0 (off := 1) Tryz.underlying77 rfl rfl Tryz.sizeOf75 (fun _=>rfl)) ?_
     refine lin_rg (D' := 32639) 14 (fun _=>rfl) rfl rfl rfl (by repeat (first | exact Has.here _ | apply Has.there)) (p_load Tryz.isAgg75 (fun _=>rfl) (by rfl)) ?_
     refine lin_wg (D' := 65407) 15 (fun _=>rfl) rfl rfl rfl (p_len_slice Tryz.underlying75 (fun _=>rfl)) ?_
     refine lin_eff (l := [7]) (by kernel_rfl) (by kernel_rfl) ?_
     refine each_cons (m := 127) (D' := 65535) (is := [14, 11, 6]) (bs := [true, true, false]) (T' := [(14, (_, _)), (11, (_, _))]) rfl (fun _=>rfl) rfl rfl rfl (by kernel_rfl) rfl (w_callR (vs := [_]) (fun _=>rfl) Tryz.call31 (fun _=>rfl) rfl (disk_pending d2 dp sd2 hR2) (by repeat (first | exact Pull.nil _ | (apply Pull.cons; (focus (repeat (first | exact One.here _ _ | apply One.there))))))) ?hk_2 (fun _ _ h => h.elim) ?hl_2
     case hk_2 =>
      rintro _ _ ⟨rfl, rfl⟩
      refine ⟨keep_cons (by repeat (first | exact Has.here _ | apply Has.there)) (keep_cons (by repeat (first | exact Has.here _ | apply Has.there)) (keep_nil)), ?_⟩
      first | refine lin_wg (D' := 131071) 16 (fun _=>rfl) rfl rfl rfl (p_neq_nat (fun _=>rfl) (fun _=>rfl)) ?_ | refine lin_wg (D' := 131071) 16 (fun _=>rfl) rfl rfl rfl (p_neq (fun _=>rfl) (fun _=>rfl)) ?_
      refine lin_v (D' := 262143) 17 (p_pick_f (fun _=>rfl) (fun _=>rfl)) ?_
      refine lin_v (D' := 524287) 18 (p_move (fun _=>rfl)) ?_
      first | refine lin_split (t := 52) (fun _=>rfl) (fun hb2 => ?_) (fun hb2 => ?_) | refine lin_split_bool (t := 52) (fun _=>rfl) (fun hb2 => ?_) (fun hb2 => ?_)
      ·
       first | rw [decide_eq_true hb2] | rw [hb2] | skip
       exfalso; first | exact hb2 rfl | (cases hb2; done) | contradiction | omega | (simp at hb2; omega) | (simp_all; done) | (simp_all; omega)
      ·
       first | rw [decide_eq_false hb2] | rw [hb2] | skip
       refine lin_wg (D' := 1048575) 19 (fun _=>rfl) rfl rfl rfl (p_move (fun _=>rfl)) ?_
       refine lin_wg (D' := 2097151) 20 (fun _=>rfl) rfl rfl rfl (p_nilChk (fun _=>rfl) rfl) ?_
       refine lin_wg (D' := 4194303) 21 (fun _=>rfl) rfl rfl rfl (p_fieldAddr0 (off := 2) Tryz.underlying32 rfl rfl Tryz.sizeOf29 (fun _=>rfl)) ?_
       refine lin_rg (D' := 8388607) 22 (fun _=>rfl) rfl rfl rfl (by repeat (first | exact Has.here _ | apply Has.there)) (p_load Tryz.isAgg29 (fun _=>rfl) (by rfl)) ?_
       refine lin_wg (D' := 16777215) 23 (fun _=>rfl) rfl rfl rfl (p_nilChk (fun _=>rfl) rfl) ?_
       refine lin_wg (D' := 33554431) 24 (fun _=>rfl) rfl rfl rfl (p_fieldAddr0 (off := 2) Tryz.underlying77 rfl rfl Tryz.sizeOf4 (fun _=>rfl)) ?_
       refine lin_rg (D' := 67108863) 25 (fun _=>rfl) rfl rfl rfl (by repeat (first | exact Has.here _ | apply Has.there)) (p_load Tryz.isAgg4 (fun _=>rfl) (by rfl)) ?_
       first | refine lin_wg (D' := 134217727) 26 (fun _=>rfl) rfl rfl rfl (p_not_dec (fun _=>rfl)) ?_ | refine lin_wg (D' := 134217727) 26 (fun _=>rfl) rfl rfl rfl (p_not (fun _=>rfl)) ?_
       refine lin_wg (D' := 268435455) 27 (fun _=>rfl) rfl rfl rfl (p_move (fun _=>rfl)) ?_
       refine lin_split_bool (t := 61) (fun _=>rfl) (fun hoff => ?_) (fun hoff => ?_)
       ·
        first | rw [decide_eq_true hoff] | rw [hoff] | skip
        refine lin_wg (D' := 536870911) 28 (fun _=>rfl) rfl rfl rfl (p_move (fun _=>rfl)) ?_
        refine lin_wg (D' := 1073741823) 29 (fun _=>rfl) rfl rfl rfl (p_nilChk (fun _=>rfl) rfl) ?_
        refine lin_wg (D' := 2147483647) 30 (fun _=>rfl) rfl rfl rfl (p_fieldAddr0 (off := 0) Tryz.underlying32 rfl rfl Tryz.sizeOf27 (fun _=>rfl)) ?_
        refine lin_rg (D' := 4294967295) 31 (fun _=>rfl) rfl rfl rfl (by repeat (first | exact Has.here _ | apply Has.there)) (p_load Tryz.isAgg27 (fun _=>rfl) (by rfl)) ?_
        refine lin_wg (D' := 12884901887) 33 (fun _=>rfl) rfl rfl rfl (p_move (fun _=>rfl)) ?_
        refine lin_wg (D' := 30064771071) 34 (fun _=>rfl) rfl rfl rfl (p_nilChk (fun _=>rfl) rfl) ?_
        refine lin_wg (D' := 64424509439) 35 (fun _=>rfl) rfl rfl rfl (p_fieldAddr0 (off := 2) Tryz.underlying32 rfl rfl Tryz.sizeOf29 (fun _=>rfl)) ?_
        refine lin_rg (D' := 133143986175) 36 (fun _=>rfl) rfl rfl rfl (by repeat (first | exact Has.here _ | apply Has.there)) (p_load Tryz.isAgg29 (fun _=>rfl) (by rfl)) ?_
        refine lin_eff (l := [32]) (by kernel_rfl) (by kernel_rfl) ?_
        refine each_cons (m := 4294967295) (D' := 137438953471) (is := [36, 31, 25, 22, 14, 11]) (bs := [true, false, false, false, false, false]) (T' := [(36, (_, _))]) rfl (fun _=>rfl) rfl rfl rfl (by kernel_rfl) rfl (w_callR (vs := [_]) (fun _=>rfl) Tryz.call20 (fun _=>rfl) rfl (content_law dp d2 sd2 hR2) (by repeat (first | exact Pull.nil _ | (apply Pull.cons; (focus (repeat (first | exact One.here _ _ | apply One.there))))))) ?hk_3 (fun _ _ h => h.elim) ?hl_3
        case hk_3 =>
         rintro _ _ ⟨rfl, rfl⟩
         refine ⟨keep_cons (by repeat (first | exact Has.here _ | apply Has.there)) (keep_nil), ?_⟩
         refine lin_eff (l := [37]) (by kernel_rfl) (by kernel_rfl) ?_
         refine each_cons (m := 137438953471) (D' := 274877906943) (is := [36]) (bs := [false]) (T' := []) rfl (fun _=>rfl) rfl rfl rfl (by kernel_rfl) rfl (w_call (vs := [_]) (fun _=>rfl) Tryz.call21 (fun _=>rfl) rfl (rvis_spec d2.off rp d2.left hr0 hp0 hco2.2 (by omega) (by omega) (by omega)) (by repeat (first | exact Pull.nil _ | (apply Pull.cons; (focus (repeat (first | exact One.here _ _ | apply One.there))))))) ?hk_4 no_pan ?hl_4
         case hk_4 =>
          rintro _ _ ⟨_, ⟨s4, hv4, rfl⟩, rfl⟩
          refine ⟨keep_nil, ?_⟩
          rw [← hco2.1] at hv4
          obtain ⟨g4, cap4, cur4, z4, rfl, rfl, hle4, hcm4, hcs4, htk4, hfr4⟩ := hv4.some (by rw [List.length_map]; omega)
          refine lin_rg (D' := 549755813887) 38 (fun _=>rfl) rfl rfl rfl (by repeat (first | exact Has.here _ | apply Has.there)) (p_conv_bytes_str Tryz.underlying39 Tryz.underlying5 Tryz.underlying9 (fun _=>rfl) (by exact ⟨htk4, by simp⟩)) ?_
          refine lin_wg (D' := 1099511627775) 39 (fun _=>rfl) rfl rfl rfl (p_neq_str (fun _=>rfl) (fun _=>rfl)) ?_
          refine lin_wg (D' := 2199023255551) 40 (fun _=>rfl) rfl rfl rfl (p_pick_t (fun _=>rfl) (fun _=>rfl)) ?_
          refine lin_v (D' := 4398046511103) 41 (p_pick_f (fun _=>rfl) (fun _=>rfl)) ?_
          refine lin_nil ?_
          refine nx_slots (env' := [(1, _), (5, _), (6, _), (8, _), (75, _)]) [1, 5, 6, 8, 75] rfl (fun _=>rfl) ?_
          refine nx_next ?_
          first | refine at_if (fun _=>rfl) (fun hx => ?_) (fun hx => ?_) | refine at_if_bool (fun _=>rfl) (fun hx => ?_) (fun hx => ?_)
          ·
           exact absurd (by rw [show d2.off = false from by simpa using hoff]; rfl) hx
          ·
           refine at_skip ?_
           refine nx_next ?_
           refine at_seq ?_
           refine at_draw (n := 34) (0 :: 1 :: 3 :: 7 :: 15 :: 31 :: 63 :: 127 :: 255 :: 511 :: 1023 :: 63 :: 2111 :: 6207 :: 14399 :: 30783 :: 63551 :: 129087 :: 262143 :: 524287 :: 1048575 :: 2097151 :: 4194303 :: 8388607 :: 16777215 :: 33554431 :: 2097151 :: 69206015 :: 203423743 :: 471859199 :: 1073741823 :: 2147483647 :: 4294967295 :: 8589934591 :: []) 1107559424 (by kernel_rfl) (by kernel_rfl) rfl ?_
           refine lin_v (D' := 1) 0 (p_move (fun _=>rfl)) ?_
           refine lin_v (D' := 3) 1 (p_nilChk (fun _=>rfl) rfl) ?_
           refine lin_v (D' := 7) 2 (p_fieldAddr0 (off := 1) Tryz.underlying32 rfl rfl Tryz.sizeOf28 (fun _=>rfl)) ?_
           refine lin_r (D' := 15) 3 rfl rfl rfl (by repeat (first | exact Has.here _ | apply Has.there)) (p_load Tryz.isAgg28 (fun _=>rfl) (by rfl)) ?_
           first | refine lin_v (D' := 31) 4 (p_neq_nil_nil Tryz.underlying28 (fun _=>rfl) (fun _=>rfl)) ?_ | refine lin_v (D' := 31) 4 (p_neq_ptr_nil Tryz.underlying28 (fun _=>rfl) (fun _=>rfl)) ?_
           refine lin_v (D' := 63) 5 (p_move (fun _=>rfl)) ?_
           refine lin_split_bool (t := 81) (fun _=>rfl) (fun hb4 => ?_) (fun hb4 => ?_)
           ·
            first | rw [decide_eq_true hb4] | rw [hb4] | skip
            exfalso; first | exact hb4 rfl | (cases hb4; done) | contradiction | omega | (simp at hb4; omega) | (simp_all; done) | (simp_all; omega)
           ·
            first | rw [decide_eq_false hb4] | rw [hb4] | skip
            refine lin_skip (D' := 127) 6 rfl (fun _=>rfl) rfl rfl ?_
            refine lin_skip (D' := 255) 7 rfl (fun _=>rfl) rfl rfl ?_
            refine lin_skip (D' := 511) 8 rfl (fun _=>rfl) rfl rfl ?_
            refine lin_skip (D' := 1023) 9 rfl (fun _=>rfl) rfl rfl ?_
            refine lin_skip (D' := 2047) 10 rfl (fun _=>rfl) rfl rfl ?_
            refine lin_skip (D' := 4095) 11 rfl (fun _=>rfl) rfl rfl ?_
            refine lin_skip (D' := 8191) 12 rfl (fun _=>rfl) rfl rfl ?_
            refine lin_skip (D' := 16383) 13 rfl (fun _=>rfl) rfl rfl ?_
            refine lin_skip (D' := 32767) 14 rfl (fun _=>rfl) rfl rfl ?_
            refine lin_skip (D' := 65535) 15 rfl (fun _=>rfl) rfl rfl ?_
            refine lin_skip (D' := 131071) 16 rfl (fun _=>rfl) rfl rfl ?_
            refine lin_skip (D' := 262143) 17 rfl (fun _=>rfl) rfl rfl ?_
            refine lin_skip (D' := 524287) 18 rfl (fun _=>rfl) rfl rfl ?_
            refine lin_skip (D' := 1048575) 19 rfl (fun _=>rfl) rfl rfl ?_
            refine lin_skip (D' := 2097151) 20 rfl (fun _=>rfl) rfl rfl ?_
            refine lin_skip (D' := 4194303) 21 rfl (fun _=>rfl) rfl rfl ?_
            refine lin_skip (D' := 8388607) 22 rfl (fun _=>rfl) rfl rfl ?_
            refine lin_skip (D' := 16777215) 23 rfl (fun _=>rfl) rfl rfl ?_
            refine lin_skip (D' := 33554431) 24 rfl (fun _=>rfl) rfl rfl ?_
            refine lin_skip (D' := 67108863) 25 rfl (fun _=>rfl) rfl rfl ?_
            refine lin_skip (D' := 134217727) 26 rfl (fun _=>rfl) rfl rfl ?_
            refine lin_skip (D' := 268435455) 27 rfl (fun _=>rfl) rfl rfl ?_
            refine lin_skip (D' := 536870911) 28 rfl (fun _=>rfl) rfl rfl ?_
            refine lin_skip (D' := 1073741823) 29 rfl (fun _=>rfl) rfl rfl ?_
            refine lin_skip (D' := 2147483647) 30 rfl (fun _=>rfl) rfl rfl ?_
            refine lin_skip (D' := 4294967295) 31 rfl (fun _=>rfl) rfl rfl ?_
            refine lin_skip (D' := 8589934591) 32 rfl (fun _=>rfl) rfl rfl ?_
            refine lin_v (D' := 17179869183) 33 (p_pick_f (fun _=>rfl) (fun _=>rfl)) ?_
            refine lin_nil ?_
            refine nx_slots (env' := [(1, _), (5, _), (6, _), (8, _), (109, _)]) [1, 5, 6, 8, 109] rfl (fun _=>rfl) ?_
            refine nx_next ?_
            refine at_else (fun _=>rfl) ?_
            refine at_skip ?_
            refine nx_block_normal ?_
            refine nx_next ?_
            refine at_join (s1 := sv0) (s2 := sp0) (by repeat (first | exact One.here _ _ | apply One.there)) (by repeat (first | exact One.here _ _ | apply One.there)) ?_
            refine at_join (s1 := [(rp, _)]) (s2 := sv0 ++ sp0) (by repeat (first | exact One.here _ _ | apply One.there)) (by repeat (first | exact One.here _ _ | apply One.there)) ?_
            first | refine at_join (s1 := [(kp2, _)]) (s2 := srk) (by repeat (first | exact One.here _ _ | apply One.there)) (by repeat (first | exact One.here _ _ | apply One.there)) ?_ | (refine at_nil ?_; refine at_nil ?_)
            refine at_region ?_
            refine op_v (p_move (fun _=>rfl)) ?_
            first | (refine op_v (p_add_nat (n := 1) (fun _=>rfl) (fun _=>rfl) ?_) ?_; (focus (omega))) | (refine op_v (p_add (fun _=>rfl) (fun _=>rfl) (IntWalk.i64_in _ ?_)) ?_; (focus (omega)))
            refine op_v (p_assign (fun _=>rfl)) ?_
            refine ops_nil ?_
            refine nx_slots (env' := [(8, _), (1, _), (5, _), (6, _)]) [8, 1, 5, 6] rfl (fun _=>rfl) ?_
            refine nx_againB (e' := [(8, _)]) (m := _) (H' := _) (by first | exact ⟨i + 1, d2, none, .pointer none, .pointer none, [], [], sd2, _, rfl, ⟨by omega, hW2, ⟨rfl, rfl⟩, ⟨rfl, rfl⟩, hR2, hr2⟩, rfl, rfl⟩ | exact ⟨i + 1, d2, some j2, _, _, sj2, _, sd2, _, rfl, ⟨by omega, hW2, ⟨jp2, rfl, hJ2⟩, ⟨kp2, rfl, hK2⟩, hR2, hr2⟩, rfl, rfl⟩)
         case hl_4 =>
          exact each_nil
        case hl_3 =>
         exact each_nil
       ·
        first | rw [decide_eq_false hoff] | rw [hoff] | skip
        refine lin_skip (D' := 536870911) 28 rfl (fun _=>rfl) rfl rfl ?_
        refine lin_skip (D' := 1073741823) 29 rfl (fun _=>rfl) rfl rfl ?_
        refine lin_skip (D' := 2147483647) 30 rfl (fun _=>rfl) rfl rfl ?_
        refine lin_skip (D' := 4294967295) 31 rfl (fun _=>rfl) rfl rfl ?_
        refine lin_skip (D' := 8589934591) 32 rfl (fun _=>rfl) rfl rfl ?_
        refine lin_skip (D' := 17179869183) 33 rfl (fun _=>rfl) rfl rfl ?_
        refine lin_skip (D' := 34359738367) 34 rfl (fun _=>rfl) rfl rfl ?_
        refine lin_skip (D' := 68719476735) 35 rfl (fun _=>rfl) rfl rfl ?_
        refine lin_skip (D' := 137438953471) 36 rfl (fun _=>rfl) rfl rfl ?_
        refine lin_skip (D' := 274877906943) 37 rfl (fun _=>rfl) rfl rfl ?_
        refine lin_skip (D' := 549755813887) 38 rfl (fun _=>rfl) rfl rfl ?_
        refine lin_skip (D' := 1099511627775) 39 rfl (fun _=>rfl) rfl rfl ?_
        refine lin_wg (D' := 2199023255551) 40 (fun _=>rfl) rfl rfl rfl (p_pick_f (fun _=>rfl) (fun _=>rfl)) ?_
        refine lin_v (D' := 4398046511103) 41 (p_pick_f (fun _=>rfl) (fun _=>rfl)) ?_
        refine lin_nil ?_
        refine nx_slots (env' := [(1, _), (5, _), (6, _), (8, _), (75, _)]) [1, 5, 6, 8, 75] rfl (fun _=>rfl) ?_
        refine nx_next ?_
        refine at_else (fun _=>rfl) ?_
        refine at_skip ?_
        refine nx_next ?_
        refine at_seq ?_
        refine at_draw (n := 34) (0 :: 1 :: 3 :: 7 :: 15 :: 31 :: 63 :: 127 :: 255 :: 511 :: 1023 :: 63 :: 2111 :: 6207 :: 14399 :: 30783 :: 63551 :: 129087 :: 262143 :: 524287 :: 1048575 :: 2097151 :: 4194303 :: 8388607 :: 16777215 :: 33554431 :: 2097151 :: 69206015 :: 203423743 :: 471859199 :: 1073741823 :: 2147483647 :: 4294967295 :: 8589934591 :: []) 1107559424 (by kernel_rfl) (by kernel_rfl) rfl ?_
        refine lin_v (D' := 1) 0 (p_move (fun _=>rfl)) ?_
        refine lin_v (D' := 3) 1 (p_nilChk (fun _=>rfl) rfl) ?_
        refine lin_v (D' := 7) 2 (p_fieldAddr0 (off := 1) Tryz.underlying32 rfl rfl Tryz.sizeOf28 (fun _=>rfl)) ?_
        refine lin_r (D' := 15) 3 rfl rfl rfl (by repeat (first | exact Has.here _ | apply Has.there)) (p_load Tryz.isAgg28 (fun _=>rfl) (by rfl)) ?_
        first | refine lin_v (D' := 31) 4 (p_neq_nil_nil Tryz.underlying28 (fun _=>rfl) (fun _=>rfl)) ?_ | refine lin_v (D' := 31) 4 (p_neq_ptr_nil Tryz.underlying28 (fun _=>rfl) (fun _=>rfl)) ?_
        refine lin_v (D' := 63) 5 (p_move (fun _=>rfl)) ?_
        refine lin_split_bool (t := 81) (fun _=>rfl) (fun hb4 => ?_) (fun hb4 => ?_)
        ·
         first | rw [decide_eq_true hb4] | rw [hb4] | skip
         exfalso; first | exact hb4 rfl | (cases hb4; done) | contradiction | omega | (simp at hb4; omega) | (simp_all; done) | (simp_all; omega)
        ·
         first | rw [decide_eq_false hb4] | rw [hb4] | skip
         refine lin_skip (D' := 127) 6 rfl (fun _=>rfl) rfl rfl ?_
         refine lin_skip (D' := 255) 7 rfl (fun _=>rfl) rfl rfl ?_
         refine lin_skip (D' := 511) 8 rfl (fun _=>rfl) rfl rfl ?_
         refine lin_skip (D' := 1023) 9 rfl (fun _=>rfl) rfl rfl ?_
         refine lin_skip (D' := 2047) 10 rfl (fun _=>rfl) rfl rfl ?_
         refine lin_skip (D' := 4095) 11 rfl (fun _=>rfl) rfl rfl ?_
         refine lin_skip (D' := 8191) 12 rfl (fun _=>rfl) rfl rfl ?_
         refine lin_skip (D' := 16383) 13 rfl (fun _=>rfl) rfl rfl ?_
         refine lin_skip (D' := 32767) 14 rfl (fun _=>rfl) rfl rfl ?_
         refine lin_skip (D' := 65535) 15 rfl (fun _=>rfl) rfl rfl ?_
         refine lin_skip (D' := 131071) 16 rfl (fun _=>rfl) rfl rfl ?_
         refine lin_skip (D' := 262143) 17 rfl (fun _=>rfl) rfl rfl ?_
         refine lin_skip (D' := 524287) 18 rfl (fun _=>rfl) rfl rfl ?_
         refine lin_skip (D' := 1048575) 19 rfl (fun _=>rfl) rfl rfl ?_
         refine lin_skip (D' := 2097151) 20 rfl (fun _=>rfl) rfl rfl ?_
         refine lin_skip (D' := 4194303) 21 rfl (fun _=>rfl) rfl rfl ?_
         refine lin_skip (D' := 8388607) 22 rfl (fun _=>rfl) rfl rfl ?_
         refine lin_skip (D' := 16777215) 23 rfl (fun _=>rfl) rfl rfl ?_
         refine lin_skip (D' := 33554431) 24 rfl (fun _=>rfl) rfl rfl ?_
         refine lin_skip (D' := 67108863) 25 rfl (fun _=>rfl) rfl rfl ?_
         refine lin_skip (D' := 134217727) 26 rfl (fun _=>rfl) rfl rfl ?_
         refine lin_skip (D' := 268435455) 27 rfl (fun _=>rfl) rfl rfl ?_
         refine lin_skip (D' := 536870911) 28 rfl (fun _=>rfl) rfl rfl ?_
         refine lin_skip (D' := 1073741823) 29 rfl (fun _=>rfl) rfl rfl ?_
         refine lin_skip (D' := 2147483647) 30 rfl (fun _=>rfl) rfl rfl ?_
         refine lin_skip (D' := 4294967295) 31 rfl (fun _=>rfl) rfl rfl ?_
         refine lin_skip (D' := 8589934591) 32 rfl (fun _=>rfl) rfl rfl ?_
         refine lin_v (D' := 17179869183) 33 (p_pick_f (fun _=>rfl) (fun _=>rfl)) ?_
         refine lin_nil ?_
         refine nx_slots (env' := [(1, _), (5, _), (6, _), (8, _), (109, _)]) [1, 5, 6, 8, 109] rfl (fun _=>rfl) ?_
         refine nx_next ?_
         refine at_else (fun _=>rfl) ?_
         refine at_skip ?_
         refine nx_block_normal ?_
         refine nx_next ?_
         refine at_join (s1 := sv0) (s2 := sp0) (by repeat (first | exact One.here _ _ | apply One.there)) (by repeat (first | exact One.here _ _ | apply One.there)) ?_
         refine at_join (s1 := [(rp, _)]) (s2 := sv0 ++ sp0) (by repeat (first | exact One.here _ _ | apply One.there)) (by repeat (first | exact One.here _ _ | apply One.there)) ?_
         first | refine at_join (s1 := [(kp2, _)]) (s2 := srk) (by repeat (first | exact One.here _ _ | apply One.there)) (by repeat (first | exact One.here _ _ | apply One.there)) ?_ | (refine at_nil ?_; refine at_nil ?_)
         refine at_region ?_
         refine op_v (p_move (fun _=>rfl)) ?_
         first | (refine op_v (p_add_nat (n := 1) (fun _=>rfl) (fun _=>rfl) ?_) ?_; (focus (omega))) | (refine op_v (p_add (fun _=>rfl) (fun _=>rfl) (IntWalk.i64_in _ ?_)) ?_; (focus (omega)))
         refine op_v (p_assign (fun _=>rfl)) ?_
         refine ops_nil ?_
         refine nx_slots (env' := [(8, _), (1, _), (5, _), (6, _)]) [8, 1, 5, 6] rfl (fun _=>rfl) ?_
         refine nx_againB (e' := [(8, _)]) (m := _) (H' := _) (by first | exact ⟨i + 1, d2, none, .pointer none, .pointer none, [], [], sd2, _, rfl, ⟨by omega, hW2, ⟨rfl, rfl⟩, ⟨rfl, rfl⟩, hR2, hr2⟩, rfl, rfl⟩ | exact ⟨i + 1, d2, some j2, _, _, sj2, _, sd2, _, rfl, ⟨by omega, hW2, ⟨jp2, rfl, hJ2⟩, ⟨kp2, rfl, hK2⟩, hR2, hr2⟩, rfl, rfl⟩)
     case hl_2 =>
      exact each_nil
   ·
    obtain ⟨jp2, rfl, hJ2⟩ := hJ2
    obtain ⟨kp2, rfl, hK2⟩ := hK2
    have hjj := hW2.jr j2 rfl
    have hjn := hJ2.2.1
    obtain ⟨hkh, hkn, hks, vk, srk, hrowk, hsk⟩ := id hK2
    obtain ⟨b8, c8, hv8⟩ := hrowk.form
    subst hsk hv8
    refine op_v (p_assign (fun _=>rfl)) ?_
    refine ops_nil ?_
    refine nx_slots (env' := [(1, _), (5, _), (6, _), (8, _), (9, _)]) [1, 5, 6, 8, 9] rfl (fun _=>rfl) ?_
    refine nx_next ?_
    refine at_seq ?_
    refine at_seq ?_
    refine at_cutA (s1 := [(rp, _)]) (s2 := sv0 ++ sp0) (by repeat (first | exact CutA.here _ | apply CutA.there)) ?_
    refine at_cutA (s1 := sv0) (s2 := sp0) (by repeat (first | exact CutA.here _ | apply CutA.there)) ?_
    first | refine at_cutA (s1 := [(kp2, _)]) (s2 := srk) (by repeat (first | exact CutA.here _ | apply CutA.there)) ?_ | skip
    refine at_draw (n := 42) (0 :: 1 :: 3 :: 7 :: 15 :: 31 :: 63 :: 127 :: 7 :: 263 :: 775 :: 1799 :: 3847 :: 7943 :: 16135 :: 32519 :: 65535 :: 131071 :: 262143 :: 524287 :: 1048575 :: 2097151 :: 4194303 :: 8388607 :: 16777215 :: 33554431 :: 67108863 :: 134217727 :: 268435455 :: 536870911 :: 1073741823 :: 2147483647 :: 4294967295 :: 268435455 :: 8858370047 :: 26038239231 :: 60397977599 :: 137438953471 :: 274877906943 :: 549755813887 :: 1099511627775 :: 2199023255551 :: []) 141733920896 (by kernel_rfl) (by kernel_rfl) rfl ?_
    refine lin_v (D' := 1) 0 (p_move (fun _=>rfl)) ?_
    first | refine lin_v (D' := 3) 1 (p_not_dec (fun _=>rfl)) ?_ | refine lin_v (D' := 3) 1 (p_not (fun _=>rfl)) ?_
    refine lin_v (D' := 7) 2 (p_move (fun _=>rfl)) ?_
    refine lin_split_bool (t := 36) (fun _=>rfl) (fun hb1 => ?_) (fun hb1 => ?_)
    ·
     first | rw [decide_eq_true hb1] | rw [hb1] | skip
     exfalso; first | exact hb1 rfl | (cases hb1; done) | contradiction | omega | (simp at hb1; omega) | (simp_all; done) | (simp_all; omega)
    ·
     first | rw [decide_eq_false hb1] | rw [hb1] | skip
     refine lin_wg (D' := 15) 3 (fun _=>rfl) rfl rfl rfl (p_move (fun _=>rfl)) ?_
     refine lin_wg (D' := 31) 4 (fun _=>rfl) rfl rfl rfl (p_nilChk (fun _=>rfl) rfl) ?_
     refine lin_wg (D' := 63) 5 (fun _=>rfl) rfl rfl rfl (p_fieldAddr0 (off := 0) Tryz.underlying32 rfl rfl Tryz.sizeOf27 (fun _=>rfl)) ?_
     refine lin_rg (D' := 127) 6 (fun _=>rfl) rfl rfl rfl (by repeat (first | exact Has.here _ | apply Has.there)) (p_load Tryz.isAgg27 (fun _=>rfl) (by rfl)) ?_
     refine lin_wg (D' := 383) 8 (fun _=>rfl) rfl rfl rfl (p_move (fun _=>rfl)) ?_
     refine lin_wg (D' := 895) 9 (fun _=>rfl) rfl rfl rfl (p_nilChk (fun _=>rfl) rfl) ?_
     refine lin_wg (D' := 1919) 10 (fun _=>rfl) rfl rfl rfl (p_fieldAddr0 (off := 2) Tryz.underlying32 rfl rfl Tryz.sizeOf29 (fun _=>rfl)) ?_
     refine lin_rg (D' := 3967) 11 (fun _=>rfl) rfl rfl rfl (by repeat (first | exact Has.here _ | apply Has.there)) (p_load Tryz.isAgg29 (fun _=>rfl) (by rfl)) ?_
     refine lin_wg (D' := 8063) 12 (fun _=>rfl) rfl rfl rfl (p_nilChk (fun _=>rfl) rfl) ?_
     refine lin_wg (D' := 16255) 13 (fun _=>rfl) rfl rfl rfl (p_fieldAddr0 (off := 1) Tryz.underlying77 rfl rfl Tryz.sizeOf75 (fun _=>rfl)) ?_
     refine lin_rg (D' := 32639) 14 (fun _=>rfl) rfl rfl rfl (by repeat (first | exact Has.here _ | apply Has.there)) (p_load Tryz.isAgg75 (fun _=>rfl) (by rfl)) ?_
     refine lin_wg (D' := 65407) 15 (fun _=>rfl) rfl rfl rfl (p_len_slice Tryz.underlying75 (fun _=>rfl)) ?_
     refine lin_eff (l := [7]) (by kernel_rfl) (by kernel_rfl) ?_
     refine each_cons (m := 127) (D' := 65535) (is := [14, 11, 6]) (bs := [true, true, false]) (T' := [(14, (_, _)), (11, (_, _))]) rfl (fun _=>rfl) rfl rfl rfl (by kernel_rfl) rfl (w_callR (vs := [_]) (fun _=>rfl) Tryz.call31 (fun _=>rfl) rfl (disk_pending d2 dp sd2 hR2) (by repeat (first | exact Pull.nil _ | (apply Pull.cons; (focus (repeat (first | exact One.here _ _ | apply One.there))))))) ?hk_7 (fun _ _ h => h.elim) ?hl_7
     case hk_7 =>
      rintro _ _ ⟨rfl, rfl⟩
      refine ⟨keep_cons (by repeat (first | exact Has.here _ | apply Has.there)) (keep_cons (by repeat (first | exact Has.here _ | apply Has.there)) (keep_nil)), ?_⟩
      first | refine lin_wg (D' := 131071) 16 (fun _=>rfl) rfl rfl rfl (p_neq_nat (fun _=>rfl) (fun _=>rfl)) ?_ | refine lin_wg (D' := 131071) 16 (fun _=>rfl) rfl rfl rfl (p_neq (fun _=>rfl) (fun _=>rfl)) ?_
      refine lin_v (D' := 262143) 17 (p_pick_f (fun _=>rfl) (fun _=>rfl)) ?_
      refine lin_v (D' := 524287) 18 (p_move (fun _=>rfl)) ?_
      first | refine lin_split (t := 52) (fun _=>rfl) (fun hb2 => ?_) (fun hb2 => ?_) | refine lin_split_bool (t := 52) (fun _=>rfl) (fun hb2 => ?_) (fun hb2 => ?_)
      ·
       first | rw [decide_eq_true hb2] | rw [hb2] | skip
       exfalso; first | exact hb2 rfl | (cases hb2; done) | contradiction | omega | (simp at hb2; omega) | (simp_all; done) | (simp_all; omega)
      ·
       first | rw [decide_eq_false hb2] | rw [hb2] | skip
       refine lin_wg (D' := 1048575) 19 (fun _=>rfl) rfl rfl rfl (p_move (fun _=>rfl)) ?_
       refine lin_wg (D' := 2097151) 20 (fun _=>rfl) rfl rfl rfl (p_nilChk (fun _=>rfl) rfl) ?_
       refine lin_wg (D' := 4194303) 21 (fun _=>rfl) rfl rfl rfl (p_fieldAddr0 (off := 2) Tryz.underlying32 rfl rfl Tryz.sizeOf29 (fun _=>rfl)) ?_
       refine lin_rg (D' := 8388607) 22 (fun _=>rfl) rfl rfl rfl (by repeat (first | exact Has.here _ | apply Has.there)) (p_load Tryz.isAgg29 (fun _=>rfl) (by rfl)) ?_
       refine lin_wg (D' := 16777215) 23 (fun _=>rfl) rfl rfl rfl (p_nilChk (fun _=>rfl) rfl) ?_
       refine lin_wg (D' := 33554431) 24 (fun _=>rfl) rfl rfl rfl (p_fieldAddr0 (off := 2) Tryz.underlying77 rfl rfl Tryz.sizeOf4 (fun _=>rfl)) ?_
       refine lin_rg (D' := 67108863) 25 (fun _=>rfl) rfl rfl rfl (by repeat (first | exact Has.here _ | apply Has.there)) (p_load Tryz.isAgg4 (fun _=>rfl) (by rfl)) ?_
       first | refine lin_wg (D' := 134217727) 26 (fun _=>rfl) rfl rfl rfl (p_not_dec (fun _=>rfl)) ?_ | refine lin_wg (D' := 134217727) 26 (fun _=>rfl) rfl rfl rfl (p_not (fun _=>rfl)) ?_
       refine lin_wg (D' := 268435455) 27 (fun _=>rfl) rfl rfl rfl (p_move (fun _=>rfl)) ?_
       refine lin_split_bool (t := 61) (fun _=>rfl) (fun hoff => ?_) (fun hoff => ?_)
       ·
        first | rw [decide_eq_true hoff] | rw [hoff] | skip
        refine lin_wg (D' := 536870911) 28 (fun _=>rfl) rfl rfl rfl (p_move (fun _=>rfl)) ?_
        refine lin_wg (D' := 1073741823) 29 (fun _=>rfl) rfl rfl rfl (p_nilChk (fun _=>rfl) rfl) ?_
        refine lin_wg (D' := 2147483647) 30 (fun _=>rfl) rfl rfl rfl (p_fieldAddr0 (off := 0) Tryz.underlying32 rfl rfl Tryz.sizeOf27 (fun _=>rfl)) ?_
        refine lin_rg (D' := 4294967295) 31 (fun _=>rfl) rfl rfl rfl (by repeat (first | exact Has.here _ | apply Has.there)) (p_load Tryz.isAgg27 (fun _=>rfl) (by rfl)) ?_
        refine lin_wg (D' := 12884901887) 33 (fun _=>rfl) rfl rfl rfl (p_move (fun _=>rfl)) ?_
        refine lin_wg (D' := 30064771071) 34 (fun _=>rfl) rfl rfl rfl (p_nilChk (fun _=>rfl) rfl) ?_
        refine lin_wg (D' := 64424509439) 35 (fun _=>rfl) rfl rfl rfl (p_fieldAddr0 (off := 2) Tryz.underlying32 rfl rfl Tryz.sizeOf29 (fun _=>rfl)) ?_
        refine lin_rg (D' := 133143986175) 36 (fun _=>rfl) rfl rfl rfl (by repeat (first | exact Has.here _ | apply Has.there)) (p_load Tryz.isAgg29 (fun _=>rfl) (by rfl)) ?_
        refine lin_eff (l := [32]) (by kernel_rfl) (by kernel_rfl) ?_
        refine each_cons (m := 4294967295) (D' := 137438953471) (is := [36, 31, 25, 22, 14, 11]) (bs := [true, false, false, false, false, false]) (T' := [(36, (_, _))]) rfl (fun _=>rfl) rfl rfl rfl (by kernel_rfl) rfl (w_callR (vs := [_]) (fun _=>rfl) Tryz.call20 (fun _=>rfl) rfl (content_law dp d2 sd2 hR2) (by repeat (first | exact Pull.nil _ | (apply Pull.cons; (focus (repeat (first | exact One.here _ _ | apply One.there))))))) ?hk_8 (fun _ _ h => h.elim) ?hl_8
        case hk_8 =>
         rintro _ _ ⟨rfl, rfl⟩
         refine ⟨keep_cons (by repeat (first | exact Has.here _ | apply Has.there)) (keep_nil), ?_⟩
         refine lin_eff (l := [37]) (by kernel_rfl) (by kernel_rfl) ?_
         refine each_cons (m := 137438953471) (D' := 274877906943) (is := [36]) (bs := [false]) (T' := []) rfl (fun _=>rfl) rfl rfl rfl (by kernel_rfl) rfl (w_call (vs := [_]) (fun _=>rfl) Tryz.call21 (fun _=>rfl) rfl (rvis_spec d2.off rp d2.left hr0 hp0 hco2.2 (by omega) (by omega) (by omega)) (by repeat (first | exact Pull.nil _ | (apply Pull.cons; (focus (repeat (first | exact One.here _ _ | apply One.there))))))) ?hk_9 no_pan ?hl_9
         case hk_9 =>
          rintro _ _ ⟨_, ⟨s4, hv4, rfl⟩, rfl⟩
          refine ⟨keep_nil, ?_⟩
          rw [← hco2.1] at hv4
          obtain ⟨g4, cap4, cur4, z4, rfl, rfl, hle4, hcm4, hcs4, htk4, hfr4⟩ := hv4.some (by rw [List.length_map]; omega)
          refine lin_rg (D' := 549755813887) 38 (fun _=>rfl) rfl rfl rfl (by repeat (first | exact Has.here _ | apply Has.there)) (p_conv_bytes_str Tryz.underlying39 Tryz.underlying5 Tryz.underlying9 (fun _=>rfl) (by exact ⟨htk4, by simp⟩)) ?_
          refine lin_wg (D' := 1099511627775) 39 (fun _=>rfl) rfl rfl rfl (p_neq_str (fun _=>rfl) (fun _=>rfl)) ?_
          refine lin_wg (D' := 2199023255551) 40 (fun _=>rfl) rfl rfl rfl (p_pick_t (fun _=>rfl) (fun _=>rfl)) ?_
          refine lin_v (D' := 4398046511103) 41 (p_pick_f (fun _=>rfl) (fun _=>rfl)) ?_
          refine lin_nil ?_
          refine nx_slots (env' := [(1, _), (5, _), (6, _), (8, _), (75, _)]) [1, 5, 6, 8, 75] rfl (fun _=>rfl) ?_
          refine nx_next ?_
          first | refine at_if (fun _=>rfl) (fun hx => ?_) (fun hx => ?_) | refine at_if_bool (fun _=>rfl) (fun hx => ?_) (fun hx => ?_)
          ·
           exact absurd (by rw [show d2.off = false from by simpa using hoff]; rfl) hx
          ·
           refine at_skip ?_
           refine nx_next ?_
           refine at_seq ?_
           refine at_draw (n := 34) (0 :: 1 :: 3 :: 7 :: 15 :: 31 :: 63 :: 127 :: 255 :: 511 :: 1023 :: 63 :: 2111 :: 6207 :: 14399 :: 30783 :: 63551 :: 129087 :: 262143 :: 524287 :: 1048575 :: 2097151 :: 4194303 :: 8388607 :: 16777215 :: 33554431 :: 2097151 :: 69206015 :: 203423743 :: 471859199 :: 1073741823 :: 2147483647 :: 4294967295 :: 8589934591 :: []) 1107559424 (by kernel_rfl) (by kernel_rfl) rfl ?_
           refine lin_v (D' := 1) 0 (p_move (fun _=>rfl)) ?_
           refine lin_v (D' := 3) 1 (p_nilChk (fun _=>rfl) rfl) ?_
           refine lin_v (D' := 7) 2 (p_fieldAddr0 (off := 1) Tryz.underlying32 rfl rfl Tryz.sizeOf28 (fun _=>rfl)) ?_
           refine lin_r (D' := 15) 3 rfl rfl rfl (by repeat (first | exact Has.here _ | apply Has.there)) (p_load Tryz.isAgg28 (fun _=>rfl) (by rfl)) ?_
           first | refine lin_v (D' := 31) 4 (p_neq_nil_nil Tryz.underlying28 (fun _=>rfl) (fun _=>rfl)) ?_ | refine lin_v (D' := 31) 4 (p_neq_ptr_nil Tryz.underlying28 (fun _=>rfl) (fun _=>rfl)) ?_
           refine lin_v (D' := 63) 5 (p_move (fun _=>rfl)) ?_
           refine lin_split_bool (t := 81) (fun _=>rfl) (fun hb4 => ?_) (fun hb4 => ?_)
           ·
            first | rw [decide_eq_true hb4] | rw [hb4] | skip
            refine lin_wg (D' := 127) 6 (fun _=>rfl) rfl rfl rfl (p_move (fun _=>rfl)) ?_
            refine lin_wg (D' := 255) 7 (fun _=>rfl) rfl rfl rfl (p_nilChk (fun _=>rfl) rfl) ?_
            refine lin_wg (D' := 511) 8 (fun _=>rfl) rfl rfl rfl (p_fieldAddr0 (off := 1) Tryz.underlying32 rfl rfl Tryz.sizeOf28 (fun _=>rfl)) ?_
            refine lin_rg (D' := 1023) 9 (fun _=>rfl) rfl rfl rfl (by repeat (first | exact Has.here _ | apply Has.there)) (p_load Tryz.isAgg28 (fun _=>rfl) (by rfl)) ?_
            refine lin_wg (D' := 3071) 11 (fun _=>rfl) rfl rfl rfl (p_move (fun _=>rfl)) ?_
            refine lin_wg (D' := 7167) 12 (fun _=>rfl) rfl rfl rfl (p_nilChk (fun _=>rfl) rfl) ?_
            refine lin_wg (D' := 15359) 13 (fun _=>rfl) rfl rfl rfl (p_fieldAddr0 (off := 3) Tryz.underlying32 rfl rfl Tryz.sizeOf30 (fun _=>rfl)) ?_
            refine lin_rg (D' := 31743) 14 (fun _=>rfl) rfl rfl rfl (by repeat (first | exact Has.here _ | apply Has.there)) (p_load Tryz.isAgg30 (fun _=>rfl) (by rfl)) ?_
            refine lin_wg (D' := 64511) 15 (fun _=>rfl) rfl rfl rfl (p_nilChk (fun _=>rfl) rfl) ?_
            refine lin_wg (D' := 130047) 16 (fun _=>rfl) rfl rfl rfl (p_fieldAddr0 (off := 1) Tryz.underlying43 rfl rfl Tryz.sizeOf22 (fun _=>rfl)) ?_
            refine lin_rg (D' := 261119) 17 (fun _=>rfl) rfl rfl rfl (by repeat (first | exact Has.here _ | apply Has.there)) (p_load Tryz.isAgg22 (fun _=>rfl) (by rfl)) ?_
            refine lin_eff (l := [10]) (by kernel_rfl) (by kernel_rfl) ?_
            refine each_cons (m := 1023) (D' := 262143) (is := [17, 14, 9, 3]) (bs := [true, true, false, false]) (T' := [(17, (_, _)), (14, (_, _))]) rfl (fun _=>rfl) rfl rfl rfl (by kernel_rfl) rfl (w_call (vs := [_]) (fun _=>rfl) Tryz.call17 (fun _=>rfl) rfl (jr_records j2 jp2 dp sj2 hJ2) (by repeat (first | exact Pull.nil _ | (apply Pull.cons; (focus (repeat (first | exact One.here _ _ | apply One.there))))))) ?hk_10 no_pan ?hl_10
            case hk_10 =>
             rintro _ _ ⟨_, ⟨sv3, hv3r, rfl⟩, rfl⟩
             refine ⟨keep_cons (by repeat (first | exact Has.here _ | apply Has.there)) (keep_cons (by repeat (first | exact Has.here _ | apply Has.there)) (keep_nil)), ?_⟩
             refine lin_eff (l := [18]) (by kernel_rfl) (by kernel_rfl) ?_
             refine each_cons (m := 262143) (D' := 524287) (is := [17, 14]) (bs := [false, false]) (T' := []) rfl (fun _=>rfl) rfl rfl rfl (by kernel_rfl) rfl (w_callR (vs := [_, _]) (fun _=>rfl) Tryz.call16 (fun _=>rfl) rfl (same_rows hv3r hrowk hjn) (by repeat (first | exact Pull.nil _ | (apply Pull.cons; (focus (repeat (first | exact One.here _ _ | apply One.there))))))) ?hk_11 (fun _ _ h => h.elim) ?hl_11
             case hk_11 =>
              rintro _ _ ⟨rfl, rfl⟩
              refine ⟨keep_nil, ?_⟩
              first | refine lin_wg (D' := 1048575) 19 (fun _=>rfl) rfl rfl rfl (p_not_dec (fun _=>rfl)) ?_ | refine lin_wg (D' := 1048575) 19 (fun _=>rfl) rfl rfl rfl (p_not (fun _=>rfl)) ?_
              refine lin_wg (D' := 2097151) 20 (fun _=>rfl) rfl rfl rfl (p_move (fun _=>rfl)) ?_
              refine lin_split_bool (t := 96) (fun _=>rfl) (fun hb5 => ?_) (fun hb5 => ?_)
              ·
               first | rw [decide_eq_true hb5] | rw [hb5] | skip
               exfalso; first | exact hb5 rfl | (cases hb5; done) | contradiction | omega | (simp at hb5; omega) | (simp_all; done) | (simp_all; omega)
              ·
               first | rw [decide_eq_false hb5] | rw [hb5] | skip
               refine lin_wg (D' := 4194303) 21 (fun _=>rfl) rfl rfl rfl (p_move (fun _=>rfl)) ?_
               refine lin_wg (D' := 8388607) 22 (fun _=>rfl) rfl rfl rfl (p_nilChk (fun _=>rfl) rfl) ?_
               refine lin_wg (D' := 16777215) 23 (fun _=>rfl) rfl rfl rfl (p_fieldAddr0 (off := 1) Tryz.underlying32 rfl rfl Tryz.sizeOf28 (fun _=>rfl)) ?_
               refine lin_rg (D' := 33554431) 24 (fun _=>rfl) rfl rfl rfl (by repeat (first | exact Has.here _ | apply Has.there)) (p_load Tryz.isAgg28 (fun _=>rfl) (by rfl)) ?_
               refine lin_wg (D' := 100663295) 26 (fun _=>rfl) rfl rfl rfl (p_move (fun _=>rfl)) ?_
               refine lin_wg (D' := 234881023) 27 (fun _=>rfl) rfl rfl rfl (p_nilChk (fun _=>rfl) rfl) ?_
               refine lin_wg (D' := 503316479) 28 (fun _=>rfl) rfl rfl rfl (p_fieldAddr0 (off := 3) Tryz.underlying32 rfl rfl Tryz.sizeOf30 (fun _=>rfl)) ?_
               refine lin_rg (D' := 1040187391) 29 (fun _=>rfl) rfl rfl rfl (by repeat (first | exact Has.here _ | apply Has.there)) (p_load Tryz.isAgg30 (fun _=>rfl) (by rfl)) ?_
               refine lin_eff (l := [25]) (by kernel_rfl) (by kernel_rfl) ?_
               refine each_cons (m := 33554431) (D' := 1073741823) (is := [29, 24]) (bs := [true, false]) (T' := [(29, (_, _))]) rfl (fun _=>rfl) rfl rfl rfl (by kernel_rfl) rfl (w_callR (vs := [_]) (fun _=>rfl) Tryz.call18 (fun _=>rfl) rfl (jr_room j2 d2 jp2 dp sj2 sd2 hJ2 hR2 (by omega)) (by repeat (first | exact Pull.nil _ | (apply Pull.cons; (focus (repeat (first | exact One.here _ _ | apply One.there))))))) ?hk_12 (fun _ _ h => h.elim) ?hl_12
               case hk_12 =>
                rintro _ _ ⟨rfl, rfl⟩
                refine ⟨keep_cons (by repeat (first | exact Has.here _ | apply Has.there)) (keep_nil), ?_⟩
                refine lin_eff (l := [30]) (by kernel_rfl) (by kernel_rfl) ?_
                refine each_cons (m := 1073741823) (D' := 2147483647) (is := [29]) (bs := [false]) (T' := []) rfl (fun _=>rfl) rfl rfl rfl (by kernel_rfl) rfl (w_callR (vs := [_]) (fun _=>rfl) Tryz.call19 (fun _=>rfl) rfl (rroom_spec kp2 rp j2.sz _ (.int .i64 (d2.left : Int)) .nilFunc _ (.bool d2.off) (.bool j2.br) b0 d2.vi.length c0 (by omega) (by omega)) (by repeat (first | exact Pull.nil _ | (apply Pull.cons; (focus (repeat (first | exact One.here _ _ | apply One.there))))))) ?hk_13 (fun _ _ h => h.elim) ?hl_13
                case hk_13 =>
                 rintro _ _ ⟨rfl, rfl⟩
                 refine ⟨keep_nil, ?_⟩
                 first | refine lin_wg (D' := 4294967295) 31 (fun _=>rfl) rfl rfl rfl (p_neq_nat (fun _=>rfl) (fun _=>rfl)) ?_ | refine lin_wg (D' := 4294967295) 31 (fun _=>rfl) rfl rfl rfl (p_neq (fun _=>rfl) (fun _=>rfl)) ?_
                 refine lin_wg (D' := 8589934591) 32 (fun _=>rfl) rfl rfl rfl (p_pick_f (fun _=>rfl) (fun _=>rfl)) ?_
                 refine lin_v (D' := 17179869183) 33 (p_pick_t (fun _=>rfl) (fun _=>rfl)) ?_
                 refine lin_nil ?_
                 refine nx_slots (env' := [(1, _), (5, _), (6, _), (8, _), (109, _)]) [1, 5, 6, 8, 109] rfl (fun _=>rfl) ?_
                 refine nx_next ?_
                 first | refine at_if (fun _=>rfl) (fun hb6 => ?_) (fun hb6 => ?_) | refine at_if_bool (fun _=>rfl) (fun hb6 => ?_) (fun hb6 => ?_)
                 ·
                  exfalso; first | exact hb6 rfl | (cases hb6; done) | contradiction | omega | (simp at hb6; omega) | (simp_all; done) | (simp_all; omega)
                 ·
                  refine at_skip ?_
                  refine nx_block_normal ?_
                  refine nx_next ?_
                  refine at_join (s1 := sv0) (s2 := sp0) (by repeat (first | exact One.here _ _ | apply One.there)) (by repeat (first | exact One.here _ _ | apply One.there)) ?_
                  refine at_join (s1 := [(rp, _)]) (s2 := sv0 ++ sp0) (by repeat (first | exact One.here _ _ | apply One.there)) (by repeat (first | exact One.here _ _ | apply One.there)) ?_
                  first | refine at_join (s1 := [(kp2, _)]) (s2 := srk) (by repeat (first | exact One.here _ _ | apply One.there)) (by repeat (first | exact One.here _ _ | apply One.there)) ?_ | (refine at_nil ?_; refine at_nil ?_)
                  refine at_region ?_
                  refine op_v (p_move (fun _=>rfl)) ?_
                  first | (refine op_v (p_add_nat (n := 1) (fun _=>rfl) (fun _=>rfl) ?_) ?_; (focus (omega))) | (refine op_v (p_add (fun _=>rfl) (fun _=>rfl) (IntWalk.i64_in _ ?_)) ?_; (focus (omega)))
                  refine op_v (p_assign (fun _=>rfl)) ?_
                  refine ops_nil ?_
                  refine nx_slots (env' := [(8, _), (1, _), (5, _), (6, _)]) [8, 1, 5, 6] rfl (fun _=>rfl) ?_
                  refine nx_againB (e' := [(8, _)]) (m := _) (H' := _) (by first | exact ⟨i + 1, d2, none, .pointer none, .pointer none, [], [], sd2, _, rfl, ⟨by omega, hW2, ⟨rfl, rfl⟩, ⟨rfl, rfl⟩, hR2, hr2⟩, rfl, rfl⟩ | exact ⟨i + 1, d2, some j2, _, _, sj2, _, sd2, _, rfl, ⟨by omega, hW2, ⟨jp2, rfl, hJ2⟩, ⟨kp2, rfl, hK2⟩, hR2, hr2⟩, rfl, rfl⟩)
                case hl_13 =>
                 exact each_nil
               case hl_12 =>
                exact each_nil
             case hl_11 =>
              exact each_nil
            case hl_10 =>
             exact each_nil
           ·
            first | rw [decide_eq_false hb4] | rw [hb4] | skip
            exfalso; first | exact hb4 rfl | (cases hb4; done) | contradiction | omega | (simp at hb4; omega) | (simp_all; done) | (simp_all; omega)
         case hl_9 =>
          exact each_nil
        case hl_8 =>
         exact each_nil
       ·
        first | rw [decide_eq_false hoff] | rw [hoff] | skip
        refine lin_skip (D' := 536870911) 28 rfl (fun _=>rfl) rfl rfl ?_
        refine lin_skip (D' := 1073741823) 29 rfl (fun _=>rfl) rfl rfl ?_
        refine lin_skip (D' := 2147483647) 30 rfl (fun _=>rfl) rfl rfl ?_
        refine lin_skip (D' := 4294967295) 31 rfl (fun _=>rfl) rfl rfl ?_
        refine lin_skip (D' := 8589934591) 32 rfl (fun _=>rfl) rfl rfl ?_
        refine lin_skip (D' := 17179869183) 33 rfl (fun _=>rfl) rfl rfl ?_
        refine lin_skip (D' := 34359738367) 34 rfl (fun _=>rfl) rfl rfl ?_
        refine lin_skip (D' := 68719476735) 35 rfl (fun _=>rfl) rfl rfl ?_
        refine lin_skip (D' := 137438953471) 36 rfl (fun _=>rfl) rfl rfl ?_
        refine lin_skip (D' := 274877906943) 37 rfl (fun _=>rfl) rfl rfl ?_
        refine lin_skip (D' := 549755813887) 38 rfl (fun _=>rfl) rfl rfl ?_
        refine lin_skip (D' := 1099511627775) 39 rfl (fun _=>rfl) rfl rfl ?_
        refine lin_wg (D' := 2199023255551) 40 (fun _=>rfl) rfl rfl rfl (p_pick_f (fun _=>rfl) (fun _=>rfl)) ?_
        refine lin_v (D' := 4398046511103) 41 (p_pick_f (fun _=>rfl) (fun _=>rfl)) ?_
        refine lin_nil ?_
        refine nx_slots (env' := [(1, _), (5, _), (6, _), (8, _), (75, _)]) [1, 5, 6, 8, 75] rfl (fun _=>rfl) ?_
        refine nx_next ?_
        refine at_else (fun _=>rfl) ?_
        refine at_skip ?_
        refine nx_next ?_
        refine at_seq ?_
        refine at_draw (n := 34) (0 :: 1 :: 3 :: 7 :: 15 :: 31 :: 63 :: 127 :: 255 :: 511 :: 1023 :: 63 :: 2111 :: 6207 :: 14399 :: 30783 :: 63551 :: 129087 :: 262143 :: 524287 :: 1048575 :: 2097151 :: 4194303 :: 8388607 :: 16777215 :: 33554431 :: 2097151 :: 69206015 :: 203423743 :: 471859199 :: 1073741823 :: 2147483647 :: 4294967295 :: 8589934591 :: []) 1107559424 (by kernel_rfl) (by kernel_rfl) rfl ?_
        refine lin_v (D' := 1) 0 (p_move (fun _=>rfl)) ?_
        refine lin_v (D' := 3) 1 (p_nilChk (fun _=>rfl) rfl) ?_
        refine lin_v (D' := 7) 2 (p_fieldAddr0 (off := 1) Tryz.underlying32 rfl rfl Tryz.sizeOf28 (fun _=>rfl)) ?_
        refine lin_r (D' := 15) 3 rfl rfl rfl (by repeat (first | exact Has.here _ | apply Has.there)) (p_load Tryz.isAgg28 (fun _=>rfl) (by rfl)) ?_
        first | refine lin_v (D' := 31) 4 (p_neq_nil_nil Tryz.underlying28 (fun _=>rfl) (fun _=>rfl)) ?_ | refine lin_v (D' := 31) 4 (p_neq_ptr_nil Tryz.underlying28 (fun _=>rfl) (fun _=>rfl)) ?_
        refine lin_v (D' := 63) 5 (p_move (fun _=>rfl)) ?_
        refine lin_split_bool (t := 81) (fun _=>rfl) (fun hb4 => ?_) (fun hb4 => ?_)
        ·
         first | rw [decide_eq_true hb4] | rw [hb4] | skip
         refine lin_wg (D' := 127) 6 (fun _=>rfl) rfl rfl rfl (p_move (fun _=>rfl)) ?_
         refine lin_wg (D' := 255) 7 (fun _=>rfl) rfl rfl rfl (p_nilChk (fun _=>rfl) rfl) ?_
         refine lin_wg (D' := 511) 8 (fun _=>rfl) rfl rfl rfl (p_fieldAddr0 (off := 1) Tryz.underlying32 rfl rfl Tryz.sizeOf28 (fun _=>rfl)) ?_
         refine lin_rg (D' := 1023) 9 (fun _=>rfl) rfl rfl rfl (by repeat (first | exact Has.here _ | apply Has.there)) (p_load Tryz.isAgg28 (fun _=>rfl) (by rfl)) ?_
         refine lin_wg (D' := 3071) 11 (fun _=>rfl) rfl rfl rfl (p_move (fun _=>rfl)) ?_
         refine lin_wg (D' := 7167) 12 (fun _=>rfl) rfl rfl rfl (p_nilChk (fun _=>rfl) rfl) ?_
         refine lin_wg (D' := 15359) 13 (fun _=>rfl) rfl rfl rfl (p_fieldAddr0 (off := 3) Tryz.underlying32 rfl rfl Tryz.sizeOf30 (fun _=>rfl)) ?_
         refine lin_rg (D' := 31743) 14 (fun _=>rfl) rfl rfl rfl (by repeat (first | exact Has.here _ | apply Has.there)) (p_load Tryz.isAgg30 (fun _=>rfl) (by rfl)) ?_
         refine lin_wg (D' := 64511) 15 (fun _=>rfl) rfl rfl rfl (p_nilChk (fun _=>rfl) rfl) ?_
         refine lin_wg (D' := 130047) 16 (fun _=>rfl) rfl rfl rfl (p_fieldAddr0 (off := 1) Tryz.underlying43 rfl rfl Tryz.sizeOf22 (fun _=>rfl)) ?_
         refine lin_rg (D' := 261119) 17 (fun _=>rfl) rfl rfl rfl (by repeat (first | exact Has.here _ | apply Has.there)) (p_load Tryz.isAgg22 (fun _=>rfl) (by rfl)) ?_
         refine lin_eff (l := [10]) (by kernel_rfl) (by kernel_rfl) ?_
         refine each_cons (m := 1023) (D' := 262143) (is := [17, 14, 9, 3]) (bs := [true, true, false, false]) (T' := [(17, (_, _)), (14, (_, _))]) rfl (fun _=>rfl) rfl rfl rfl (by kernel_rfl) rfl (w_call (vs := [_]) (fun _=>rfl) Tryz.call17 (fun _=>rfl) rfl (jr_records j2 jp2 dp sj2 hJ2) (by repeat (first | exact Pull.nil _ | (apply Pull.cons; (focus (repeat (first | exact One.here _ _ | apply One.there))))))) ?hk_15 no_pan ?hl_15
         case hk_15 =>
          rintro _ _ ⟨_, ⟨sv3, hv3r, rfl⟩, rfl⟩
          refine ⟨keep_cons (by repeat (first | exact Has.here _ | apply Has.there)) (keep_cons (by repeat (first | exact Has.here _ | apply Has.there)) (keep_nil)), ?_⟩
          refine lin_eff (l := [18]) (by kernel_rfl) (by kernel_rfl) ?_
          refine each_cons (m := 262143) (D' := 524287) (is := [17, 14]) (bs := [false, false]) (T' := []) rfl (fun _=>rfl) rfl rfl rfl (by kernel_rfl) rfl (w_callR (vs := [_, _]) (fun _=>rfl) Tryz.call16 (fun _=>rfl) rfl (same_rows hv3r hrowk hjn) (by repeat (first | exact Pull.nil _ | (apply Pull.cons; (focus (repeat (first | exact One.here _ _ | apply One.there))))))) ?hk_16 (fun _ _ h => h.elim) ?hl_16
          case hk_16 =>
           rintro _ _ ⟨rfl, rfl⟩
           refine ⟨keep_nil, ?_⟩
           first | refine lin_wg (D' := 1048575) 19 (fun _=>rfl) rfl rfl rfl (p_not_dec (fun _=>rfl)) ?_ | refine lin_wg (D' := 1048575) 19 (fun _=>rfl) rfl rfl rfl (p_not (fun _=>rfl)) ?_
           refine lin_wg (D' := 2097151) 20 (fun _=>rfl) rfl rfl rfl (p_move (fun _=>rfl)) ?_
           refine lin_split_bool (t := 96) (fun _=>rfl) (fun hb5 => ?_) (fun hb5 => ?_)
           ·
            first | rw [decide_eq_true hb5] | rw [hb5] | skip
            exfalso; first | exact hb5 rfl | (cases hb5; done) | contradiction | omega | (simp at hb5; omega) | (simp_all; done) | (simp_all; omega)
           ·
            first | rw [decide_eq_false hb5] | rw [hb5] | skip
            refine lin_wg (D' := 4194303) 21 (fun _=>rfl) rfl rfl rfl (p_move (fun _=>rfl)) ?_
            refine lin_wg (D' := 8388607) 22 (fun _=>rfl) rfl rfl rfl (p_nilChk (fun _=>rfl) rfl) ?_
            refine lin_wg (D' := 16777215) 23 (fun _=>rfl) rfl rfl rfl (p_fieldAddr0 (off := 1) Tryz.underlying32 rfl rfl Tryz.sizeOf28 (fun _=>rfl)) ?_
            refine lin_rg (D' := 33554431) 24 (fun _=>rfl) rfl rfl rfl (by repeat (first | exact Has.here _ | apply Has.there)) (p_load Tryz.isAgg28 (fun _=>rfl) (by rfl)) ?_
            refine lin_wg (D' := 100663295) 26 (fun _=>rfl) rfl rfl rfl (p_move (fun _=>rfl)) ?_
            refine lin_wg (D' := 234881023) 27 (fun _=>rfl) rfl rfl rfl (p_nilChk (fun _=>rfl) rfl) ?_
            refine lin_wg (D' := 503316479) 28 (fun _=>rfl) rfl rfl rfl (p_fieldAddr0 (off := 3) Tryz.underlying32 rfl rfl Tryz.sizeOf30 (fun _=>rfl)) ?_
            refine lin_rg (D' := 1040187391) 29 (fun _=>rfl) rfl rfl rfl (by repeat (first | exact Has.here _ | apply Has.there)) (p_load Tryz.isAgg30 (fun _=>rfl) (by rfl)) ?_
            refine lin_eff (l := [25]) (by kernel_rfl) (by kernel_rfl) ?_
            refine each_cons (m := 33554431) (D' := 1073741823) (is := [29, 24]) (bs := [true, false]) (T' := [(29, (_, _))]) rfl (fun _=>rfl) rfl rfl rfl (by kernel_rfl) rfl (w_callR (vs := [_]) (fun _=>rfl) Tryz.call18 (fun _=>rfl) rfl (jr_room j2 d2 jp2 dp sj2 sd2 hJ2 hR2 (by omega)) (by repeat (first | exact Pull.nil _ | (apply Pull.cons; (focus (repeat (first | exact One.here _ _ | apply One.there))))))) ?hk_17 (fun _ _ h => h.elim) ?hl_17
            case hk_17 =>
             rintro _ _ ⟨rfl, rfl⟩
             refine ⟨keep_cons (by repeat (first | exact Has.here _ | apply Has.there)) (keep_nil), ?_⟩
             refine lin_eff (l := [30]) (by kernel_rfl) (by kernel_rfl) ?_
             refine each_cons (m := 1073741823) (D' := 2147483647) (is := [29]) (bs := [false]) (T' := []) rfl (fun _=>rfl) rfl rfl rfl (by kernel_rfl) rfl (w_callR (vs := [_]) (fun _=>rfl) Tryz.call19 (fun _=>rfl) rfl (rroom_spec kp2 rp j2.sz _ (.int .i64 (d2.left : Int)) .nilFunc _ (.bool d2.off) (.bool j2.br) b0 d2.vi.length c0 (by omega) (by omega)) (by repeat (first | exact Pull.nil _ | (apply Pull.cons; (focus (repeat (first | exact One.here _ _ | apply One.there))))))) ?hk_18 (fun _ _ h => h.elim) ?hl_18
             case hk_18 =>
              rintro _ _ ⟨rfl, rfl⟩
              refine ⟨keep_nil, ?_⟩
              first | refine lin_wg (D' := 4294967295) 31 (fun _=>rfl) rfl rfl rfl (p_neq_nat (fun _=>rfl) (fun _=>rfl)) ?_ | refine lin_wg (D' := 4294967295) 31 (fun _=>rfl) rfl rfl rfl (p_neq (fun _=>rfl) (fun _=>rfl)) ?_
              refine lin_wg (D' := 8589934591) 32 (fun _=>rfl) rfl rfl rfl (p_pick_f (fun _=>rfl) (fun _=>rfl)) ?_
              refine lin_v (D' := 17179869183) 33 (p_pick_t (fun _=>rfl) (fun _=>rfl)) ?_
              refine lin_nil ?_
              refine nx_slots (env' := [(1, _), (5, _), (6, _), (8, _), (109, _)]) [1, 5, 6, 8, 109] rfl (fun _=>rfl) ?_
              refine nx_next ?_
              first | refine at_if (fun _=>rfl) (fun hb6 => ?_) (fun hb6 => ?_) | refine at_if_bool (fun _=>rfl) (fun hb6 => ?_) (fun hb6 => ?_)
              ·
               exfalso; first | exact hb6 rfl | (cases hb6; done) | contradiction | omega | (simp at hb6; omega) | (simp_all; done) | (simp_all; omega)
              ·
               refine at_skip ?_
               refine nx_block_normal ?_
               refine nx_next ?_
               refine at_join (s1 := sv0) (s2 := sp0) (by repeat (first | exact One.here _ _ | apply One.there)) (by repeat (first | exact One.here _ _ | apply One.there)) ?_
               refine at_join (s1 := [(rp, _)]) (s2 := sv0 ++ sp0) (by repeat (first | exact One.here _ _ | apply One.there)) (by repeat (first | exact One.here _ _ | apply One.there)) ?_
               first | refine at_join (s1 := [(kp2, _)]) (s2 := srk) (by repeat (first | exact One.here _ _ | apply One.there)) (by repeat (first | exact One.here _ _ | apply One.there)) ?_ | (refine at_nil ?_; refine at_nil ?_)
               refine at_region ?_
               refine op_v (p_move (fun _=>rfl)) ?_
               first | (refine op_v (p_add_nat (n := 1) (fun _=>rfl) (fun _=>rfl) ?_) ?_; (focus (omega))) | (refine op_v (p_add (fun _=>rfl) (fun _=>rfl) (IntWalk.i64_in _ ?_)) ?_; (focus (omega)))
               refine op_v (p_assign (fun _=>rfl)) ?_
               refine ops_nil ?_
               refine nx_slots (env' := [(8, _), (1, _), (5, _), (6, _)]) [8, 1, 5, 6] rfl (fun _=>rfl) ?_
               refine nx_againB (e' := [(8, _)]) (m := _) (H' := _) (by first | exact ⟨i + 1, d2, none, .pointer none, .pointer none, [], [], sd2, _, rfl, ⟨by omega, hW2, ⟨rfl, rfl⟩, ⟨rfl, rfl⟩, hR2, hr2⟩, rfl, rfl⟩ | exact ⟨i + 1, d2, some j2, _, _, sj2, _, sd2, _, rfl, ⟨by omega, hW2, ⟨jp2, rfl, hJ2⟩, ⟨kp2, rfl, hK2⟩, hR2, hr2⟩, rfl, rfl⟩)
             case hl_18 =>
              exact each_nil
            case hl_17 =>
             exact each_nil
          case hl_16 =>
           exact each_nil
         case hl_15 =>
          exact each_nil
        ·
         first | rw [decide_eq_false hb4] | rw [hb4] | skip
         exfalso; first | exact hb4 rfl | (cases hb4; done) | contradiction | omega | (simp at hb4; omega) | (simp_all; done) | (simp_all; omega)
     case hl_7 =>
      exact each_nil
  ·
   refine at_exit ?_
   refine nx_thru (by intro h; cases h) ?_
   refine nx_thru (by intro h; cases h) ?_
   refine nx_block_exit ?_
   refine nx_next ?_
   refine at_seq ?_
   refine at_region ?_
   refine op_v (p_move (fun _=>rfl)) ?_
   refine op_v (p_assign (fun _=>rfl)) ?_
   refine ops_nil ?_
   refine nx_next ?_
   refine at_ret ?_
   refine nx_end1 (H' := _) rfl Tryz.results5 (fun _=>rfl) (by exact ⟨rfl, rfl⟩)
 ·
  refine op_skip (fun _=>rfl) rfl ?_
  refine op_skip (fun _=>rfl) rfl ?_
  refine op_v (p_pick_f (fun _=>rfl) (fun _=>rfl)) ?_
  refine ops_nil ?_
  refine nx_next ?_
  refine at_else (fun _=>rfl) ?_
  refine at_exit ?_
  refine nx_thru (by intro h; cases h) ?_
  refine nx_thru (by intro h; cases h) ?_
  refine nx_block_exit ?_
  refine nx_next ?_
  refine at_seq ?_
  refine at_region ?_
  refine op_v (p_move (fun _=>rfl)) ?_
  refine op_v (p_assign (fun _=>rfl)) ?_
  refine ops_nil ?_
  refine nx_next ?_
  refine at_ret ?_
  refine nx_end1 (H' := _) rfl Tryz.results5 (fun _=>rfl) (by exact ⟨rfl, rfl⟩)

end Go.Proofs.YtdahnapibeepkaaGreatDoor
