/- statetree: Verify. -/
import Derived.Test.YtjeepldonhgohaaGreatDoorEz
import Derived.Test.YtjeepldonhgohaaGreatDoorTr8
namespace Go.Proofs.YtjeepldonhgohaaGreatDoor
open Go.Proofs.Tryz
open Go Go.RowKit Gw
set_option linter.unusedVariables false
set_option linter.unusedSimpArgs false
set_option maxRecDepth 100000
attribute [local irreducible] Gw.At Gw.Nx Gw.Ops
/-- A proof is right for a root. -/
structure VerP (root : Bs) (x : RP) : Prop where
  comp : Comp x
  n16 : x.roots.length = 16
  np : x.paths.length = x.rows.length
  root : rootT x.roots = root
  sum : ∃ d : Bs, d.length = 32 ∧ x.roots[4 * x.tb.toNat + x.cl.toNat]? = some (encI x.ct ++ d) ∧ (x.ct = 0 → d = rootT []) ∧
    (x.ct ≠ 0 → ∀ (k : Nat) (r : RowM) (pf : List Bs), x.rows[k]? = some r → x.paths[k]? = some pf → verT d x.ct.toNat (x.fi.toNat + k) (encRow r) pf = true)
noncomputable instance (root : Bs) (x : RP) : Decidable (VerP root x) := Classical.propDecidable _
theorem ver_false {root : Bs} {x : RP} (h : ¬ VerP root x) : Value.bool false = Value.bool (decide (VerP root x)) := congrArg Value.bool (decide_eq_false h).symm
theorem str_inj {a b : Bs} (h : str a = str b) : a = b := by rw [← str_list a, ← str_list b, h]
theorem str_cut (a b : Bs) : (str (a ++ b)).extract 0 (str a).size = str a := by
  apply ByteArray.ext
  rw [ByteArray.data_extract, str_size]
  simp [str]
theorem str_tail (a b : Bs) : (str (a ++ b)).extract (str a).size (str (a ++ b)).size = str b := by
  apply ByteArray.ext
  rw [ByteArray.data_extract, str_size, str_size]
  simp [str]
theorem pre_of {s n : Bs} (h : (str s).extract 0 (str n).size = str n) : ∃ d, s = n ++ d := by
  have h1 : ((str s).extract 0 (str n).size).data.toList = n := by rw [h, str_list]
  rw [ByteArray.data_extract, str_size] at h1
  refine ⟨s.drop n.length, ?_⟩
  conv => lhs; rw [← List.take_append_drop n.length s]
  congr 1
  simp [str] at h1
  exact h1
theorem strsU_none (M : List Chunk) : StrsU M (.slice none 0 0) [] := ⟨none, 0, rfl, ⟨by simp, by simp⟩, by intro i s h; simp at h⟩
theorem nat_of {n : Int} (h : 0 ≤ n) : ∃ k : Nat, n = (k : Int) := ⟨n.toNat, by omega⟩

set_option maxHeartbeats 4000000 in
theorem verify_proof {M : List Chunk} {v : Value} {x : RP} (hv : RPIn M v x) (hroots : ∀ s ∈ x.roots, s.length ≤ 140737488354000) (hpaths : ∀ l ∈ x.paths, l.length ≤ 1000000) (root : Bs) (Tg : TypeId) (zg : Nat × Nat) : DoesR Tryz.prog 23 #[.string (str root), v] [[(0, .cells (kTab.map u32v).toArray Tg zg)], M] (.bool (decide (VerP root x))) := by
 have hml : maxLen = 9223372036854775807 := rfl
 obtain ⟨vr, vp, vt, rfl, hR, hP, hT⟩ := id hv
 obtain ⟨p, cap, e9, hl, hg⟩ := id hR
 subst e9
 obtain ⟨p3, cap3, e39, hl3, hg3⟩ := id hP
 subst e39
 obtain ⟨p4, cap4, e49, hl4, hg4⟩ := id hT
 subst e49
 refine spec_enter func23 rfl ntmps23 rfl ?_
 intro u R
 refine Zb [0, 1] ?_
 refine Zq <| Zg <| Ze (w_box Y (cs := #[_, _, _, _, _, _, _, _, _]) rfl) ?_
 rintro _ _ ⟨pb, rfl, rfl⟩
 refine Za Y <| Z0 <| Zx <| Zq <| Zq <| Zg <| Zo (by repeat (first | exact Has.here _ | apply Has.there)) (p_load_agg (cs := #[.int .i64 x.tb, .int .i64 x.cl, .int .i64 x.lo, .int .i64 x.hi, .int .i64 x.ct, .int .i64 x.fi, .slice p x.rows.length cap, .slice p3 x.paths.length cap3, .slice p4 x.roots.length cap4]) isAgg37 sizeOf37 Y (by first | omega | decide | (simp; done)) (by rfl)) ?_
 refine Zr [_] Y call50 Y rfl (complete_spec hv) ?_
 rintro _ _ ⟨rfl, rfl⟩
 refine Zv (p_not_dec Y) <| Zm Y ?_
 refine ops_split (t := 16) Y rfl (fun hcm => ?_) (fun hcm => ?_)
 ·
  refine op_skip Y rfl <| op_skip Y rfl <| op_skip Y rfl <| op_skip Y rfl <| Zv (p_pick_t Y Y) <| Zm Y <| op_skip Y rfl <| op_skip Y rfl <| op_skip Y rfl <| op_skip Y rfl <| op_skip Y rfl <| op_skip Y rfl <| op_skip Y rfl <| Zv (p_pick_t Y Y) <| Zm Y <| op_skip Y rfl <| op_skip Y rfl <| op_skip Y rfl <| op_skip Y rfl <| op_skip Y rfl <| Zv (p_pick_t Y Y) <| Z0 <| Zn [3, 37] ?_
  refine Zx <| at_then Y <| Zq <| Zg <| Za Y <| Z0 <| Zx <| at_ret <| Zt ?_
  refine nx_end1 rfl results23 Y (by exact ⟨ver_false (fun h9 => by have h91 := h9.comp; have h92 := h9.n16; have h93 := h9.np; have h94 := h9.root; contradiction), rfl⟩)
 ·
  refine Yf 8 underlying37 rfl rfl sizeOf35 Y <| Yl isAgg35 Y ?_
  refine Yg (p_len_slice underlying35 Y) <| Yg (p_neq_nat (n := 16) Y Y) <| Zv (p_pick_f Y Y) <| Zm Y ?_
  refine ops_split (t := 22) Y rfl (fun hc16 => ?_) (fun hc16 => ?_)
  ·
   refine op_skip Y rfl <| op_skip Y rfl <| op_skip Y rfl <| op_skip Y rfl <| op_skip Y rfl <| op_skip Y rfl <| op_skip Y rfl <| Zv (p_pick_t Y Y) <| Zm Y <| op_skip Y rfl <| op_skip Y rfl <| op_skip Y rfl <| op_skip Y rfl <| op_skip Y rfl <| Zv (p_pick_t Y Y) <| Z0 <| Zn [3, 37] ?_
   refine Zx <| at_then Y <| Zq <| Zg <| Za Y <| Z0 <| Zx <| at_ret <| Zt ?_
   refine nx_end1 rfl results23 Y (by exact ⟨ver_false (fun h9 => by have h91 := h9.comp; have h92 := h9.n16; have h93 := h9.np; have h94 := h9.root; contradiction), rfl⟩)
  ·
   refine Yf 7 underlying37 rfl rfl sizeOf34 Y <| Yl isAgg34 Y ?_
   refine Yg (p_len_slice underlying34 Y) <| Yf 6 underlying37 rfl rfl sizeOf33 Y <| Yl isAgg33 Y ?_
   refine Yg (p_len_slice underlying33 Y) <| Yg (p_neq_nat Y Y) <| Zv (p_pick_f Y Y) <| Zm Y ?_
   refine ops_split (t := 31) Y rfl (fun hcnp => ?_) (fun hcnp => ?_)
   ·
    refine op_skip Y rfl <| op_skip Y rfl <| op_skip Y rfl <| op_skip Y rfl <| op_skip Y rfl <| Zv (p_pick_t Y Y) <| Z0 <| Zn [3, 37] ?_
    refine Zx <| at_then Y <| Zq <| Zg <| Za Y <| Z0 <| Zx <| at_ret <| Zt ?_
    refine nx_end1 rfl results23 Y (by exact ⟨ver_false (fun h9 => by have h91 := h9.comp; have h92 := h9.n16; have h93 := h9.np; have h94 := h9.root; contradiction), rfl⟩)
   ·
    refine Yf 8 underlying37 rfl rfl sizeOf35 Y <| Yl isAgg35 Y ?_
    refine Zr [_] Y call22 Y rfl (root_spec hT (by omega) hroots Tg zg) ?_
    rintro _ _ ⟨rfl, rfl⟩
    refine Zf Y Y <| Yg (p_neq_str Y Y) <| Zv (p_pick_f Y Y) <| Z0 <| Zn [3, 37] ?_
    refine Zx ?_
    refine at_if Y (fun hrt => ?_) (fun hrt => ?_)
    ·
     refine Zq <| Zg <| Za Y <| Z0 <| Zx <| at_ret <| Zt ?_
     refine nx_end1 rfl results23 Y (by exact ⟨ver_false (fun h9 => by have h91 := h9.comp; have h92 := h9.n16; have h93 := h9.np; have h94 := h9.root; exact hrt (by rw [h94])), rfl⟩)
    ·
     have hcm := Classical.not_not.1 hcm
     obtain ⟨⟨⟨ht0, ht4⟩, hc0, hc4⟩, _, ⟨hn0, hn2⟩, ⟨hf0, hf1⟩, hnn, _⟩ := id hcm
     obtain ⟨tn, htn⟩ := nat_of ht0
     obtain ⟨cn, hcn⟩ := nat_of hc0
     obtain ⟨nn, hnt⟩ := nat_of hn0
     obtain ⟨fn, hfn⟩ := nat_of hf0
     obtain ⟨s9, hs9⟩ : ∃ s, x.roots[4 * tn + cn]? = some s := ⟨_, List.getElem?_eq_getElem (by omega)⟩
     have hrt2 : rootT x.roots = root := str_inj (Classical.not_not.1 hrt)
     rw [htn, hcn, hnt, hfn]
     obtain ⟨g4, off4, cur4, T4, zz4, rfl, hm9, hex9⟩ := hg4 _ s9 hs9
     have hel := encI_len (nn : Int) (by omega) (by omega)
     have hss := str_size s9
     have hse := str_size (encI (nn : Int))
     have hsl := hroots s9 (List.mem_of_getElem? hs9)
     have hidx : 4 * x.tb.toNat + x.cl.toNat = 4 * tn + cn := by omega
     refine at_skip <| Zx <| Zq <| Zg <| Zh 4 underlying37 rfl rfl sizeOf3 Y <| Zl isAgg3 Y ?_
     refine Zr [_] Y call61 Y rfl (putInt_spec (nn : Int) (by omega) (by omega)) ?_
     rintro _ _ ⟨rfl, rfl⟩
     refine Zm Y <| Zd Y rfl <| Zd Y rfl <| Za Y <| Za Y <| Z0 <| Zx <| Zq <| Zg <| Zh 8 underlying37 rfl rfl sizeOf35 Y <| Zl isAgg35 Y ?_
     refine Zh 0 underlying37 rfl rfl sizeOf3 Y <| Zl isAgg3 Y ?_
     (refine op_v (p_mul_nat (m := 4) Y Y ?_) ?_; (focus (first | omega | (simp; omega))))
     refine Zh 1 underlying37 rfl rfl sizeOf3 Y <| Zl isAgg3 Y ?_
     (refine op_v (p_add_nat Y Y ?_) ?_; (focus (first | omega | (simp; omega))))
     (refine op_v (p_indexAddr_nat1 underlying35 sizeOf9 Y Y ?_) ?_; (focus (first | omega | decide | (simp; done))))
     refine op_rm (cs := [(g4, .cells cur4 T4 zz4)]) (by simp [hm9]) (p_load isAgg9 Y (by exact hex9)) rfl rfl ?_
     refine Za Y <| Z0 <| Zn [3, 5, 7] ?_
     refine Zx <| Zq <| Zq <| Zg <| Zm Y <| Zv (p_len_str underlying9 Y) <| Zm Y <| Zv (p_len_str underlying9 Y) <| Ya (n := 32) Y Y <| Zv (p_neq_nat Y Y) <| Zm Y ?_
     refine ops_split (t := 60) Y rfl (fun hsz => ?_) (fun hsz => ?_)
     ·
      refine op_skip Y rfl <| op_skip Y rfl <| op_skip Y rfl <| op_skip Y rfl <| op_skip Y rfl <| op_skip Y rfl <| Zv (p_pick_t Y Y) <| Z0 <| Zn [3, 5, 7, 67] ?_
      refine Zx <| at_then Y <| Zq <| Zg <| Za Y <| Z0 <| Zx <| at_ret <| Zt ?_
      refine nx_end1 rfl results23 Y (by exact ⟨ver_false (fun h9 => by obtain ⟨d, hd, hd2, _⟩ := h9.sum; rw [hidx, hs9, hnt] at hd2; injection hd2 with hd2; subst hd2; exact hsz (by rw [hss, hse, List.length_append, hd])), rfl⟩)
     ·
      refine Zf Y Y <| Zf Y Y <| Yg (p_len_str underlying9 Y) ?_
      (refine op_wg Y (p_slice_str_to underlying9 Y Y ?_) rfl rfl ?_; (focus (first | omega | (simp; omega))))
      refine Zf Y Y <| Yg (p_neq_str Y Y) <| Zv (p_pick_f Y Y) <| Z0 <| Zn [3, 5, 7, 67] ?_
      refine Zx ?_
      refine at_if Y (fun hpx => ?_) (fun hpx => ?_)
      ·
       refine Zq <| Zg <| Za Y <| Z0 <| Zx <| at_ret <| Zt ?_
       refine nx_end1 rfl results23 Y (by exact ⟨ver_false (fun h9 => by obtain ⟨d, hd, hd2, _⟩ := h9.sum; rw [hidx, hs9, hnt] at hd2; injection hd2 with hd2; subst hd2; exact hpx (str_cut _ _)), rfl⟩)
      ·
       obtain ⟨d9, rfl⟩ := pre_of (Classical.not_not.1 hpx)
       have hd32 : d9.length = 32 := by rw [hse, str_size, List.length_append] at hsz; omega
       refine at_skip <| Zx <| Zq <| Zg <| Zm Y <| Zm Y <| Zv (p_len_str underlying9 Y) ?_
       (refine op_v (p_slice_str_from underlying9 Y Y ?_) ?_; (focus (rw [str_size, str_size, List.length_append]; omega)))
       refine Za Y <| Z0 <| Zx <| Zq <| Zq ?_
       rw [str_tail]
       refine Zg <| Zh 4 underlying37 rfl rfl sizeOf3 Y <| Zl isAgg3 Y ?_
       refine Zv (p_eql_nat (n := 0) Y Y) <| Z0 <| Zx ?_
       refine at_if Y (fun hz => ?_) (fun hz => ?_)
       ·
        refine Zq <| Zg <| Zm Y <| Zr [_] Y call22 Y rfl (root_spec (strsU_none M) (by simp) (by simp) Tg zg) ?_
        rintro _ _ ⟨rfl, rfl⟩
        refine Zv (p_eql_str Y Y) <| Za Y <| Z0 <| Zx <| at_ret <| Zt ?_
        refine nx_end1 rfl results23 Y (by exact ⟨dec_bool ⟨fun h9 => ⟨hcm, by omega, by omega, hrt2, d9, hd32, by rw [hidx, hs9, hnt], fun _ => str_inj h9, fun h0 => by omega⟩, fun h9 => by obtain ⟨d, hd, hd2, hd3, _⟩ := h9.sum; rw [hidx, hs9, hnt] at hd2; injection hd2 with hd2; rw [List.append_cancel_left hd2, hd3 (by omega)]⟩, rfl⟩)
       ·
        refine at_skip <| Zx <| Zq <| Zq <| Zg <| Zh 6 underlying37 rfl rfl sizeOf33 Y <| Zl isAgg33 Y ?_
        refine Zv (p_len_slice underlying33 Y) <| Zm Y <| Z0 <| Zx <| at_block <| Zb [81, 3, 8, 79, 80] ?_
        refine at_loopB (e0 := [(81, _)]) (H0 := _) (n := _) (fun m e H => ∃ (k : Nat), m = x.rows.length - k ∧ (k ≤ x.rows.length ∧ ∀ (j : Nat) (r : RowM) (pf : List Bs), j < k → x.rows[j]? = some r → x.paths[j]? = some pf → verT d9 nn (fn + j) (encRow r) pf = true) ∧ e = [(81, .int .i64 (k : Int))] ∧ H = []) (by exact ⟨0, rfl, ⟨Nat.zero_le _, by intro j r pf hj; omega⟩, rfl, rfl⟩) (by repeat (first | exact Pull.nil _ | (apply Pull.cons; (focus (repeat (first | exact One.here _ _ | apply One.there)))))) ?_
        rintro _ _ _ ⟨k, rfl, ⟨hk, hall⟩, rfl, rfl⟩
        refine Zq <| Zg <| Zv (p_lss_nat Y Y) <| Z0 <| Zx <| Zq ?_
        refine at_if Y (fun hlt => ?_) (fun hlt => ?_)
        ·
         obtain ⟨r, hr⟩ : ∃ r, x.rows[k]? = some r := ⟨_, List.getElem?_eq_getElem hlt⟩
         obtain ⟨g, off, cur, T, zz, rfl, hm99, hsz9, hex99⟩ := hg k r hr
         obtain ⟨pf, hpf⟩ : ∃ pf, x.paths[k]? = some pf := ⟨_, List.getElem?_eq_getElem (by omega)⟩
         obtain ⟨q6, c6, hu6, g6, off6, cur6, T6, zz6, rfl, hm6, hex6⟩ := hg3 k pf hpf
         have hro := (hcm.all k r hr).1.1
         refine at_skip <| Zx <| Zq <| at_block <| Zq <| Zg <| Zm Y ?_
         (refine op_v (p_indexAddr_nat underlying33 sizeOf74 Y Y ?_) ?_; (focus (first | omega | decide | (simp; done))))
         refine op_rm (cs := [(g, .cells cur T zz)]) (by simp [hm99]) (p_load_agg (cs := #[.int .i64 r.t, .int .i64 r.k, .int .i64 r.v.a, .int .i64 r.v.b, .int .i64 r.v.c]) isAgg74 sizeOf74 Y (by omega) hex99) rfl rfl ?_
         refine Ze (w_alloc zeroValue74 (cs := #[_, _, _, _, _]) rfl) ?_
         rintro _ _ ⟨rb, rfl, rfl⟩
         refine Za Y <| Ze (w_store_agg sizeOf74 Y Y (by (simp [Value.oneCell']; done)) (by repeat (first | exact Upd.here _ | apply Upd.there)) (by exact (rfl : _ = (#[.int .i64 r.t, .int .i64 r.k, .int .i64 r.v.a, .int .i64 r.v.b, .int .i64 r.v.c] : Array Value))) (by first | rfl | (simp; done)) (by first | omega | decide | (simp; done)) (by exact free_zero _)) ?_
         rintro _ _ ⟨rfl, rfl⟩
         refine Z0 <| Zx <| Zq <| Zg <| Zo (by repeat (first | exact Has.here _ | apply Has.there)) (p_load_agg (cs := #[_, _, _, _, _]) isAgg74 sizeOf74 Y (by first | omega | decide | (simp; done)) (by rfl)) ?_
         refine Zr [_] Y call62 Y rfl (rw_encode r hro) ?_
         rintro _ _ ⟨rfl, rfl⟩
         refine Zm Y <| Zd Y rfl <| Zd Y rfl <| Za Y <| Za Y <| Z0 <| Zn [3, 8, 9, 11, 79, 80, 81] ?_
         refine Zx <| Zq <| at_draw (n := 15) (0 :: 0 :: 2 :: 0 :: 8 :: 0 :: 56 :: 0 :: 0 :: 256 :: 0 :: 1792 :: 3840 :: 8191 :: 16383 :: []) 8192 (by kernel_rfl) (by kernel_rfl) rfl ?_
         refine Zi 1 0 rfl (p_move Y) <| Zi 3 1 rfl (p_fieldAddr0 (off := 4) underlying37 rfl rfl sizeOf3 Y) <| Zj 7 2 rfl isAgg3 Y ?_
         refine Zi 15 3 rfl (p_fieldAddr0 (off := 5) underlying37 rfl rfl sizeOf3 Y) <| Zj 31 4 rfl isAgg3 Y ?_
         refine Zi 63 5 rfl (p_move Y) ?_
         (refine lin_v (D' := 127) 6 (p_add_nat Y Y ?_) ?_; (focus (first | omega | (simp; omega))))
         refine Zi 255 7 rfl (p_move Y) <| Zi 511 8 rfl (p_fieldAddr0 (off := 7) underlying37 rfl rfl sizeOf34 Y) <| Zj 1023 9 rfl isAgg34 Y ?_
         refine Zi 2047 10 rfl (p_move Y) ?_
         (refine lin_v (D' := 4095) 11 (p_indexAddr_nat1 underlying34 sizeOf35 Y Y ?_) ?_; (focus (first | omega | decide | (simp; done))))
         refine lin_rm (b := g6) (x := .cells cur6 T6 zz6) (D' := 8191) 12 rfl rfl rfl (by simp [hm6]) (p_load isAgg35 Y (by exact hex6)) ?_
         refine Zz (l := [13]) ?_
         refine Zy 8191 16383 [12, 9, 4, 2] [false, false, false, false] [] rfl Y rfl rfl rfl rfl (Zu [_, _, _, _, _] Y call63 Y rfl (verify_spec hu6 (hpaths pf (List.mem_of_getElem? hpf)) d9 (encRow r) (by have := encRow_len hro; omega) nn (fn + k) (by omega) (by omega) Tg zg)) ?hk_9 (fun _ _ h => h.elim) ?hl_9
         case hk_9 =>
          rintro _ _ ⟨rfl, rfl⟩
          refine ⟨keep_nil, ?_⟩
          refine Zi 32767 14 rfl (p_not Y) <| lin_nil ?_
          refine Zn [3, 8, 79, 80, 81, 105] ?_
          refine Zx ?_
          refine at_if_bool Y (fun hvf => ?_) (fun hvf => ?_)
          ·
           refine Zq <| Zg <| Za Y <| Z0 <| Zx <| at_ret <| nx_block_ret <| Zt <| Zt <| nx_block_ret <| Zt ?_
           refine nx_end1 rfl results23 Y (by exact ⟨ver_false (fun h9 => by obtain ⟨d, hd, hd2, _, hd4⟩ := h9.sum; rw [hidx, hs9, hnt] at hd2; injection hd2 with hd2; have hd3 := List.append_cancel_left hd2; have h5 := hd4 (by omega) k r pf hr hpf; rw [← hd3, show x.ct.toNat = nn by omega, show x.fi.toNat = fn by omega] at h5; simp [h5] at hvf), rfl⟩)
          ·
           refine at_skip <| nx_block_normal <| Zx <| Zg <| Ya (n := 1) Y Y <| Zm Y <| Z0 <| Zn [81, 3, 8, 79, 80] ?_
           refine nx_againB (e' := [(81, _)]) (m := _) (H' := _) (by
                 exact ⟨k + 1, rfl, ⟨by omega, fun j r9 pf9 hj hr9 hp9 => by
                   rcases Nat.lt_or_ge j k with h9 | h9
                   · exact hall j r9 pf9 h9 hr9 hp9
                   · obtain rfl : j = k := (by omega)
                     rw [hr] at hr9; injection hr9 with hr9; subst hr9
                     rw [hpf] at hp9; injection hp9 with hp9; subst hp9
                     simpa using hvf⟩, rfl, rfl⟩)
         case hl_9 =>
          exact each_nil
        ·
         refine at_exit <| Zt <| Zt <| nx_block_exit <| Zx <| Zq <| Zg <| Za Y <| Z0 <| Zx <| at_ret ?_
         refine nx_end1 rfl results23 Y (by exact ⟨congrArg Value.bool (decide_eq_true (show VerP root x from ⟨hcm, by omega, by omega, hrt2, d9, hd32, by rw [hidx, hs9, hnt], fun h0 => by omega, fun h0 j r pf hj hp => by rw [show x.ct.toNat = nn by omega, show x.fi.toNat = fn by omega]; exact hall j r pf (by have := (List.getElem?_eq_some_iff.1 hj).1; omega) hj hp⟩)).symm, rfl⟩)

end Go.Proofs.YtjeepldonhgohaaGreatDoor
