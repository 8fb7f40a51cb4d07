/- The store: New, Apply, At. -/
import Derived.Test.YtkgmgmkbgnkdnaaGreatEz
import Derived.Test.YtkgmgmkbgnkdnaaGreatKs1
namespace Go.Proofs.YtkgmgmkbgnkdnaaGreat
open Go.Proofs.Tryz
open Go Go.RowKit Gw
set_option linter.unusedVariables false
set_option linter.unusedSimpArgs false
set_option maxRecDepth 100000
attribute [local irreducible] Gw.At Gw.Nx Gw.Ops
theorem rw_after (c : Chg) : DoesR Tryz.prog 57 #[.agg #[.int .i64 c.t, .int .i64 c.k, .bool c.had, .int .i64 c.o.a, .int .i64 c.o.b, .int .i64 c.o.c, .bool c.has, .int .i64 c.n.a, .int .i64 c.n.b, .int .i64 c.n.c]] [] (.tuple #[.agg #[.int .i64 (halfL c c.has c.n).t, .int .i64 (halfL c c.has c.n).k, .int .i64 (halfL c c.has c.n).v.a, .int .i64 (halfL c c.has c.n).v.b, .int .i64 (halfL c c.has c.n).v.c], .bool c.has]) := by
 refine spec_enter func57 rfl ntmps57 rfl ?_
 intro u R
 refine Zb [0] ?_
 refine Zq <| Zg <| Ze (w_box Y (cs := #[_, _, _, _, _, _, _, _, _, _]) rfl) ?_
 rintro _ _ ⟨b1, rfl, rfl⟩
 refine Ze (w_alloc zeroValue62 (cs := #[_, _, _, _, _]) rfl) ?_
 rintro _ _ ⟨b2, rfl, rfl⟩
 refine Za Y <| Z0 <| Zx <| Zq <| Zg <| Zo (by repeat (first | exact Has.here _ | apply Has.there)) (p_load_agg (cs := #[_, _, _, _, _, _, _, _, _, _]) isAgg40 sizeOf40 Y (by first | omega | decide | (simp; done)) (by rfl)) ?_
 refine Zh 6 underlying40 rfl rfl sizeOf4 Y <| Zl isAgg4 Y ?_
 refine Zh 7 underlying40 rfl rfl sizeOf38 Y <| Zo (by repeat (first | exact Has.here _ | apply Has.there)) (p_load_agg (cs := #[_, _, _]) isAgg38 sizeOf38 Y (by first | omega | decide | (simp; done)) (by rfl)) ?_
 refine Zr [_, _, _] Y call76 Y rfl (rw_half c c.has c.n) ?_
 rintro _ _ ⟨rfl, rfl⟩
 refine Zd Y rfl <| Zd Y rfl <| Ze (w_store_agg sizeOf62 Y Y (by (simp [Value.oneCell']; done)) (by repeat (first | exact Upd.here _ | apply Upd.there)) (by rfl) (by first | rfl | (simp; done)) (by first | omega | decide | (simp; done)) (by exact free_zero _)) ?_
 rintro _ _ ⟨rfl, rfl⟩
 refine Za Y <| Z0 <| Zn [2, 3] ?_
 refine Zx <| at_ret ?_
 refine nx_endct rfl results57 Y (by repeat (first | exact Has.here _ | apply Has.there)) (loadVar_agg isAgg62 sizeOf62 (by first | decide | exact Nat.le_refl _ | (simp; done) | (simp; omega)) (rfl)) Y (by exact ⟨rfl, rfl⟩)

theorem st_new : Does Tryz.prog 28 #[] [] (fun r H' => ∃ sp mb, r = .pointer (some ⟨sp, 0, none⟩) ∧ H' = [[(sp, .cells #[.map (some mb), .int .i64 0] 108 (0, 0))], [(mb, .map #[] 0)]]) := by
 refine spec_enter func28 rfl ntmps28 rfl ?_
 intro u R
 refine Zb [] ?_
 refine Zq <| Zg <| Za Y <| Z0 <| Zx <| Zq <| Zg <| Ze (w_makeMap) ?_
 rintro _ _ ⟨mb, rfl, rfl⟩
 refine Zv (p_build (vs := [(0, _)]) (cs := #[_, _]) Y (run_build_struct (pl := #[(0, 1), (1, 1)]) zeroValue106 underlying106 (fun _ => by kernel_rfl) rfl)) ?_
 refine Zv (p_build (vs := [(0, _)]) (cs := #[_, _]) Y (run_build_struct (pl := #[(0, 2)]) zeroValue108 underlying108 (fun _ => by kernel_rfl) rfl)) ?_
 refine Ze (w_box Y (cs := #[_, _]) rfl) ?_
 rintro _ _ ⟨sp, rfl, rfl⟩
 refine Za Y <| Z0 <| Zx <| at_ret ?_
 refine nx_end1 rfl results28 Y (by exact ⟨sp, mb, rfl, rfl⟩)

theorem st_fits (sp mb : Nat) (p rp : Int) (es : Array MapEntry) (ck : Nat) (lm : List ((Int × Int) × Value)) (rs : List RowM) (M : List Chunk) (q : Option Addr) (cap : Nat) (cs : List Chg) (hm : MapM K2 es ck lm) (hR : MapR lm rs) (hO : ChgsIn M (.slice q cs.length cap) cs) (hs : SortedR rs) (hn : rs.length ≤ 2000) (hA : AppOk rs p rp cs) :
    DoesR Tryz.prog 58 #[.pointer (some ⟨sp, 0, none⟩), .agg #[.int .i64 rp, .slice q cs.length cap]] [[(sp, .cells #[.map (some mb), .int .i64 p] 108 (0, 0))], [(mb, .map es ck)], M] (.bool true) := by
 have hml : maxLen = 9223372036854775807 := rfl
 obtain ⟨p9, cap9, e9, hol, hg⟩ := id hO
 injection e9 with e91 e92 e93
 subst e91 e93
 have hok := hA.ok
 have hpo := hA.pos
 have hcl := hok.len
 have hrp := hok.pos
 have hasc := asc_of hok.ord
 have hln := hR.len hm hs
 refine spec_enter func58 rfl ntmps58 rfl ?_
 intro u R
 refine Zb [0, 1] ?_
 refine Zq <| Zg <| Ze (w_box Y (cs := #[_, _]) rfl) ?_
 rintro _ _ ⟨b1, rfl, rfl⟩
 refine Za Y <| Z0 <| Zx <| Zq <| Zq <| at_draw (n := 14) (0 :: 1 :: 3 :: 7 :: 15 :: 31 :: 15 :: 79 :: 207 :: 463 :: 975 :: 1999 :: 4095 :: 8191 :: []) 2 (by kernel_rfl) (by kernel_rfl) rfl ?_
 refine lin_r (D' := 1) 0 rfl rfl rfl (by repeat (first | exact Has.here _ | apply Has.there)) (p_load_agg (cs := #[_, _]) isAgg36 sizeOf36 Y (by first | omega | decide | (simp; done)) (by rfl)) ?_
 refine Zz (l := [1]) ?_
 refine Zy 1 3 [0] [false] [] rfl Y rfl rfl rfl rfl (Zu [_] Y call84 Y rfl (rw_validr rp q cap cs M hO)) ?hk_1 (fun _ _ h => h.elim) ?hl_1
 case hk_1 =>
  rintro _ _ ⟨rfl, rfl⟩
  refine ⟨keep_nil, ?_⟩
  rw [decide_eq_true hok]
  refine Zi 7 2 rfl (p_not Y) <| Zi 15 3 rfl (p_move Y) ?_
  refine lin_split_bool (t := 13) Y (fun h1 => ?_) (fun h1 => ?_)
  ·
   first | rw [decide_eq_true h1] | rw [h1] | skip
   cases h1
  ·
   first | rw [decide_eq_false h1] | rw [h1] | skip
   refine lin_wg (D' := 31) 4 Y rfl rfl rfl (p_fieldAddr0 (off := 0) underlying36 rfl rfl sizeOf3 Y) ?_
   refine lin_rg (D' := 63) 5 Y rfl rfl rfl (by repeat (first | exact Has.here _ | apply Has.there)) (p_load isAgg3 Y (by rfl)) ?_
   refine lin_wg (D' := 127) 6 Y rfl rfl rfl (p_move Y) ?_
   refine lin_wg (D' := 255) 7 Y rfl rfl rfl (p_nilChk Y rfl) ?_
   refine lin_wg (D' := 511) 8 Y rfl rfl rfl (p_fieldAddr0 (off := 0) underlying108 rfl rfl sizeOf106 Y) ?_
   refine lin_wg (D' := 1023) 9 Y rfl rfl rfl (p_fieldAddr1 (off := 1) underlying106 rfl rfl sizeOf3 Y) ?_
   refine lin_rg (D' := 2047) 10 Y rfl rfl rfl (by repeat (first | exact Has.here _ | apply Has.there)) (p_load isAgg3 Y (by rfl)) ?_
   (refine lin_wg (D' := 4095) 11 Y rfl rfl rfl (p_add Y Y (IntWalk.i64_in _ ?_)) ?_; (focus (omega)))
   refine lin_wg (D' := 8191) 12 Y rfl rfl rfl (p_neq Y Y) ?_
   refine Zi 16383 13 rfl (p_pick_f Y Y) <| lin_nil ?_
   refine Zn [0, 3, 23] ?_
   refine Zx ?_
   refine at_if Y (fun h2 => ?_) (fun h2 => ?_)
   ·
    exfalso; contradiction
   ·
    refine at_skip <| Zx <| Zq <| Zg <| Zm Y <| Zp Y rfl <| Zh 0 underlying108 rfl rfl sizeOf106 Y <| Zv (p_fieldAddr1 (off := 0) underlying106 rfl rfl sizeOf104 Y) <| Zl isAgg104 Y ?_
    refine Zo (by repeat (first | exact Has.here _ | apply Has.there)) (p_len_map underlying104 hm Y) ?_
    refine Za Y <| Z0 <| Zx <| Zq <| Zq <| Zg <| Zh 1 underlying36 rfl rfl sizeOf34 Y <| Zl isAgg34 Y ?_
    refine Zv (p_len_slice underlying34 Y) <| Zm Y <| Z0 <| Zx <| at_block <| Zb [5, 33, 0, 31, 32] ?_
    refine at_loopB (e0 := [(5, _), (33, _)]) (H0 := _) (n := _) (fun m e H => ∃ (i : Nat), m = cs.length - i ∧ (i ≤ cs.length) ∧ e = [(5, .int .i64 (sizeL rs (cs.take i))), (33, .int .i64 (i : Int))] ∧ H = []) (by exact ⟨0, rfl, Nat.zero_le _, by rw [hln]; rfl, rfl⟩) (by repeat (first | exact Pull.nil _ | (apply Pull.cons; (focus (repeat (first | exact One.here _ _ | apply One.there)))))) ?_
    rintro _ _ _ ⟨i, rfl, hi, rfl, rfl⟩
    have hsl := sizeL_le rs cs i
    refine Zq <| Zg <| Zv (p_lss_nat Y Y) <| Z0 <| Zx <| Zq ?_
    refine at_if Y (fun hlt => ?_) (fun hlt => ?_)
    ·
     obtain ⟨x, hx⟩ : ∃ x, cs[i]? = some x := ⟨_, List.getElem?_eq_getElem hlt⟩
     obtain ⟨g, off, cur, T, zz, rfl, hm9, hsz, hex⟩ := hg i x hx
     have hxo := hok.all i x hx
     have hkd := chg_kd hxo
     obtain ⟨hf1, hf2⟩ := hA.fit x (List.mem_of_getElem? hx)
     have hget := hR.get hm hs x.t x.k
     obtain ⟨gr, hgr⟩ : ∃ gr, gr = getL rs x.t x.k := ⟨_, rfl⟩
     rw [← hgr] at hget hf1 hf2
     clear hgr
     refine at_skip <| Zx <| Zq <| at_block <| Zq <| Zg ?_
     (refine op_v (p_indexAddr_nat underlying34 sizeOf40 Y Y ?_) ?_; (focus (first | omega | decide | (simp; done))))
     refine op_rm (cs := [(g, .cells cur T zz)]) (by simp [hm9]) (p_load_agg (cs := #[.int .i64 x.t, .int .i64 x.k, .bool x.had, .int .i64 x.o.a, .int .i64 x.o.b, .int .i64 x.o.c, .bool x.has, .int .i64 x.n.a, .int .i64 x.n.b, .int .i64 x.n.c]) isAgg40 sizeOf40 Y (by omega) hex) rfl rfl ?_
     refine Ze (w_alloc zeroValue40 (cs := #[_, _, _, _, _, _, _, _, _, _]) rfl) ?_
     rintro _ _ ⟨cb, rfl, rfl⟩
     refine Ze (w_store_agg sizeOf40 Y Y (by (simp [Value.oneCell']; done)) (by repeat (first | exact Upd.here _ | apply Upd.there)) (by exact (rfl : _ = (#[.int .i64 x.t, .int .i64 x.k, .bool x.had, .int .i64 x.o.a, .int .i64 x.o.b, .int .i64 x.o.c, .bool x.has, .int .i64 x.n.a, .int .i64 x.n.b, .int .i64 x.n.c] : Array Value))) (by first | rfl | (simp; done)) (by first | omega | decide | (simp; done)) (by exact free_zero _)) ?_
     rintro _ _ ⟨rfl, rfl⟩
     refine Z0 <| Zx <| Zq <| at_draw (n := 17) (0 :: 1 :: 3 :: 7 :: 15 :: 0 :: 32 :: 0 :: 128 :: 480 :: 1023 :: 2047 :: 4095 :: 4095 :: 0 :: 24575 :: 65535 :: []) 49152 (by kernel_rfl) (by kernel_rfl) rfl ?_
     refine Zi 1 0 rfl (p_move Y) <| Zi 3 1 rfl (p_nilChk Y rfl) <| Zi 7 2 rfl (p_fieldAddr0 (off := 0) underlying108 rfl rfl sizeOf106 Y) <| Zi 15 3 rfl (p_fieldAddr1 (off := 0) underlying106 rfl rfl sizeOf104 Y) <| Zj 31 4 rfl isAgg104 Y ?_
     refine Zi 63 5 rfl (p_fieldAddr0 (off := 0) underlying40 rfl rfl sizeOf3 Y) <| Zj 127 6 rfl isAgg3 Y ?_
     refine Zi 255 7 rfl (p_fieldAddr0 (off := 1) underlying40 rfl rfl sizeOf3 Y) <| Zj 511 8 rfl isAgg3 Y ?_
     refine Zi 1023 9 rfl (p_build (vs := [(0, _), (1, _)]) (cs := #[_, _]) Y (run_build_struct (pl := #[(0, 1), (1, 1)]) zeroValue110 underlying110 (fun _ => by kernel_rfl) rfl)) ?_
     refine lin_r (D' := 2047) 10 rfl rfl rfl (by repeat (first | exact Has.here _ | apply Has.there)) (p_lookupV idKey underlying104 zeroValue62 hm hR.keys (hkd) (hget) Y Y) ?_
     refine Zi 4095 11 rfl (p_move Y) <| Zi 8191 12 rfl (p_extract Y rfl) <| Zi 16383 13 rfl (p_extract Y rfl) <| Zz (l := [14]) ?_
     refine Zy 0 32767 [10, 8, 6, 4] [true, true, true, true] [(10, (_, _)), (8, (_, _)), (6, (_, _)), (4, (_, _))] rfl Y rfl rfl rfl rfl (w_alloc zeroValue62 (cs := #[_, _, _, _, _]) rfl) ?hk_3 (fun _ _ h => h.elim) ?hl_3
     case hk_3 =>
      rintro _ _ ⟨ob, rfl, rfl⟩
      refine ⟨Zk (Zk (Zk (Zk (keep_nil)))), ?_⟩
      refine Zz (l := [15]) ?_
      refine Zy 24575 65535 [10, 8, 6, 4] [false, false, false, false] [] rfl Y rfl rfl rfl rfl (w_store_agg sizeOf62 Y Y (by (simp [Value.oneCell']; done)) (by repeat (first | exact Upd.here _ | apply Upd.there)) (by exact (rfl : _ = (#[.int .i64 gr.1.t, .int .i64 gr.1.k, .int .i64 gr.1.v.a, .int .i64 gr.1.v.b, .int .i64 gr.1.v.c] : Array Value))) (by first | rfl | (simp; done)) (by first | omega | decide | (simp; done)) (by exact free_zero _)) ?hk_4 (fun _ _ h => h.elim) ?hl_4
      case hk_4 =>
       rintro _ _ ⟨rfl, rfl⟩
       refine ⟨keep_nil, ?_⟩
       refine Zi 131071 16 rfl (p_assign Y) <| lin_nil ?_
       refine Zn [0, 5, 7, 8, 9, 31, 32, 33] ?_
       refine Zx <| Zq <| Zq <| Zg <| Zm Y <| Zh 2 underlying40 rfl rfl sizeOf4 Y <| Zl isAgg4 Y ?_
       refine Zv (p_neq_bool underlying4 Y Y) <| Zm Y ?_
       refine ops_split (t := 55) Y rfl (fun hd1 => ?_) (fun hd1 => ?_)
       ·
        exfalso; contradiction
       ·
        refine Zf Y Y <| Zf Y Y ?_
        refine ops_split_bool (t := 57) Y rfl (fun hd2 => ?_) (fun hd2 => ?_)
        ·
         refine Yf 2 underlying62 rfl rfl sizeOf38 Y <| op_rg Y (by repeat (first | exact Has.here _ | apply Has.there)) (p_load_agg (cs := #[_, _, _]) isAgg38 sizeOf38 Y (by first | omega | decide | (simp; done)) (by rfl)) rfl rfl ?_
         refine Yf 3 underlying40 rfl rfl sizeOf38 Y <| op_rg Y (by repeat (first | exact Has.here _ | apply Has.there)) (p_load_agg (cs := #[_, _, _]) isAgg38 sizeOf38 Y (by first | omega | decide | (simp; done)) (by rfl)) rfl rfl ?_
         refine Yg (p_neq_arr3 (by kernel_rfl) underlying38 underlying3 isAgg3 sizeOf3 Y Y) ?_
         refine Yg (p_pick_t Y Y) <| Zv (p_pick_f Y Y) <| Z0 <| Zn [0, 5, 7, 31, 32, 33, 64] ?_
         refine Zx ?_
         refine at_if Y (fun hd3 => ?_) (fun hd3 => ?_)
         ·
          exfalso; exact hd3 (hf2 hd2)
         ·
          refine at_skip <| Zx <| Zq <| Zq <| Zg <| Zh 2 underlying40 rfl rfl sizeOf4 Y <| Zl isAgg4 Y ?_
          refine Z0 <| Zx ?_
          refine at_if_bool Y (fun hh1 => ?_) (fun hh1 => ?_)
          ·
           refine Zg <| Zm Y ?_
           (refine op_v (p_sub Y Y (IntWalk.i64_in _ ?_)) ?_; (focus (omega)))
           refine Za Y <| Z0 <| Zx <| Zq <| Zg <| Zh 6 underlying40 rfl rfl sizeOf4 Y <| Zl isAgg4 Y ?_
           refine Z0 <| Zx ?_
           refine at_if_bool Y (fun hh2 => ?_) (fun hh2 => ?_)
           ·
            refine Zg <| Zm Y <| Yi Y Y <| Za Y <| Z0 <| nx_block_normal <| Zx <| Zg <| Ya (n := 1) Y Y <| Zm Y <| Z0 <| Zn [5, 33, 0, 31, 32] ?_
            refine nx_againB (e' := [(5, _), (33, _)]) (m := _) (H' := _) (by exact ⟨i + 1, rfl, by omega, by rw [sz_tt hx hh1 hh2], rfl⟩)
           ·
            refine at_skip <| nx_block_normal <| Zx <| Zg <| Ya (n := 1) Y Y <| Zm Y <| Z0 <| Zn [5, 33, 0, 31, 32] ?_
            refine nx_againB (e' := [(5, _), (33, _)]) (m := _) (H' := _) (by exact ⟨i + 1, rfl, by omega, by rw [sz_tf hx hh1 hh2], rfl⟩)
          ·
           refine at_skip <| Zx <| Zq <| Zg <| Zh 6 underlying40 rfl rfl sizeOf4 Y <| Zl isAgg4 Y ?_
           refine Z0 <| Zx ?_
           refine at_if_bool Y (fun hh2 => ?_) (fun hh2 => ?_)
           ·
            refine Zg <| Zm Y <| Yi Y Y <| Za Y <| Z0 <| nx_block_normal <| Zx <| Zg <| Ya (n := 1) Y Y <| Zm Y <| Z0 <| Zn [5, 33, 0, 31, 32] ?_
            refine nx_againB (e' := [(5, _), (33, _)]) (m := _) (H' := _) (by exact ⟨i + 1, rfl, by omega, by rw [sz_ft hx hh1 hh2], rfl⟩)
           ·
            refine at_skip <| nx_block_normal <| Zx <| Zg <| Ya (n := 1) Y Y <| Zm Y <| Z0 <| Zn [5, 33, 0, 31, 32] ?_
            refine nx_againB (e' := [(5, _), (33, _)]) (m := _) (H' := _) (by exact ⟨i + 1, rfl, by omega, by rw [sz_ff hx hh1 hh2], rfl⟩)
        ·
         refine op_skip Y rfl <| op_skip Y rfl <| op_skip Y rfl <| op_skip Y rfl <| op_skip Y rfl <| Yg (p_pick_f Y Y) <| Zv (p_pick_f Y Y) <| Z0 <| Zn [0, 5, 7, 31, 32, 33, 64] ?_
         refine Zx <| at_else Y <| at_skip <| Zx <| Zq <| Zq <| Zg <| Zh 2 underlying40 rfl rfl sizeOf4 Y <| Zl isAgg4 Y ?_
         refine Z0 <| Zx ?_
         refine at_if_bool Y (fun hh1 => ?_) (fun hh1 => ?_)
         ·
          refine Zg <| Zm Y ?_
          (refine op_v (p_sub Y Y (IntWalk.i64_in _ ?_)) ?_; (focus (omega)))
          refine Za Y <| Z0 <| Zx <| Zq <| Zg <| Zh 6 underlying40 rfl rfl sizeOf4 Y <| Zl isAgg4 Y ?_
          refine Z0 <| Zx ?_
          refine at_if_bool Y (fun hh2 => ?_) (fun hh2 => ?_)
          ·
           refine Zg <| Zm Y <| Yi Y Y <| Za Y <| Z0 <| nx_block_normal <| Zx <| Zg <| Ya (n := 1) Y Y <| Zm Y <| Z0 <| Zn [5, 33, 0, 31, 32] ?_
           refine nx_againB (e' := [(5, _), (33, _)]) (m := _) (H' := _) (by exact ⟨i + 1, rfl, by omega, by rw [sz_tt hx hh1 hh2], rfl⟩)
          ·
           refine at_skip <| nx_block_normal <| Zx <| Zg <| Ya (n := 1) Y Y <| Zm Y <| Z0 <| Zn [5, 33, 0, 31, 32] ?_
           refine nx_againB (e' := [(5, _), (33, _)]) (m := _) (H' := _) (by exact ⟨i + 1, rfl, by omega, by rw [sz_tf hx hh1 hh2], rfl⟩)
         ·
          refine at_skip <| Zx <| Zq <| Zg <| Zh 6 underlying40 rfl rfl sizeOf4 Y <| Zl isAgg4 Y ?_
          refine Z0 <| Zx ?_
          refine at_if_bool Y (fun hh2 => ?_) (fun hh2 => ?_)
          ·
           refine Zg <| Zm Y <| Yi Y Y <| Za Y <| Z0 <| nx_block_normal <| Zx <| Zg <| Ya (n := 1) Y Y <| Zm Y <| Z0 <| Zn [5, 33, 0, 31, 32] ?_
           refine nx_againB (e' := [(5, _), (33, _)]) (m := _) (H' := _) (by exact ⟨i + 1, rfl, by omega, by rw [sz_ft hx hh1 hh2], rfl⟩)
          ·
           refine at_skip <| nx_block_normal <| Zx <| Zg <| Ya (n := 1) Y Y <| Zm Y <| Z0 <| Zn [5, 33, 0, 31, 32] ?_
           refine nx_againB (e' := [(5, _), (33, _)]) (m := _) (H' := _) (by exact ⟨i + 1, rfl, by omega, by rw [sz_ff hx hh1 hh2], rfl⟩)
      case hl_4 =>
       exact each_nil
     case hl_3 =>
      exact each_nil
    ·
     have ei : i = cs.length := by omega
     subst ei
     rw [List.take_length] at hsl ⊢
     refine at_exit <| Zt <| Zt <| nx_block_exit <| Zx <| Zq <| Zg <| Zm Y <| Zv (p_leq Y Y) <| Za Y <| Z0 <| Zx <| at_ret ?_
     refine nx_end1 rfl results58 Y (by exact ⟨by rw [decide_eq_true hA.size], rfl⟩)
 case hl_1 =>
  exact each_nil

theorem st_apply (sp mb : Nat) (p rp : Int) (es : Array MapEntry) (ck : Nat) (lm : List ((Int × Int) × Value)) (rs : List RowM) (M : List Chunk) (q : Option Addr) (cap : Nat) (cs : List Chg) (hm : MapM K2 es ck lm) (hR : MapR lm rs) (hO : ChgsIn M (.slice q cs.length cap) cs) (hs : SortedR rs) (hn : rs.length ≤ 2000) (hA : AppOk rs p rp cs) :
    Does Tryz.prog 29 #[.pointer (some ⟨sp, 0, none⟩), .agg #[.int .i64 rp, .slice q cs.length cap]] [[(sp, .cells #[.map (some mb), .int .i64 p] 108 (0, 0))], [(mb, .map es ck)], M] (fun r H' => r = .int .i64 0 ∧ ∃ es' ck' lm', MapM K2 es' ck' lm' ∧ MapR lm' (putAllR rs cs) ∧ H' = [[(sp, .cells #[.map (some mb), .int .i64 rp] 108 (0, 0))], [(mb, .map es' ck')], M]) := by
 have hml : maxLen = 9223372036854775807 := rfl
 obtain ⟨p9, cap9, e9, hol, hg⟩ := id hO
 injection e9 with e91 e92 e93
 subst e91 e93
 have hok := hA.ok
 have hpo := hA.pos
 have hcl := hok.len
 have hrp := hok.pos
 have hasc := asc_of hok.ord
 refine spec_enter func29 rfl ntmps29 rfl ?_
 intro u R
 refine Zb [0, 1] ?_
 refine Zq <| Zg <| Ze (w_box Y (cs := #[_, _]) rfl) ?_
 rintro _ _ ⟨b1, rfl, rfl⟩
 refine Za Y <| Z0 <| Zx <| Zq <| at_block <| Zq <| Zg <| Zm Y <| Zv (p_eql_ptr_nil underlying43 Y Y) <| Za Y <| Z0 <| Zx ?_
 refine at_if_bool Y (fun h1 => ?_) (fun h1 => ?_)
 ·
  cases h1
 ·
  refine Zq <| Zg <| Zm Y <| Zo (by repeat (first | exact Has.here _ | apply Has.there)) (p_load_agg (cs := #[_, _]) isAgg36 sizeOf36 Y (by first | omega | decide | (simp; done)) (by rfl)) ?_
  refine Zr [_, _] Y call58 Y rfl (st_fits sp mb p rp es ck lm rs M q cap cs hm hR hO hs hn hA) ?_
  rintro _ _ ⟨rfl, rfl⟩
  refine Zv (p_not Y) <| Za Y <| Z0 <| Zx ?_
  refine at_if_bool Y (fun h2 => ?_) (fun h2 => ?_)
  ·
   cases h2
  ·
   refine at_skip <| nx_block_normal <| Zx <| Zq <| Zq <| Zg <| Zh 1 underlying36 rfl rfl sizeOf34 Y <| Zl isAgg34 Y ?_
   refine Zv (p_len_slice underlying34 Y) <| Zm Y <| Z0 <| Zn [0, 3, 19, 20, 21] ?_
   refine Zx <| at_block <| Zb [21, 0, 3, 19, 20] ?_
   refine at_loopB (e0 := [(21, _)]) (H0 := _) (n := _) (fun m e H => ∃ (i : Nat) (es : Array MapEntry) (ck : Nat) (lm : List ((Int × Int) × Value)), m = cs.length - i ∧ (i ≤ cs.length ∧ MapM K2 es ck lm ∧ MapR lm (putAllR rs (cs.take i))) ∧ e = [(21, .int .i64 (i : Int))] ∧ H = [[(mb, .map es ck)]]) (by exact ⟨0, es, ck, lm, rfl, ⟨Nat.zero_le _, hm, by rw [List.take_zero]; exact hR⟩, rfl, rfl⟩) (by repeat (first | exact Pull.nil _ | (apply Pull.cons; (focus (repeat (first | exact One.here _ _ | apply One.there)))))) ?_
   rintro _ _ _ ⟨i, es1, ck1, lm1, rfl, ⟨hi, hm1, hR1⟩, rfl, rfl⟩
   refine Zq <| Zg <| Zv (p_lss_nat Y Y) <| Z0 <| Zx <| Zq ?_
   refine at_if Y (fun hlt => ?_) (fun hlt => ?_)
   ·
    obtain ⟨x, hx⟩ : ∃ x, cs[i]? = some x := ⟨_, List.getElem?_eq_getElem hlt⟩
    obtain ⟨g, off, cur, T, zz, rfl, hm9, hsz, hex⟩ := hg i x hx
    have hxo := hok.all i x hx
    have hkd := chg_kd hxo
    obtain ⟨hso, hfi⟩ := fold_inv hs hasc hA.fit i hi
    have hfx := hfi i x (Nat.le_refl _) hx
    refine at_skip <| Zx <| Zq <| at_block <| Zq <| Zg ?_
    (refine op_v (p_indexAddr_nat underlying34 sizeOf40 Y Y ?_) ?_; (focus (first | omega | decide | (simp; done))))
    refine op_rm (cs := [(g, .cells cur T zz)]) (by simp [hm9]) (p_load_agg (cs := #[.int .i64 x.t, .int .i64 x.k, .bool x.had, .int .i64 x.o.a, .int .i64 x.o.b, .int .i64 x.o.c, .bool x.has, .int .i64 x.n.a, .int .i64 x.n.b, .int .i64 x.n.c]) isAgg40 sizeOf40 Y (by omega) hex) rfl rfl ?_
    refine Ze (w_alloc zeroValue40 (cs := #[_, _, _, _, _, _, _, _, _, _]) rfl) ?_
    rintro _ _ ⟨cb, rfl, rfl⟩
    refine Ze (w_store_agg sizeOf40 Y Y (by (simp [Value.oneCell']; done)) (by repeat (first | exact Upd.here _ | apply Upd.there)) (by exact (rfl : _ = (#[.int .i64 x.t, .int .i64 x.k, .bool x.had, .int .i64 x.o.a, .int .i64 x.o.b, .int .i64 x.o.c, .bool x.has, .int .i64 x.n.a, .int .i64 x.n.b, .int .i64 x.n.c] : Array Value))) (by first | rfl | (simp; done)) (by first | omega | decide | (simp; done)) (by exact free_zero _)) ?_
    rintro _ _ ⟨rfl, rfl⟩
    refine Z0 <| Zx <| Zq <| Zg <| Zh 0 underlying40 rfl rfl sizeOf3 Y <| Zl isAgg3 Y ?_
    refine Zh 1 underlying40 rfl rfl sizeOf3 Y <| Zl isAgg3 Y ?_
    refine Zv (p_build (vs := [(0, _), (1, _)]) (cs := #[_, _]) Y (run_build_struct (pl := #[(0, 1), (1, 1)]) zeroValue110 underlying110 (fun _ => by kernel_rfl) rfl)) ?_
    refine Ze (w_alloc zeroValue110 (cs := #[_, _]) rfl) ?_
    rintro _ _ ⟨kb, rfl, rfl⟩
    refine Ze (w_store_agg sizeOf110 Y Y (by (simp [Value.oneCell', Value.cells]; done)) (by repeat (first | exact Upd.here _ | apply Upd.there)) (by exact (rfl : _ = (#[.int .i64 x.t, .int .i64 x.k] : Array Value))) (by first | rfl | (simp; done)) (by first | omega | decide | (simp; done)) (by exact free_zero _)) ?_
    rintro _ _ ⟨rfl, rfl⟩
    refine Z0 <| Zx <| Zq <| Zg <| Zo (by repeat (first | exact Has.here _ | apply Has.there)) (p_load_agg (cs := #[_, _, _, _, _, _, _, _, _, _]) isAgg40 sizeOf40 Y (by first | omega | decide | (simp; done)) (by rfl)) ?_
    refine Zr [_] Y call57 Y rfl (rw_after x) ?_
    rintro _ _ ⟨rfl, rfl⟩
    refine Zm Y <| Zd Y rfl <| Zd Y rfl <| Ze (w_alloc zeroValue62 (cs := #[_, _, _, _, _]) rfl) ?_
    rintro _ _ ⟨xb, rfl, rfl⟩
    refine Ze (w_store_agg sizeOf62 Y Y (by (simp [Value.oneCell']; done)) (by repeat (first | exact Upd.here _ | apply Upd.there)) (by exact (rfl : _ = (#[.int .i64 (halfL x x.has x.n).t, .int .i64 (halfL x x.has x.n).k, .int .i64 (halfL x x.has x.n).v.a, .int .i64 (halfL x x.has x.n).v.b, .int .i64 (halfL x x.has x.n).v.c] : Array Value))) (by first | rfl | (simp; done)) (by first | omega | decide | (simp; done)) (by exact free_zero _)) ?_
    rintro _ _ ⟨rfl, rfl⟩
    refine Za Y <| Z0 <| Zn [0, 3, 7, 8, 9, 19, 20, 21] ?_
    refine Zx <| Zq <| Zg <| Zm Y <| Z0 <| Zx ?_
    refine at_if_bool Y (fun hh => ?_) (fun hh => ?_)
    ·
     rw [half_t hh]
     refine at_draw (n := 8) (0 :: 1 :: 3 :: 7 :: 15 :: 0 :: 0 :: 127 :: []) 128 (by kernel_rfl) (by kernel_rfl) rfl ?_
     refine Zi 1 0 rfl (p_move Y) <| Zi 3 1 rfl (p_nilChk Y rfl) <| Zi 7 2 rfl (p_fieldAddr0 (off := 0) underlying108 rfl rfl sizeOf106 Y) <| Zi 15 3 rfl (p_fieldAddr1 (off := 0) underlying106 rfl rfl sizeOf104 Y) <| Zj 31 4 rfl isAgg104 Y ?_
     refine lin_r (D' := 63) 5 rfl rfl rfl (by repeat (first | exact Has.here _ | apply Has.there)) (p_load_agg (cs := #[_, _]) isAgg110 sizeOf110 Y (by first | omega | decide | (simp; done)) (by rfl)) ?_
     refine lin_r (D' := 127) 6 rfl rfl rfl (by repeat (first | exact Has.here _ | apply Has.there)) (p_load_agg (cs := #[_, _, _, _, _]) isAgg62 sizeOf62 Y (by first | omega | decide | (simp; done)) (by rfl)) ?_
     refine Zz (l := [7]) ?_
     refine Zy 127 255 [6, 5, 4] [false, false, false] [] rfl Y rfl rfl rfl rfl (w_mapUpdate idKey underlying104 hm1 hR1.keys (hkd) Y Y Y (by repeat (first | exact One.here _ _ | apply One.there))) ?hk_2 (fun _ _ h => h.elim) ?hl_2
     case hk_2 =>
      rintro _ _ ⟨rfl, es2, ck2, lm2, hm2, hp2, rfl⟩
      refine ⟨keep_nil, ?_⟩
      have hR2 : MapR lm2 (putAllR rs (cs.take (i + 1))) := by rw [putAllR_next rs cs i x hx]; exact hR1.put hso hfx hh hkd hp2
      refine lin_nil ?_
      refine nx_block_normal <| Zx <| Zg <| Ya (n := 1) Y Y <| Zm Y <| Z0 <| Zn [21, 0, 3, 19, 20] ?_
      refine nx_againB (e' := [(21, _)]) (m := _) (H' := _) (by exact ⟨i + 1, es2, ck2, lm2, rfl, ⟨by omega, hm2, hR2⟩, rfl, rfl⟩)
     case hl_2 =>
      exact each_nil
    ·
     refine at_draw (n := 7) (0 :: 1 :: 3 :: 7 :: 15 :: 0 :: 63 :: []) 64 (by kernel_rfl) (by kernel_rfl) rfl ?_
     refine Zi 1 0 rfl (p_move Y) <| Zi 3 1 rfl (p_nilChk Y rfl) <| Zi 7 2 rfl (p_fieldAddr0 (off := 0) underlying108 rfl rfl sizeOf106 Y) <| Zi 15 3 rfl (p_fieldAddr1 (off := 0) underlying106 rfl rfl sizeOf104 Y) <| Zj 31 4 rfl isAgg104 Y ?_
     refine lin_r (D' := 63) 5 rfl rfl rfl (by repeat (first | exact Has.here _ | apply Has.there)) (p_load_agg (cs := #[_, _]) isAgg110 sizeOf110 Y (by first | omega | decide | (simp; done)) (by rfl)) ?_
     refine Zz (l := [6]) ?_
     refine Zy 63 127 [5, 4] [false, false] [] rfl Y rfl rfl rfl rfl (w_delete idKey underlying104 hm1 hR1.keys (hkd) Y Y (by repeat (first | exact One.here _ _ | apply One.there))) ?hk_4 (fun _ _ h => h.elim) ?hl_4
     case hk_4 =>
      rintro _ _ ⟨rfl, es2, ck2, lm2, hm2, hp2, rfl⟩
      refine ⟨keep_nil, ?_⟩
      have hR2 : MapR lm2 (putAllR rs (cs.take (i + 1))) := by rw [putAllR_next rs cs i x hx]; exact hR1.drop hso hfx hh hp2
      refine lin_nil ?_
      refine nx_block_normal <| Zx <| Zg <| Ya (n := 1) Y Y <| Zm Y <| Z0 <| Zn [21, 0, 3, 19, 20] ?_
      refine nx_againB (e' := [(21, _)]) (m := _) (H' := _) (by exact ⟨i + 1, es2, ck2, lm2, rfl, ⟨by omega, hm2, hR2⟩, rfl, rfl⟩)
     case hl_4 =>
      exact each_nil
   ·
    have ei : i = cs.length := by omega
    subst ei
    rw [List.take_length] at hR1
    refine at_exit <| Zt <| Zt <| nx_block_exit <| Zx <| Zq <| Zg <| Zm Y <| Zh 0 underlying36 rfl rfl sizeOf3 Y <| Zl isAgg3 Y ?_
    refine Zp Y rfl <| Zh 0 underlying108 rfl rfl sizeOf106 Y <| Zv (p_fieldAddr1 (off := 1) underlying106 rfl rfl sizeOf3 Y) <| Ze (Zs sizeOf3 Y Y rfl (hc := by exact (rfl : _ = (#[.map (some mb), .int .i64 rp] : Array Value))) (hi := by first | omega | decide | (simp; done))) ?_
    rintro _ _ ⟨rfl, rfl⟩
    refine Z0 <| Zx <| Zq <| Zg <| Za Y <| Z0 <| Zx <| at_ret ?_
    refine nx_end1 rfl results29 Y (by exact ⟨rfl, es1, ck1, lm1, hm1, hR1, rfl⟩)

end Go.Proofs.YtkgmgmkbgnkdnaaGreat
