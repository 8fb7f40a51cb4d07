/- All orders; the summaries; the root of a state. -/
import Derived.Test.YtjeepldonhgohaaGreatDoorEz
import Derived.Test.YtjeepldonhgohaaGreatDoorTr5
namespace Go.Proofs.YtjeepldonhgohaaGreatDoor
open Go.Proofs.Tryz
open Go Go.RowKit Gw
set_option linter.unusedVariables false
set_option linter.unusedSimpArgs false
set_option maxRecDepth 100000
attribute [local irreducible] Gw.At Gw.Nx Gw.Ops
theorem orders_spec (q : Option Addr) : Does Tryz.prog 80 #[.pointer q] [] (fun r H' => ∃ b, r = .func (.func 118) #[] #[.pointer (some ⟨b, 0, none⟩)] ∧ H' = [[(b, .cells #[.pointer q] 25 (0, 0))]]) := by
 refine spec_enter func80 rfl ntmps80 rfl ?_
 intro u R
 refine Zb [0] ?_
 refine Zq <| Zg <| Ze (w_box Y (cs := #[_]) rfl) ?_
 rintro _ _ ⟨b, rfl, rfl⟩
 refine Za Y <| Z0 <| Zx <| Zq <| Zg <| Zv (p_makeFunc (vs := []) (us := [_]) Y Y) ?_
 refine Za Y <| Z0 <| Zx <| at_ret ?_
 refine nx_end1 rfl results80 Y (by exact ⟨_, rfl, rfl⟩)

theorem orders_iter (v : Value) (p : Int) (rs : List RowM) (s : List Chunk) (hv : StIs v p rs s) (hs : SortedR rs) (hn : rs.length ≤ 2000) (hok : ∀ r ∈ rs, r.ok) (b : Nat) :
    IterSpecE Tryz.prog 118 #[.pointer (some ⟨b, 0, none⟩)] [[(b, .cells #[v] 25 (0, 0))]] [s] (EncO rs) tcs := by
 have hml : maxLen = 9223372036854775807 := rfl
 intro l J hy s0 hJ
 refine spec_enter func118 rfl ntmps118 rfl ?_
 intro u R
 refine Zb [0, 1] ?_
 refine Zq <| Zg <| Zm Y <| Z0 <| Zx <| at_block <| Zb [5, 0, 1] ?_
 refine at_loopB (e0 := [(5, _)]) (H0 := _) (n := _) (fun m e H => ∃ (t : Nat) (s2 : List Chunk), m = 4 - t ∧ (t ≤ 4 ∧ J (tcs.take (4 * t)) s2) ∧ e = [(5, .int .i64 (t : Int))] ∧ H = [s2]) (by exact ⟨0, s0, rfl, ⟨by omega, hJ⟩, rfl, rfl⟩) (by repeat (first | exact Pull.nil _ | (apply Pull.cons; (focus (repeat (first | exact One.here _ _ | apply One.there)))))) ?_
 rintro _ _ _ ⟨t, s2, rfl, ⟨ht, hJ2⟩, rfl, rfl⟩
 refine Zq <| Zg <| Zv (p_lss_nat (n := 4) Y Y) <| Z0 <| Zx <| Zq ?_
 refine at_if Y (fun ht4 => ?_) (fun ht4 => ?_)
 ·
  refine at_skip <| Zx <| Zq <| at_block <| Zq <| Zg <| Zm Y <| Za Y <| Z0 <| Zx <| Zq <| Zg <| Zm Y <| Z0 <| Zx <| at_block <| Zb [8, 0, 1, 3, 5] ?_
  refine at_loopB (e0 := [(8, _)]) (H0 := _) (n := _) (fun m e H => ∃ (c : Nat) (s3 : List Chunk), m = 4 - c ∧ (c ≤ 4 ∧ J (tcs.take (4 * t + c)) s3) ∧ e = [(8, .int .i64 (c : Int))] ∧ H = [s3]) (by exact ⟨0, s2, rfl, ⟨by omega, hJ2⟩, rfl, rfl⟩) (by repeat (first | exact Pull.nil _ | (apply Pull.cons; (focus (repeat (first | exact One.here _ _ | apply One.there)))))) ?_
  rintro _ _ _ ⟨c, s3, rfl, ⟨hc, hJ3⟩, rfl, rfl⟩
  refine Zq <| Zg <| Zv (p_lss_nat (n := 4) Y Y) <| Z0 <| Zx <| Zq ?_
  refine at_if Y (fun hc4 => ?_) (fun hc4 => ?_)
  ·
   have hx := tc_at t ht4 c hc4
   refine at_skip <| Zx <| Zq <| at_block <| Zq <| Zg <| Zm Y <| Za Y <| Z0 <| Zx <| Zq <| Zg <| Zm Y <| Zl isAgg25 Y ?_
   refine Zm Y <| Zm Y <| Zc [_, _, _] Y call38 Y rfl (order_specJ v p rs s hv hs hn hok (t : Int) c (by omega)) ?_
   rintro _ _ ⟨_, ⟨vr, ve, sr, se, rfl, hO, rfl⟩, rfl⟩
   have hyk := hy _ _ _ s3 #[.agg #[vr, ve]] (sr ++ se) (split_at hx) hJ3 ⟨vr, ve, sr, se, rfl, hO, rfl⟩
   refine Ze (w_yield (vs := [_]) Y Y (hyk) (by repeat (first | exact Pull.nil _ | (apply Pull.cons; (focus (repeat (first | exact One.here _ _ | apply One.there))))))) ?_
   rintro _ _ ⟨_, ⟨s4, rfl, rfl, hJ4⟩, rfl⟩
   refine Zv (p_not Y) <| Z0 <| Zx ?_
   refine at_if_bool Y (fun hb => ?_) (fun hb => ?_)
   ·
    cases hb
   ·
    refine at_skip <| nx_block_normal <| Zx <| Zg ?_
    (refine op_v (p_add_nat (n := 1) Y Y ?_) ?_; (focus (omega)))
    refine Zm Y <| Z0 <| Zn [8, 0, 1, 3, 5] ?_
    refine nx_againB (e' := [(8, _)]) (m := _) (H' := _) (by exact ⟨c + 1, s4, rfl, ⟨by omega, by rw [← Nat.add_assoc, take_snoc hx]; exact hJ4⟩, rfl, rfl⟩)
  ·
   refine at_exit <| Zt <| Zt <| nx_block_exit <| nx_block_normal <| Zx <| Zg ?_
   (refine op_v (p_add_nat (n := 1) Y Y ?_) ?_; (focus (omega)))
   refine Zm Y <| Z0 <| Zn [5, 0, 1] ?_
   refine nx_againB (e' := [(5, _)]) (m := _) (H' := _) (by exact ⟨t + 1, s3, rfl, ⟨by omega, by rw [Nat.mul_add, Nat.mul_one]; have e4 : c = 4 := (by omega); subst e4; exact hJ3⟩, rfl, rfl⟩)
 ·
  have e4 : t = 4 := by omega
  subst e4
  refine at_exit <| Zt <| Zt <| nx_block_exit ?_
  refine nx_end0 rfl results118 (by exact ⟨s2, rfl, hJ2⟩)

theorem summ_spec (v : Value) (p : Int) (rs : List RowM) (s : List Chunk) (hv : StIs v p rs s) (hs : SortedR rs) (hn : rs.length ≤ 2000) (hok : ∀ r ∈ rs, r.ok) (Tg : TypeId) (zg : Nat × Nat) :
    Does Tryz.prog 34 #[v] [[(0, .cells (kTab.map u32v).toArray Tg zg)], s] (fun r H' => ∃ so, RowS 1 9 r 16 ((sumL rs).map strV) so ∧ H' = [so, [(0, .cells (kTab.map u32v).toArray Tg zg)], s]) := by
 have hml : maxLen = 9223372036854775807 := rfl
 obtain ⟨sp9, mb9, es9, ck9, lm9, rfl, hst9⟩ := id hv
 refine spec_enterM func34 rfl ntmps34 rfl ?_
 intro u R
 refine Zb [0] ?_
 refine Zq <| Zg <| Za Y <| Z0 <| Zx <| Zq <| Zg <| Ze (w_alloc zeroValue35 (cs := #[_]) rfl) ?_
 rintro _ _ ⟨ob, rfl, rfl⟩
 refine Z0 <| Zx <| Zq <| Zq <| Zg <| Zm Y <| Zc [_] Y call80 Y rfl (orders_spec _) ?_
 rintro _ _ ⟨_, ⟨bb, rfl, rfl⟩, rfl⟩
 refine Z0 <| Zx <| at_block <| Zb [3, 8] ?_
 refine at_nil ?_
 refine at_rangeAllE (H0 := _) (R := _) (I := (fun pre H => ∃ v2 s2, H = [[(ob, .cells #[v2] 35 (0, 0))], s2, [(0, .cells (kTab.map u32v).toArray Tg zg)]] ∧ RowS 1 9 v2 pre.length ((pre.map (summ rs)).map strV) s2)) (E := fun x vs sx e Hn => ∃ bx vr ve, vs = #[.agg #[vr, ve]] ∧ e = [(4, .pointer (some ⟨bx, 0, none⟩)), (9, .agg #[vr, ve])] ∧ Hn = [[(bx, .cells #[vr, ve] 81 (0, 0))]]) rfl Y call118 (orders_iter _ p rs s hv hs hn hok bb) (fun x vs sx h => by obtain ⟨vr, ve, sr, se, rfl, _⟩ := h; rfl) rfl (by repeat (first | exact Pull.nil _ | (apply Pull.cons; (focus (repeat (first | exact One.here _ _ | apply One.there)))))) (⟨_, [], rfl, rowS_nil 1 _⟩) ?ha_2 ?hbd_2 ?hk_2
 case ha_2 =>
  intro _ x vs sx _ _ hEnc
  obtain ⟨vr, ve, sr, se, rfl, hO, rfl⟩ := hEnc
  refine Zg <| Ze (w_alloc zeroValue81 (cs := #[_, _]) rfl) ?_
  rintro _ _ ⟨bx, rfl, rfl⟩
  refine Ze (w_store_agg sizeOf81 Y Y (by obtain ⟨q1, c1, rfl⟩ := hO.1.form; obtain ⟨q2, c2, rfl⟩ := hO.2.form; simp [Value.oneCell', Value.cells]) (by repeat (first | exact Upd.here _ | apply Upd.there)) (by exact (rfl : _ = (#[vr, ve] : Array Value))) (by first | rfl | (simp; done)) (by first | omega | decide | (simp; done)) (by exact free_zero _)) ?_
  rintro _ _ ⟨rfl, rfl⟩
  refine Z0 <| nx_isX (e := [(4, _), (9, _)]) (Hn := [[(_, _)]]) ?_
  exact ⟨_, _, _, rfl, rfl, rfl⟩
 case hbd_2 =>
  intro l pre x post u vs sx e9 Hn9 H1 R1 hxs hI hEnc hE9
  obtain ⟨vr, ve, sr, se, rfl, hO, rfl⟩ := hEnc
  obtain ⟨bx, vr2, ve2, hvv, rfl, rfl⟩ := hE9
  simp at hvv
  obtain ⟨rfl, rfl⟩ := hvv
  obtain ⟨v2, s2, rfl, hr2⟩ := hI
  obtain ⟨qe, ce, rfl⟩ := hO.2.form
  obtain ⟨q2, c2, rfl⟩ := hr2.form
  have hpl := congrArg List.length hxs
  rw [List.length_append, List.length_cons, show tcs.length = 16 from rfl] at hpl
  have hol := ordL_len hs (x.1 : Int) x.2
  have hou : StrsU (sr ++ se) (.slice qe (ordL rs (x.1 : Int) x.2).length ce) (encL (ordL rs (x.1 : Int) x.2)) := (strsU_row (rowS_eq hO.2 (encL_len _).symm rfl) (by rw [encL_len]; omega)).mono (fun c h => List.mem_append_right _ h)
  refine at_block <| Zq <| Zg <| Zh 1 underlying81 rfl rfl sizeOf35 Y <| Zl isAgg35 Y ?_
  refine Zv (p_len_slice underlying35 Y) <| Zr [_] Y call61 Y rfl (putInt_spec _ (by omega) (by omega)) ?_
  rintro _ _ ⟨rfl, rfl⟩
  refine Zm Y <| Zd Y rfl <| Zd Y rfl <| Za Y <| Za Y <| Z0 <| Zx <| at_draw (n := 9) (0 :: 0 :: 0 :: 4 :: 12 :: 30 :: 62 :: 127 :: 255 :: []) 464 (by kernel_rfl) (by kernel_rfl) rfl ?_
  refine Zj 1 0 rfl isAgg35 Y ?_
  refine Zi 3 1 rfl (p_move Y) <| Zi 7 2 rfl (p_fieldAddr0 (off := 1) underlying81 rfl rfl sizeOf35 Y) <| Zj 15 3 rfl isAgg35 Y ?_
  refine Zz (l := [4]) ?_
  refine Zy 12 31 [3, 0] [false, true] [(0, (_, _))] rfl Y rfl rfl rfl rfl (Zu [_] Y call22 Y rfl (root_spec hou (by rw [encL_len]; omega) (fun s h => by have := encL_ok (fun r hr => hok r (range_mem hr)) s h; omega) Tg zg)) ?hk_3 (fun _ _ h => h.elim) ?hl_3
  case hk_3 =>
   rintro _ _ ⟨rfl, rfl⟩
   refine ⟨Zk (keep_nil), ?_⟩
   (refine lin_v (D' := 63) 5 (p_add_str Y Y ?_) ?_; (focus (rw [str_size, str_size, root_len]; have := encI_len ((ordL rs (x.1 : Int) x.2).length : Int) (by omega) (by omega); omega)))
   refine Zz (l := [6]) ?_
   refine Zy 62 127 [0] [true] [(0, (_, _))] rfl Y rfl rfl rfl rfl (w_buildSlice (vs := [_]) (cs := [_]) underlying35 sizeOf9 zeroValue9 Y rfl rfl rfl rfl rfl) ?hk_4 (fun _ _ h => h.elim) ?hl_4
   case hk_4 =>
    rintro _ _ ⟨b3, rfl, rfl⟩
    refine ⟨Zk (keep_nil), ?_⟩
    refine Zz (l := [7]) ?_
    refine Zy 127 255 [0] [false] [] rfl Y rfl rfl rfl rfl (w_appendS (by_ := 16) (sz := 1) (news := [_]) underlying35 (rfl : Tryz.prog.info? 9 = some Tryz.t9) rfl rfl rfl rfl Y hr2 Y (by repeat (first | exact One.here _ _ | apply One.there)) (by repeat (first | exact Has.here _ | apply Has.there)) (by rfl) rfl (by simp [Value.oneCell']) (by decide) (by omega) (by omega)) ?hk_5 (fun _ _ h => h.elim) ?hl_5
    case hk_5 =>
     rintro _ _ ⟨sw5, hrw5, rfl⟩
     refine ⟨keep_nil, ?_⟩
     obtain ⟨gw5, cw5, rfl⟩ := hrw5.form
     refine Zz (l := [8]) ?_
     refine Zy 255 511 [] [] [] rfl Y rfl rfl rfl rfl (Zs sizeOf35 Y Y rfl (hi := by first | omega | decide | (simp; done))) ?hk_6 (fun _ _ h => h.elim) ?hl_6
     case hk_6 =>
      rintro _ _ ⟨rfl, rfl⟩
      refine ⟨keep_nil, ?_⟩
      refine lin_nil ?_
      refine Zn [] ?_
      refine nx_block_normal ?_
      refine nx_round (H' := _) rfl (by exact ⟨_, _, rfl, rowS_eq hrw5 (by simp) (by simp [summ, strV, str_app])⟩)
     case hl_6 =>
      exact each_nil
    case hl_5 =>
     exact each_nil
   case hl_4 =>
    exact each_nil
  case hl_3 =>
   exact each_nil
 case hk_2 =>
  intro D1 H2 hI2
  obtain ⟨v2, s2, rfl, hr2⟩ := hI2
  refine Zn [3] ?_
  refine nx_block_normal <| Zx <| Zq <| Zg <| Zl isAgg35 Y ?_
  refine Za Y <| Z0 <| Zx <| at_ret ?_
  refine nx_endM1 rfl (res1 results34 Y) (by repeat (first | exact One.here _ _ | apply One.there)) (by exact ⟨s2, hr2, rfl⟩)

end Go.Proofs.YtjeepldonhgohaaGreatDoor
