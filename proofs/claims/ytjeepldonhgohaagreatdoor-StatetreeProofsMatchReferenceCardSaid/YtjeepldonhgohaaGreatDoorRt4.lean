/- The reference of layer 10: Prove, Complete, Rows, Same, over what lies in memory. -/
import Derived.Test.YtjeepldonhgohaaGreatDoorEz
import Derived.Test.YtjeepldonhgohaaGreatDoorRt8
import Derived.Test.YtjeepldonhgohaaGreatDoorTr8
import Derived.Test.YtjeepldonhgohaaGreatDoorTr13
import Derived.Test.YtjeepldonhgohaaGreatDoorTr10

namespace Go.Proofs.YtjeepldonhgohaaGreatDoor
open Go.Proofs.Tryz
open Go Go.RowKit Gw
set_option linter.unusedVariables false
set_option linter.unusedSimpArgs false
set_option maxRecDepth 100000
attribute [local irreducible] Gw.At Gw.Nx Gw.Ops
theorem r3_valueI (r : RowM) (c : Int) (hc : 0 ≤ c ∧ c ≤ 3) : DoesR Tryz.prog 48 #[.agg #[.int .i64 r.t, .int .i64 r.k, .int .i64 r.v.a, .int .i64 r.v.b, .int .i64 r.v.c], .int .i64 c] [] (.int .i64 (valL r c)) := by
  obtain ⟨k, rfl⟩ : ∃ k : Nat, c = (k : Int) := ⟨c.toNat, by omega⟩
  rw [valL_N r k (by omega)]
  exact r3_value r k (by omega)
theorem not_fits {x : RP} {i : Nat} {r : RowM} (hr : x.rows[i]? = some r) (h : ¬ RowFits x i r) : ¬ Comp x := fun h9 => h (h9.all i r hr).1

set_option maxHeartbeats 1000000 in
theorem r10_complete {M : List Chunk} {v : Value} {x : RP} (hv : RPIn M v x) : DoesR Tryz.prog 51 #[v] [M] (.bool (decide (Comp x))) := by
 have hml : maxLen = 9223372036854775807 := rfl
 obtain ⟨vr, vp, vt, rfl, hR, hP, hT⟩ := hv
 obtain ⟨p, cap, e9, hl, hg⟩ := id hR
 subst e9
 refine spec_enter func51 rfl ntmps51 rfl ?_
 intro u R
 refine Zb [0] ?_
 refine Zq <| Zg <| Ze (w_box Y (cs := #[_, _, _, _, _, _, _, _, _]) rfl) ?_
 rintro _ _ ⟨pb, rfl, rfl⟩
 refine Za Y <| Z0 <| Zx <| Zq <| Zg <| Zh 6 underlying37 rfl rfl sizeOf33 Y <| Zl isAgg33 Y ?_
 refine Zv (p_len_slice underlying33 Y) <| Za Y <| Z0 <| Zx <| Zq <| Zq <| Zg <| Zh 0 underlying37 rfl rfl sizeOf3 Y <| Zl isAgg3 Y ?_
 refine Zv (p_lss Y Y) <| Zm Y ?_
 refine ops_split (t := 17) Y rfl (fun a1 => ?_) (fun a1 => ?_)
 ·
  refine op_skip Y rfl <| op_skip Y rfl <| op_skip Y rfl <| Zv (p_pick_t Y Y) <| Zm Y <| op_skip Y rfl <| op_skip Y rfl <| op_skip Y rfl <| Zv (p_pick_t Y Y) <| Zm Y <| op_skip Y rfl <| op_skip Y rfl <| op_skip Y rfl <| Zv (p_pick_t Y Y) <| Zm Y <| op_skip Y rfl <| op_skip Y rfl <| op_skip Y rfl <| op_skip Y rfl <| op_skip Y rfl <| Zv (p_pick_t Y Y) <| Z0 <| Zn [1, 3, 38] ?_
  refine Zx <| at_then Y <| Zq <| Zg <| Za Y <| Z0 <| Zx <| at_ret <| Zt ?_
  refine nx_end1 rfl results51 Y (by exact ⟨congrArg Value.bool (decide_eq_false (fun h9 : Comp x => by have h91 := h9.tc; have h92 := h9.lh; have h93 := h9.ct; have h94 := h9.fi; have h95 := h9.n; omega)).symm, rfl⟩)
 ·
  refine Yf 0 underlying37 rfl rfl sizeOf3 Y <| Yl isAgg3 Y ?_
  refine Yg (p_geq Y Y) <| Zv (p_pick_f Y Y) <| Zm Y ?_
  refine ops_split (t := 22) Y rfl (fun a2 => ?_) (fun a2 => ?_)
  ·
   refine op_skip Y rfl <| op_skip Y rfl <| op_skip Y rfl <| Zv (p_pick_t Y Y) <| Zm Y <| op_skip Y rfl <| op_skip Y rfl <| op_skip Y rfl <| Zv (p_pick_t Y Y) <| Zm Y <| op_skip Y rfl <| op_skip Y rfl <| op_skip Y rfl <| op_skip Y rfl <| op_skip Y rfl <| Zv (p_pick_t Y Y) <| Z0 <| Zn [1, 3, 38] ?_
   refine Zx <| at_then Y <| Zq <| Zg <| Za Y <| Z0 <| Zx <| at_ret <| Zt ?_
   refine nx_end1 rfl results51 Y (by exact ⟨congrArg Value.bool (decide_eq_false (fun h9 : Comp x => by have h91 := h9.tc; have h92 := h9.lh; have h93 := h9.ct; have h94 := h9.fi; have h95 := h9.n; omega)).symm, rfl⟩)
  ·
   refine Yf 1 underlying37 rfl rfl sizeOf3 Y <| Yl isAgg3 Y ?_
   refine Yg (p_lss Y Y) <| Zv (p_pick_f Y Y) <| Zm Y ?_
   refine ops_split (t := 27) Y rfl (fun a3 => ?_) (fun a3 => ?_)
   ·
    refine op_skip Y rfl <| op_skip Y rfl <| op_skip Y rfl <| Zv (p_pick_t Y Y) <| Zm Y <| op_skip Y rfl <| op_skip Y rfl <| op_skip Y rfl <| op_skip Y rfl <| op_skip Y rfl <| Zv (p_pick_t Y Y) <| Z0 <| Zn [1, 3, 38] ?_
    refine Zx <| at_then Y <| Zq <| Zg <| Za Y <| Z0 <| Zx <| at_ret <| Zt ?_
    refine nx_end1 rfl results51 Y (by exact ⟨congrArg Value.bool (decide_eq_false (fun h9 : Comp x => by have h91 := h9.tc; have h92 := h9.lh; have h93 := h9.ct; have h94 := h9.fi; have h95 := h9.n; omega)).symm, rfl⟩)
   ·
    refine Yf 1 underlying37 rfl rfl sizeOf3 Y <| Yl isAgg3 Y ?_
    refine Yg (p_geq Y Y) <| Zv (p_pick_f Y Y) <| Zm Y ?_
    refine ops_split (t := 32) Y rfl (fun a3 => ?_) (fun a3 => ?_)
    ·
     refine op_skip Y rfl <| op_skip Y rfl <| op_skip Y rfl <| op_skip Y rfl <| op_skip Y rfl <| Zv (p_pick_t Y Y) <| Z0 <| Zn [1, 3, 38] ?_
     refine Zx <| at_then Y <| Zq <| Zg <| Za Y <| Z0 <| Zx <| at_ret <| Zt ?_
     refine nx_end1 rfl results51 Y (by exact ⟨congrArg Value.bool (decide_eq_false (fun h9 : Comp x => by have h91 := h9.tc; have h92 := h9.lh; have h93 := h9.ct; have h94 := h9.fi; have h95 := h9.n; omega)).symm, rfl⟩)
    ·
     refine Yf 2 underlying37 rfl rfl sizeOf3 Y <| Yl isAgg3 Y ?_
     refine Yf 3 underlying37 rfl rfl sizeOf3 Y <| Yl isAgg3 Y ?_
     refine Yg (p_gtr Y Y) <| Zv (p_pick_f Y Y) <| Z0 <| Zn [1, 3, 38] ?_
     refine Zx ?_
     refine at_if Y (fun a4 => ?_) (fun a4 => ?_)
     ·
      refine Zq <| Zg <| Za Y <| Z0 <| Zx <| at_ret <| Zt ?_
      refine nx_end1 rfl results51 Y (by exact ⟨congrArg Value.bool (decide_eq_false (fun h9 : Comp x => by have h91 := h9.tc; have h92 := h9.lh; have h93 := h9.ct; have h94 := h9.fi; have h95 := h9.n; omega)).symm, rfl⟩)
     ·
      refine at_skip <| Zx <| Zq <| Zq <| Zg <| Zh 4 underlying37 rfl rfl sizeOf3 Y <| Zl isAgg3 Y ?_
      refine Zv (p_lss Y Y) <| Zm Y ?_
      refine ops_split (t := 42) Y rfl (fun b1 => ?_) (fun b1 => ?_)
      ·
       refine op_skip Y rfl <| op_skip Y rfl <| op_skip Y rfl <| Zv (p_pick_t Y Y) <| Zm Y <| op_skip Y rfl <| op_skip Y rfl <| op_skip Y rfl <| Zv (p_pick_t Y Y) <| Zm Y <| op_skip Y rfl <| op_skip Y rfl <| op_skip Y rfl <| op_skip Y rfl <| op_skip Y rfl <| Zv (p_pick_t Y Y) <| Zm Y <| op_skip Y rfl <| op_skip Y rfl <| op_skip Y rfl <| op_skip Y rfl <| op_skip Y rfl <| op_skip Y rfl <| op_skip Y rfl ?_
       refine Zv (p_pick_t Y Y) <| Z0 <| Zn [1, 3, 67] ?_
       refine Zx <| at_then Y <| Zq <| Zg <| Za Y <| Z0 <| Zx <| at_ret <| Zt ?_
       refine nx_end1 rfl results51 Y (by exact ⟨congrArg Value.bool (decide_eq_false (fun h9 : Comp x => by have h91 := h9.tc; have h92 := h9.lh; have h93 := h9.ct; have h94 := h9.fi; have h95 := h9.n; omega)).symm, rfl⟩)
      ·
       refine Yf 4 underlying37 rfl rfl sizeOf3 Y <| Yl isAgg3 Y ?_
       refine Yg (p_gtr Y Y) <| Zv (p_pick_f Y Y) <| Zm Y ?_
       refine ops_split (t := 47) Y rfl (fun b2 => ?_) (fun b2 => ?_)
       ·
        refine op_skip Y rfl <| op_skip Y rfl <| op_skip Y rfl <| Zv (p_pick_t Y Y) <| Zm Y <| op_skip Y rfl <| op_skip Y rfl <| op_skip Y rfl <| op_skip Y rfl <| op_skip Y rfl <| Zv (p_pick_t Y Y) <| Zm Y <| op_skip Y rfl <| op_skip Y rfl <| op_skip Y rfl <| op_skip Y rfl <| op_skip Y rfl <| op_skip Y rfl <| op_skip Y rfl <| Zv (p_pick_t Y Y) <| Z0 <| Zn [1, 3, 67] ?_
        refine Zx <| at_then Y <| Zq <| Zg <| Za Y <| Z0 <| Zx <| at_ret <| Zt ?_
        refine nx_end1 rfl results51 Y (by exact ⟨congrArg Value.bool (decide_eq_false (fun h9 : Comp x => by have h91 := h9.tc; have h92 := h9.lh; have h93 := h9.ct; have h94 := h9.fi; have h95 := h9.n; omega)).symm, rfl⟩)
       ·
        refine Yf 5 underlying37 rfl rfl sizeOf3 Y <| Yl isAgg3 Y ?_
        refine Yg (p_lss Y Y) <| Zv (p_pick_f Y Y) <| Zm Y ?_
        refine ops_split (t := 52) Y rfl (fun b3 => ?_) (fun b3 => ?_)
        ·
         refine op_skip Y rfl <| op_skip Y rfl <| op_skip Y rfl <| op_skip Y rfl <| op_skip Y rfl <| Zv (p_pick_t Y Y) <| Zm Y <| op_skip Y rfl <| op_skip Y rfl <| op_skip Y rfl <| op_skip Y rfl <| op_skip Y rfl <| op_skip Y rfl <| op_skip Y rfl <| Zv (p_pick_t Y Y) <| Z0 <| Zn [1, 3, 67] ?_
         refine Zx <| at_then Y <| Zq <| Zg <| Za Y <| Z0 <| Zx <| at_ret <| Zt ?_
         refine nx_end1 rfl results51 Y (by exact ⟨congrArg Value.bool (decide_eq_false (fun h9 : Comp x => by have h91 := h9.tc; have h92 := h9.lh; have h93 := h9.ct; have h94 := h9.fi; have h95 := h9.n; omega)).symm, rfl⟩)
        ·
         refine Yf 5 underlying37 rfl rfl sizeOf3 Y <| Yl isAgg3 Y ?_
         refine Yf 4 underlying37 rfl rfl sizeOf3 Y <| Yl isAgg3 Y ?_
         refine Yg (p_gtr Y Y) <| Zv (p_pick_f Y Y) <| Zm Y ?_
         refine ops_split (t := 59) Y rfl (fun b4 => ?_) (fun b4 => ?_)
         ·
          refine op_skip Y rfl <| op_skip Y rfl <| op_skip Y rfl <| op_skip Y rfl <| op_skip Y rfl <| op_skip Y rfl <| op_skip Y rfl <| Zv (p_pick_t Y Y) <| Z0 <| Zn [1, 3, 67] ?_
          refine Zx <| at_then Y <| Zq <| Zg <| Za Y <| Z0 <| Zx <| at_ret <| Zt ?_
          refine nx_end1 rfl results51 Y (by exact ⟨congrArg Value.bool (decide_eq_false (fun h9 : Comp x => by have h91 := h9.tc; have h92 := h9.lh; have h93 := h9.ct; have h94 := h9.fi; have h95 := h9.n; omega)).symm, rfl⟩)
         ·
          refine Zf Y Y <| Yf 4 underlying37 rfl rfl sizeOf3 Y <| Yl isAgg3 Y ?_
          refine Yf 5 underlying37 rfl rfl sizeOf3 Y <| Yl isAgg3 Y ?_
          (refine op_wg Y (p_sub Y Y (IntWalk.i64_in _ ?_)) rfl rfl ?_; (focus (omega)))
          refine Yg (p_gtr Y Y) <| Zv (p_pick_f Y Y) <| Z0 <| Zn [1, 3, 67] ?_
          refine Zx ?_
          refine at_if Y (fun b5 => ?_) (fun b5 => ?_)
          ·
           refine Zq <| Zg <| Za Y <| Z0 <| Zx <| at_ret <| Zt ?_
           refine nx_end1 rfl results51 Y (by exact ⟨congrArg Value.bool (decide_eq_false (fun h9 : Comp x => by have h91 := h9.tc; have h92 := h9.lh; have h93 := h9.ct; have h94 := h9.fi; have h95 := h9.n; omega)).symm, rfl⟩)
          ·
           refine at_skip <| Zx <| Zq <| Zq <| Zg <| Zm Y <| Zv (p_eql_nat (n := 0) Y Y) <| Z0 <| Zx ?_
           refine at_if Y (fun hz => ?_) (fun hz => ?_)
           ·
            refine Zq <| Zg <| Zh 4 underlying37 rfl rfl sizeOf3 Y <| Zl isAgg3 Y ?_
            refine Zv (p_eql Y Y) <| Za Y <| Z0 <| Zx <| at_ret <| Zt ?_
            refine nx_end1 rfl results51 Y (by exact ⟨dec_bool ⟨fun h9 => ⟨by omega, by omega, by omega, by omega, by omega, fun _ => h9, fun j r hj => by have := (List.getElem?_eq_some_iff.1 hj).1; omega, fun r hj => by have := (List.getElem?_eq_some_iff.1 hj).1; omega, fun r hj => by have := (List.getElem?_eq_some_iff.1 hj).1; omega⟩, fun h9 => h9.none hz⟩, rfl⟩)
           ·
            refine at_skip <| Zx <| Zq <| Zq <| Zg <| Za Y <| Z0 <| Zx <| at_block <| Zb [4, 1, 3] ?_
            refine at_loopB (e0 := [(4, _)]) (H0 := _) (n := _) (fun m e H => ∃ (i : Nat), m = x.rows.length - i ∧ (i ≤ x.rows.length ∧ ∀ (j : Nat) (r : RowM), j < i → x.rows[j]? = some r → RowFits x j r ∧ (0 < j → ∀ q, x.rows[j - 1]? = some q → After x q r)) ∧ e = [(4, .int .i64 (i : Int))] ∧ H = []) (by exact ⟨0, rfl, ⟨Nat.zero_le _, by intro j r hj; omega⟩, rfl, rfl⟩) (by repeat (first | exact Pull.nil _ | (apply Pull.cons; (focus (repeat (first | exact One.here _ _ | apply One.there)))))) ?_
            rintro _ _ _ ⟨i, rfl, ⟨hi, hall⟩, rfl, rfl⟩
            refine Zq <| Zq <| Zg <| Zm Y <| Zm Y <| Zv (p_lss_nat Y Y) <| Z0 <| Zx ?_
            refine at_if Y (fun hlt => ?_) (fun hlt => ?_)
            ·
             obtain ⟨r, hr⟩ : ∃ r, x.rows[i]? = some r := ⟨_, List.getElem?_eq_getElem hlt⟩
             obtain ⟨g1, off1, cur1, T1, zz1, rfl, hm1, hsz1, hex1⟩ := hg i r hr
             refine at_skip <| Zx <| Zq <| at_block <| Zq <| Zg <| Zh 6 underlying37 rfl rfl sizeOf33 Y <| Zl isAgg33 Y ?_
             refine Zm Y ?_
             (refine op_v (p_indexAddr_nat underlying33 sizeOf74 Y Y ?_) ?_; (focus (first | omega | decide | (simp; done))))
             refine op_rm (cs := [(g1, .cells cur1 T1 zz1)]) (by simp [hm1]) (p_load_agg (cs := #[.int .i64 r.t, .int .i64 r.k, .int .i64 r.v.a, .int .i64 r.v.b, .int .i64 r.v.c]) isAgg74 sizeOf74 Y (by omega) hex1) rfl rfl ?_
             refine Ze (w_alloc zeroValue74 (cs := #[_, _, _, _, _]) rfl) ?_
             rintro _ _ ⟨rb, rfl, rfl⟩
             refine Ze (w_store_agg sizeOf74 Y Y (by (simp [Value.oneCell']; done)) (by repeat (first | exact Upd.here _ | apply Upd.there)) (by exact (rfl : _ = (#[.int .i64 r.t, .int .i64 r.k, .int .i64 r.v.a, .int .i64 r.v.b, .int .i64 r.v.c] : Array Value))) (by first | rfl | (simp; done)) (by first | omega | decide | (simp; done)) (by exact free_zero _)) ?_
             rintro _ _ ⟨rfl, rfl⟩
             refine Z0 <| Zx <| Zq <| Zg <| Zo (by repeat (first | exact Has.here _ | apply Has.there)) (p_load_agg (cs := #[_, _, _, _, _]) isAgg74 sizeOf74 Y (by first | omega | decide | (simp; done)) (by rfl)) ?_
             refine Zh 1 underlying37 rfl rfl sizeOf3 Y <| Zl isAgg3 Y ?_
             refine Zr [_, _] Y call48 Y rfl (r3_valueI r x.cl (by omega)) ?_
             rintro _ _ ⟨rfl, rfl⟩
             refine Za Y <| Z0 <| Zn [1, 3, 4, 5, 6] ?_
             refine Zx <| Zq <| Zg <| Zo (by repeat (first | exact Has.here _ | apply Has.there)) (p_load_agg (cs := #[_, _, _, _, _]) isAgg74 sizeOf74 Y (by first | omega | decide | (simp; done)) (by rfl)) ?_
             refine Zr [_] Y call90 Y rfl (r3_valid r) ?_
             rintro _ _ ⟨rfl, rfl⟩
             refine Za Y <| Z0 <| Zx <| Zq <| Zb [7, 1, 3, 4, 5, 6] ?_
             refine at_cutB (e0 := [(7, _)]) (H0 := []) (fun e H => ∃ (b9 : Bool), (b9 = true ↔ ¬ RowFits x i r) ∧ e = [(119, .bool b9)] ∧ H = []) (by repeat (first | exact Pull.nil _ | (apply Pull.cons; (focus (repeat (first | exact One.here _ _ | apply One.there)))))) ?hx_13 ?hy_13
             case hx_13 =>
              refine Zg <| Zm Y <| Zv (p_not_dec Y) <| Zm Y ?_
              refine ops_split (t := 91) Y rfl (fun c1 => ?_) (fun c1 => ?_)
              ·
               refine op_skip Y rfl <| op_skip Y rfl <| op_skip Y rfl <| op_skip Y rfl <| op_skip Y rfl <| Zv (p_pick_t Y Y) <| Zm Y <| op_skip Y rfl <| op_skip Y rfl <| op_skip Y rfl <| op_skip Y rfl <| op_skip Y rfl <| op_skip Y rfl <| op_skip Y rfl <| op_skip Y rfl <| Zv (p_pick_t Y Y) <| Zm Y <| op_skip Y rfl <| op_skip Y rfl <| op_skip Y rfl <| op_skip Y rfl <| op_skip Y rfl <| op_skip Y rfl <| op_skip Y rfl ?_
               refine op_skip Y rfl <| op_skip Y rfl <| op_skip Y rfl <| Zv (p_pick_t Y Y) <| Z0 <| Zn [119, 1, 3, 4, 5, 6] ?_
               refine nx_cutB (e' := [(119, _)]) (H' := _) (by exact ⟨true, ⟨fun _ h8 => by obtain ⟨h91, h92, h93, h94⟩ := h8; first | omega | contradiction, fun _ => rfl⟩, rfl, rfl⟩)
              ·
               refine Yf 0 underlying74 rfl rfl sizeOf3 Y <| Yl isAgg3 Y ?_
               refine Yf 0 underlying37 rfl rfl sizeOf3 Y <| Yl isAgg3 Y ?_
               refine Yg (p_neq Y Y) <| Zv (p_pick_f Y Y) <| Zm Y ?_
               refine ops_split (t := 98) Y rfl (fun c2 => ?_) (fun c2 => ?_)
               ·
                refine op_skip Y rfl <| op_skip Y rfl <| op_skip Y rfl <| op_skip Y rfl <| op_skip Y rfl <| op_skip Y rfl <| op_skip Y rfl <| op_skip Y rfl <| Zv (p_pick_t Y Y) <| Zm Y <| op_skip Y rfl <| op_skip Y rfl <| op_skip Y rfl <| op_skip Y rfl <| op_skip Y rfl <| op_skip Y rfl <| op_skip Y rfl <| op_skip Y rfl <| op_skip Y rfl <| op_skip Y rfl <| Zv (p_pick_t Y Y) <| Z0 <| Zn [119, 1, 3, 4, 5, 6] ?_
                refine nx_cutB (e' := [(119, _)]) (H' := _) (by exact ⟨true, ⟨fun _ h8 => by obtain ⟨h91, h92, h93, h94⟩ := h8; first | omega | contradiction, fun _ => rfl⟩, rfl, rfl⟩)
               ·
                refine Zf Y Y <| Yf 2 underlying37 rfl rfl sizeOf3 Y <| Yl isAgg3 Y ?_
                refine Yg (p_lss Y Y) <| Zf Y Y ?_
                refine ops_split (t := 103) Y rfl (fun c3 => ?_) (fun c3 => ?_)
                ·
                 refine Zf Y Y <| Yg (p_gtr_nat (n := 0) Y Y) <| Yg (p_pick_t Y Y) <| Zv (p_pick_f Y Y) <| Zm Y ?_
                 refine ops_split (t := 108) Y rfl (fun c4 => ?_) (fun c4 => ?_)
                 ·
                  refine op_skip Y rfl <| op_skip Y rfl <| op_skip Y rfl <| op_skip Y rfl <| op_skip Y rfl <| op_skip Y rfl <| op_skip Y rfl <| op_skip Y rfl <| op_skip Y rfl <| op_skip Y rfl <| Zv (p_pick_t Y Y) <| Z0 <| Zn [119, 1, 3, 4, 5, 6] ?_
                  refine nx_cutB (e' := [(119, _)]) (H' := _) (by exact ⟨true, ⟨fun _ h8 => by obtain ⟨h91, h92, h93, h94⟩ := h8; first | omega | contradiction, fun _ => rfl⟩, rfl, rfl⟩)
                 ·
                  refine Zf Y Y <| Yf 3 underlying37 rfl rfl sizeOf3 Y <| Yl isAgg3 Y ?_
                  refine Yg (p_gtr Y Y) <| Zf Y Y ?_
                  refine ops_split (t := 113) Y rfl (fun c5 => ?_) (fun c5 => ?_)
                  ·
                   refine Zf Y Y <| Zf Y Y ?_
                   (refine op_wg Y (p_sub_nat (n := 1) Y Y ?_ ?_) rfl rfl ?_; (focus (first | omega | (simp; omega))); (focus (first | omega | (simp; omega))))
                   refine Yg (p_lss_nat Y Y) <| Yg (p_pick_t Y Y) <| Zv (p_pick_f Y Y) <| Z0 <| Zn [119, 1, 3, 4, 5, 6] ?_
                   refine nx_cutB (e' := [(119, _)]) (H' := _) (by exact ⟨_, ⟨fun h9 h8 => by have h7 := of_decide_eq_true h9; obtain ⟨h91, h92, h93, h94⟩ := h8; omega, fun h9 => decide_eq_true (Classical.byContradiction fun h7 => h9 ⟨by first | assumption | exact Classical.not_not.1 (by assumption), by omega, fun h => by omega, fun h => by omega⟩)⟩, rfl, rfl⟩)
                  ·
                   refine op_skip Y rfl <| op_skip Y rfl <| op_skip Y rfl <| op_skip Y rfl <| Yg (p_pick_f Y Y) <| Zv (p_pick_f Y Y) <| Z0 <| Zn [119, 1, 3, 4, 5, 6] ?_
                   refine nx_cutB (e' := [(119, _)]) (H' := _) (by exact ⟨false, ⟨fun h => absurd h (by decide), fun h9 => absurd (show RowFits x i r from ⟨by first | assumption | exact Classical.not_not.1 (by assumption), by omega, fun h => by omega, fun h => by omega⟩) h9⟩, rfl, rfl⟩)
                ·
                 refine op_skip Y rfl <| op_skip Y rfl <| Yg (p_pick_f Y Y) <| Zv (p_pick_f Y Y) <| Zm Y <| Zf Y Y <| Yf 3 underlying37 rfl rfl sizeOf3 Y <| Yl isAgg3 Y ?_
                 refine Yg (p_gtr Y Y) <| Zf Y Y ?_
                 refine ops_split (t := 113) Y rfl (fun c5 => ?_) (fun c5 => ?_)
                 ·
                  refine Zf Y Y <| Zf Y Y ?_
                  (refine op_wg Y (p_sub_nat (n := 1) Y Y ?_ ?_) rfl rfl ?_; (focus (first | omega | (simp; omega))); (focus (first | omega | (simp; omega))))
                  refine Yg (p_lss_nat Y Y) <| Yg (p_pick_t Y Y) <| Zv (p_pick_f Y Y) <| Z0 <| Zn [119, 1, 3, 4, 5, 6] ?_
                  refine nx_cutB (e' := [(119, _)]) (H' := _) (by exact ⟨_, ⟨fun h9 h8 => by have h7 := of_decide_eq_true h9; obtain ⟨h91, h92, h93, h94⟩ := h8; omega, fun h9 => decide_eq_true (Classical.byContradiction fun h7 => h9 ⟨by first | assumption | exact Classical.not_not.1 (by assumption), by omega, fun h => by omega, fun h => by omega⟩)⟩, rfl, rfl⟩)
                 ·
                  refine op_skip Y rfl <| op_skip Y rfl <| op_skip Y rfl <| op_skip Y rfl <| Yg (p_pick_f Y Y) <| Zv (p_pick_f Y Y) <| Z0 <| Zn [119, 1, 3, 4, 5, 6] ?_
                  refine nx_cutB (e' := [(119, _)]) (H' := _) (by exact ⟨false, ⟨fun h => absurd h (by decide), fun h9 => absurd (show RowFits x i r from ⟨by first | assumption | exact Classical.not_not.1 (by assumption), by omega, fun h => by omega, fun h => by omega⟩) h9⟩, rfl, rfl⟩)
             case hy_13 =>
              rintro _ _ ⟨b9, hb9, rfl, rfl⟩
              refine at_if_bool Y (fun hb8 => ?_) (fun hb8 => ?_)
              ·
               have hnf : ¬ RowFits x i r := hb9.1 hb8
               refine Zq <| Zg <| Za Y <| Z0 <| Zx <| at_ret <| Zt <| nx_block_ret <| Zt <| Zt <| nx_block_ret <| Zt ?_
               refine nx_end1 rfl results51 Y (by exact ⟨congrArg Value.bool (decide_eq_false (not_fits hr hnf)).symm, rfl⟩)
              ·
               have hfit : RowFits x i r := Classical.byContradiction fun h9 => absurd (hb9.2 h9) (by rw [hb8]; decide)
               refine at_skip <| Zx <| Zq <| Zg <| Zm Y <| Zv (p_gtr_nat (n := 0) Y Y) <| Z0 <| Zx ?_
               refine at_if Y (fun hi0 => ?_) (fun hi0 => ?_)
               ·
                obtain ⟨q, hq⟩ : ∃ q, x.rows[i - 1]? = some q := ⟨_, List.getElem?_eq_getElem (by omega)⟩
                obtain ⟨g2, off2, cur2, T2, zz2, e29, hm2, hsz2, hex2⟩ := hg (i - 1) q hq
                injection e29 with e29
                injection e29 with e291 e292
                subst e291 e292
                have hkq : cur2[off1 + (i - 1) * 5 + 1]? = some (.int .i64 q.k) := by rw [ext_cell hex2 hsz2 1 (by omega)]; rfl
                refine Zq <| at_draw (n := 10) (0 :: 1 :: 0 :: 4 :: 15 :: 31 :: 0 :: 64 :: 255 :: 511 :: []) 256 (by kernel_rfl) (by kernel_rfl) rfl ?_
                refine Zi 1 0 rfl (p_fieldAddr0 (off := 6) underlying37 rfl rfl sizeOf33 Y) <| Zj 3 1 rfl isAgg33 Y ?_
                refine Zi 7 2 rfl (p_move Y) ?_
                (refine lin_v (D' := 15) 3 (p_sub_nat (n := 1) Y Y ?_ ?_) ?_; (focus (first | omega | (simp; omega))); (focus (first | omega | (simp; omega))))
                (refine lin_v (D' := 31) 4 (p_indexAddr_nat underlying33 sizeOf74 Y Y ?_) ?_; (focus (first | omega | decide | (simp; done))))
                refine lin_rm (b := g1) (x := .cells cur2 T2 zz2) (D' := 63) 5 rfl rfl rfl (by simp [hm2]) (p_load_agg (cs := #[.int .i64 q.t, .int .i64 q.k, .int .i64 q.v.a, .int .i64 q.v.b, .int .i64 q.v.c]) isAgg74 sizeOf74 Y (by omega) hex2) ?_
                refine Zi 127 6 rfl (p_fieldAddr0 (off := 1) underlying37 rfl rfl sizeOf3 Y) <| Zj 255 7 rfl isAgg3 Y ?_
                refine Zz (l := [8]) ?_
                refine Zy 255 511 [7, 5, 1] [false, false, false] [] rfl Y rfl rfl rfl rfl (Zu [_, _] Y call48 Y rfl (r3_valueI q x.cl (by omega))) ?hk_22 (fun _ _ h => h.elim) ?hl_22
                case hk_22 =>
                 rintro _ _ ⟨rfl, rfl⟩
                 refine ⟨keep_nil, ?_⟩
                 refine Zi 1023 9 rfl (p_assign Y) <| lin_nil ?_
                 refine Zx <| Zq <| at_draw (n := 20) (0 :: 0 :: 3 :: 7 :: 15 :: 15 :: 63 :: 127 :: 255 :: 511 :: 255 :: 1279 :: 255 :: 4351 :: 15615 :: 31999 :: 64767 :: 131071 :: 262143 :: 524287 :: []) 0 (by kernel_rfl) (by kernel_rfl) rfl ?_
                 refine Zi 1 0 rfl (p_move Y) <| Zi 3 1 rfl (p_move Y) <| Zi 7 2 rfl (p_lss Y Y) <| Zi 15 3 rfl (p_move Y) ?_
                 refine lin_split (t := 134) Y (fun d1 => ?_) (fun d1 => ?_)
                 ·
                  first | rw [decide_eq_true d1] | rw [d1] | skip
                  refine Yk 31 4 rfl <| Yk 63 5 rfl <| Yk 127 6 rfl <| Yk 255 7 rfl <| Yk 511 8 rfl <| Yk 1023 9 rfl <| Yk 2047 10 rfl <| Yk 4095 11 rfl <| Yk 8191 12 rfl <| Yk 16383 13 rfl <| Yk 32767 14 rfl <| Yk 65535 15 rfl <| Yk 131071 16 rfl <| Yk 262143 17 rfl <| Yk 524287 18 rfl <| Zi 1048575 19 rfl (p_pick_t Y Y) <| lin_nil ?_
                  refine Zn [1, 3, 4, 150] ?_
                  refine Zx <| at_then Y <| Zq <| Zg <| Za Y <| Z0 <| Zx <| at_ret <| nx_block_ret <| Zt <| Zt <| nx_block_ret <| Zt ?_
                  refine nx_end1 rfl results51 Y (by exact ⟨congrArg Value.bool (decide_eq_false (fun h9 : Comp x => by have ha := (h9.all i r hr).2 hi0 q hq; unfold After at ha; omega)).symm, rfl⟩)
                 ·
                  first | rw [decide_eq_false d1] | rw [d1] | skip
                  refine lin_wg (D' := 31) 4 Y rfl rfl rfl (p_move Y) ?_
                  refine lin_wg (D' := 63) 5 Y rfl rfl rfl (p_move Y) ?_
                  refine lin_wg (D' := 127) 6 Y rfl rfl rfl (p_eql Y Y) ?_
                  refine lin_wg (D' := 255) 7 Y rfl rfl rfl (p_move Y) ?_
                  refine lin_split (t := 138) Y (fun d2 => ?_) (fun d2 => ?_)
                  ·
                   first | rw [decide_eq_true d2] | rw [d2] | skip
                   refine lin_wg (D' := 511) 8 Y rfl rfl rfl (p_fieldAddr0 (off := 1) underlying74 rfl rfl sizeOf3 Y) ?_
                   refine lin_rg (D' := 1023) 9 Y rfl rfl rfl (by repeat (first | exact Has.here _ | apply Has.there)) (p_load isAgg3 Y (by rfl)) ?_
                   refine lin_wg (D' := 2047) 10 Y rfl rfl rfl (p_fieldAddr0 (off := 6) underlying37 rfl rfl sizeOf33 Y) ?_
                   refine lin_rg (D' := 4095) 11 Y rfl rfl rfl (by repeat (first | exact Has.here _ | apply Has.there)) (p_load isAgg33 Y (by rfl)) ?_
                   refine lin_wg (D' := 8191) 12 Y rfl rfl rfl (p_move Y) ?_
                   (refine lin_wg (D' := 16383) 13 Y rfl rfl rfl (p_sub_nat (n := 1) Y Y ?_ ?_) ?_; (focus (first | omega | (simp; omega))); (focus (first | omega | (simp; omega))))
                   (refine lin_wg (D' := 32767) 14 Y rfl rfl rfl (p_indexAddr_nat underlying33 sizeOf74 Y Y ?_) ?_; (focus (first | omega | decide | (simp; done))))
                   refine lin_wg (D' := 65535) 15 Y rfl rfl rfl (p_fieldAddr1 (off := 1) underlying74 rfl rfl sizeOf3 Y) ?_
                   refine lin_rgm (b := g1) (x := .cells cur2 T2 zz2) (D' := 131071) 16 Y rfl rfl rfl (by simp [hm2]) (p_load isAgg3 Y (by first | exact hkq | simpa using hkq)) ?_
                   refine lin_wg (D' := 262143) 17 Y rfl rfl rfl (p_leq Y Y) ?_
                   refine lin_wg (D' := 524287) 18 Y rfl rfl rfl (p_pick_t Y Y) ?_
                   refine Zi 1048575 19 rfl (p_pick_f Y Y) <| lin_nil ?_
                   refine Zn [1, 3, 4, 150] ?_
                   refine Zx ?_
                   refine at_if Y (fun d3 => ?_) (fun d3 => ?_)
                   ·
                    refine Zq <| Zg <| Za Y <| Z0 <| Zx <| at_ret <| nx_block_ret <| Zt <| Zt <| nx_block_ret <| Zt ?_
                    refine nx_end1 rfl results51 Y (by exact ⟨congrArg Value.bool (decide_eq_false (fun h9 : Comp x => by have ha := (h9.all i r hr).2 hi0 q hq; unfold After at ha; omega)).symm, rfl⟩)
                   ·
                    refine at_skip <| nx_block_normal <| Zx <| Zg <| Zm Y <| Ya (n := 1) Y Y <| Za Y <| Z0 <| Zn [4, 1, 3] ?_
                    refine nx_againB (e' := [(4, _)]) (m := _) (H' := _) (by
                          exact ⟨i + 1, rfl, ⟨by omega, fun j r9 hj hr9 => by
                            rcases Nat.lt_or_ge j i with h9 | h9
                            · exact hall j r9 h9 hr9
                            · obtain rfl : j = i := (by omega)
                              rw [hr] at hr9; injection hr9 with hr9; subst hr9
                              refine ⟨hfit, fun hj0 q9 hq9 => ?_⟩
                              (rw [hq] at hq9; injection hq9 with hq9; subst hq9; unfold After; omega)⟩, rfl, rfl⟩)
                  ·
                   first | rw [decide_eq_false d2] | rw [d2] | skip
                   refine Yk 511 8 rfl <| Yk 1023 9 rfl <| Yk 2047 10 rfl <| Yk 4095 11 rfl <| Yk 8191 12 rfl <| Yk 16383 13 rfl <| Yk 32767 14 rfl <| Yk 65535 15 rfl <| Yk 131071 16 rfl <| Yk 262143 17 rfl <| lin_wg (D' := 524287) 18 Y rfl rfl rfl (p_pick_f Y Y) ?_
                   refine Zi 1048575 19 rfl (p_pick_f Y Y) <| lin_nil ?_
                   refine Zn [1, 3, 4, 150] ?_
                   refine Zx <| at_else Y <| at_skip <| nx_block_normal <| Zx <| Zg <| Zm Y <| Ya (n := 1) Y Y <| Za Y <| Z0 <| Zn [4, 1, 3] ?_
                   refine nx_againB (e' := [(4, _)]) (m := _) (H' := _) (by
                         exact ⟨i + 1, rfl, ⟨by omega, fun j r9 hj hr9 => by
                           rcases Nat.lt_or_ge j i with h9 | h9
                           · exact hall j r9 h9 hr9
                           · obtain rfl : j = i := (by omega)
                             rw [hr] at hr9; injection hr9 with hr9; subst hr9
                             refine ⟨hfit, fun hj0 q9 hq9 => ?_⟩
                             (rw [hq] at hq9; injection hq9 with hq9; subst hq9; unfold After; omega)⟩, rfl, rfl⟩)
                case hl_22 =>
                 exact each_nil
               ·
                refine at_skip <| nx_block_normal <| Zx <| Zg <| Zm Y <| Ya (n := 1) Y Y <| Za Y <| Z0 <| Zn [4, 1, 3] ?_
                refine nx_againB (e' := [(4, _)]) (m := _) (H' := _) (by
                      exact ⟨i + 1, rfl, ⟨by omega, fun j r9 hj hr9 => by
                        rcases Nat.lt_or_ge j i with h9 | h9
                        · exact hall j r9 h9 hr9
                        · obtain rfl : j = i := (by omega)
                          rw [hr] at hr9; injection hr9 with hr9; subst hr9
                          refine ⟨hfit, fun hj0 q9 hq9 => ?_⟩
                          (exfalso; omega)⟩, rfl, rfl⟩)
            ·
             obtain ⟨r0, hr0⟩ : ∃ r, x.rows[0]? = some r := ⟨_, List.getElem?_eq_getElem (by omega)⟩
             obtain ⟨rl, hrl⟩ : ∃ r, x.rows[x.rows.length - 1]? = some r := ⟨_, List.getElem?_eq_getElem (by omega)⟩
             have hcomp : Comp x ↔ (x.fi = 0 ∨ valL r0 x.cl < x.lo) ∧ (x.fi + (x.rows.length : Int) = x.ct ∨ x.hi < valL rl x.cl) := ⟨fun h => ⟨h.first r0 hr0, h.last rl hrl⟩, fun h => ⟨by omega, by omega, by omega, by omega, by omega, fun h0 => absurd h0 hz, fun j r hj => hall j r (by have := (List.getElem?_eq_some_iff.1 hj).1; omega) hj, fun r hj => by rw [hr0] at hj; injection hj with hj; rw [← hj]; exact h.1, fun r hj => by rw [hrl] at hj; injection hj with hj; rw [← hj]; exact h.2⟩⟩
             obtain ⟨g2, off2, cur2, T2, zz2, rfl, hm2, hsz2, hex2⟩ := hg 0 r0 hr0
             obtain ⟨g3, off3, cur3, T3, zz3, e39, hm3, hsz3, hex3⟩ := hg _ rl hrl
             injection e39 with e39
             injection e39 with e391 e392
             subst e391 e392
             refine at_exit <| Zt <| Zt <| nx_block_exit <| Zx <| Zb [1, 3] ?_
             refine at_cutB (e0 := []) (H0 := []) (fun e H => ∃ (b1 : Bool), (b1 = decide (x.fi = 0 ∨ valL r0 x.cl < x.lo)) ∧ e = [(9, .bool b1)] ∧ H = []) (by repeat (first | exact Pull.nil _ | (apply Pull.cons; (focus (repeat (first | exact One.here _ _ | apply One.there)))))) ?hx_28 ?hy_28
             case hx_28 =>
              refine at_draw (n := 16) (0 :: 1 :: 3 :: 7 :: 15 :: 31 :: 63 :: 127 :: 15 :: 271 :: 1023 :: 15 :: 2063 :: 8191 :: 16383 :: 32767 :: []) 1024 (by kernel_rfl) (by kernel_rfl) rfl ?_
              refine Zi 1 0 rfl (p_fieldAddr0 (off := 5) underlying37 rfl rfl sizeOf3 Y) <| Zj 3 1 rfl isAgg3 Y ?_
              refine Zi 7 2 rfl (p_eql Y Y) <| Zi 15 3 rfl (p_move Y) ?_
              refine lin_split (t := 154) Y (fun f1 => ?_) (fun f1 => ?_)
              ·
               first | rw [decide_eq_true f1] | rw [f1] | skip
               refine Yk 31 4 rfl <| Yk 63 5 rfl <| Yk 127 6 rfl <| Yk 255 7 rfl <| Yk 511 8 rfl <| Yk 1023 9 rfl <| Yk 2047 10 rfl <| Yk 4095 11 rfl <| Yk 8191 12 rfl <| Yk 16383 13 rfl <| Zi 32767 14 rfl (p_pick_t Y Y) <| Zi 65535 15 rfl (p_assign Y) <| lin_nil ?_
               refine Zn [9, 1, 3] ?_
               refine nx_cutB (e' := [(9, _)]) (H' := _) (by exact ⟨_, by exact (decide_eq_true (.inl (by assumption))).symm, rfl, rfl⟩)
              ·
               first | rw [decide_eq_false f1] | rw [f1] | skip
               refine lin_wg (D' := 31) 4 Y rfl rfl rfl (p_fieldAddr0 (off := 6) underlying37 rfl rfl sizeOf33 Y) ?_
               refine lin_rg (D' := 63) 5 Y rfl rfl rfl (by repeat (first | exact Has.here _ | apply Has.there)) (p_load isAgg33 Y (by rfl)) ?_
               (refine lin_wg (D' := 127) 6 Y rfl rfl rfl (p_indexAddr_nat (j := 0) underlying33 sizeOf74 Y Y ?_) ?_; (focus (first | omega | decide | (simp; done))))
               refine lin_rgm (b := g2) (x := .cells cur2 T2 zz2) (D' := 255) 7 Y rfl rfl rfl (by simp [hm2]) (p_load_agg (cs := #[.int .i64 r0.t, .int .i64 r0.k, .int .i64 r0.v.a, .int .i64 r0.v.b, .int .i64 r0.v.c]) isAgg74 sizeOf74 Y (by omega) hex2) ?_
               refine lin_wg (D' := 511) 8 Y rfl rfl rfl (p_fieldAddr0 (off := 1) underlying37 rfl rfl sizeOf3 Y) ?_
               refine lin_rg (D' := 1023) 9 Y rfl rfl rfl (by repeat (first | exact Has.here _ | apply Has.there)) (p_load isAgg3 Y (by rfl)) ?_
               refine lin_wg (D' := 3071) 11 Y rfl rfl rfl (p_fieldAddr0 (off := 2) underlying37 rfl rfl sizeOf3 Y) ?_
               refine lin_rg (D' := 7167) 12 Y rfl rfl rfl (by repeat (first | exact Has.here _ | apply Has.there)) (p_load isAgg3 Y (by rfl)) ?_
               refine Zz (l := [10]) ?_
               refine Zy 1023 8191 [12, 9, 7, 5, 1] [true, false, false, false, false] [(12, (_, _))] rfl Y rfl rfl rfl rfl (Zu [_, _] Y call48 Y rfl (r3_valueI r0 x.cl (by omega))) ?hk_30 (fun _ _ h => h.elim) ?hl_30
               case hk_30 =>
                rintro _ _ ⟨rfl, rfl⟩
                refine ⟨Zk (keep_nil), ?_⟩
                refine lin_wg (D' := 16383) 13 Y rfl rfl rfl (p_lss Y Y) ?_
                refine Zi 32767 14 rfl (p_pick_f Y Y) <| Zi 65535 15 rfl (p_assign Y) <| lin_nil ?_
                refine Zn [9, 1, 3] ?_
                refine nx_cutB (e' := [(9, _)]) (H' := _) (by exact ⟨_, by exact decide_eq_decide.2 (by omega), rfl, rfl⟩)
               case hl_30 =>
                exact each_nil
             case hy_28 =>
              rintro _ _ ⟨b1, hb1, rfl, rfl⟩
              refine Zb [1, 3, 9] ?_
              refine at_cutB (e0 := [(1, _), (3, _)]) (H0 := []) (fun e H => ∃ (b2 : Bool), (b2 = decide (x.fi + (x.rows.length : Int) = x.ct ∨ x.hi < valL rl x.cl)) ∧ e = [(10, .bool b2)] ∧ H = []) (by repeat (first | exact Pull.nil _ | (apply Pull.cons; (focus (repeat (first | exact One.here _ _ | apply One.there)))))) ?hx_32 ?hy_32
              case hx_32 =>
               refine at_draw (n := 22) (0 :: 1 :: 0 :: 7 :: 0 :: 16 :: 63 :: 127 :: 255 :: 511 :: 255 :: 1279 :: 4095 :: 8191 :: 255 :: 16639 :: 65535 :: 255 :: 131327 :: 524287 :: 1048575 :: 2097151 :: []) 65536 (by kernel_rfl) (by kernel_rfl) rfl ?_
               refine Zi 1 0 rfl (p_fieldAddr0 (off := 5) underlying37 rfl rfl sizeOf3 Y) <| Zj 3 1 rfl isAgg3 Y ?_
               refine Zi 7 2 rfl (p_move Y) ?_
               (refine lin_v (D' := 15) 3 (p_add Y Y (IntWalk.i64_in _ ?_)) ?_; (focus (first | omega | (simp; omega))))
               refine Zi 31 4 rfl (p_fieldAddr0 (off := 4) underlying37 rfl rfl sizeOf3 Y) <| Zj 63 5 rfl isAgg3 Y ?_
               refine Zi 127 6 rfl (p_eql Y Y) <| Zi 255 7 rfl (p_move Y) ?_
               refine lin_split (t := 173) Y (fun f2 => ?_) (fun f2 => ?_)
               ·
                first | rw [decide_eq_true f2] | rw [f2] | skip
                refine Yk 511 8 rfl <| Yk 1023 9 rfl <| Yk 2047 10 rfl <| Yk 4095 11 rfl <| Yk 8191 12 rfl <| Yk 16383 13 rfl <| Yk 32767 14 rfl <| Yk 65535 15 rfl <| Yk 131071 16 rfl <| Yk 262143 17 rfl <| Yk 524287 18 rfl <| Yk 1048575 19 rfl <| Zi 2097151 20 rfl (p_pick_t Y Y) <| Zi 4194303 21 rfl (p_assign Y) <| lin_nil ?_
                refine Zn [10, 9] ?_
                refine nx_cutB (e' := [(10, _)]) (H' := _) (by exact ⟨_, by exact (decide_eq_true (.inl (by assumption))).symm, rfl, rfl⟩)
               ·
                first | rw [decide_eq_false f2] | rw [f2] | skip
                refine lin_wg (D' := 511) 8 Y rfl rfl rfl (p_fieldAddr0 (off := 6) underlying37 rfl rfl sizeOf33 Y) ?_
                refine lin_rg (D' := 1023) 9 Y rfl rfl rfl (by repeat (first | exact Has.here _ | apply Has.there)) (p_load isAgg33 Y (by rfl)) ?_
                refine lin_wg (D' := 2047) 10 Y rfl rfl rfl (p_move Y) ?_
                (refine lin_wg (D' := 4095) 11 Y rfl rfl rfl (p_sub_nat (n := 1) Y Y ?_ ?_) ?_; (focus (first | omega | (simp; omega))); (focus (first | omega | (simp; omega))))
                (refine lin_wg (D' := 8191) 12 Y rfl rfl rfl (p_indexAddr_nat underlying33 sizeOf74 Y Y ?_) ?_; (focus (first | omega | decide | (simp; done))))
                refine lin_rgm (b := g2) (x := .cells cur3 T3 zz3) (D' := 16383) 13 Y rfl rfl rfl (by simp [hm3]) (p_load_agg (cs := #[.int .i64 rl.t, .int .i64 rl.k, .int .i64 rl.v.a, .int .i64 rl.v.b, .int .i64 rl.v.c]) isAgg74 sizeOf74 Y (by omega) hex3) ?_
                refine lin_wg (D' := 32767) 14 Y rfl rfl rfl (p_fieldAddr0 (off := 1) underlying37 rfl rfl sizeOf3 Y) ?_
                refine lin_rg (D' := 65535) 15 Y rfl rfl rfl (by repeat (first | exact Has.here _ | apply Has.there)) (p_load isAgg3 Y (by rfl)) ?_
                refine lin_wg (D' := 196607) 17 Y rfl rfl rfl (p_fieldAddr0 (off := 3) underlying37 rfl rfl sizeOf3 Y) ?_
                refine lin_rg (D' := 458751) 18 Y rfl rfl rfl (by repeat (first | exact Has.here _ | apply Has.there)) (p_load isAgg3 Y (by rfl)) ?_
                refine Zz (l := [16]) ?_
                refine Zy 65535 524287 [18, 15, 13, 9, 5, 1] [true, false, false, false, false, false] [(18, (_, _))] rfl Y rfl rfl rfl rfl (Zu [_, _] Y call48 Y rfl (r3_valueI rl x.cl (by omega))) ?hk_34 (fun _ _ h => h.elim) ?hl_34
                case hk_34 =>
                 rintro _ _ ⟨rfl, rfl⟩
                 refine ⟨Zk (keep_nil), ?_⟩
                 refine lin_wg (D' := 1048575) 19 Y rfl rfl rfl (p_gtr Y Y) ?_
                 refine Zi 2097151 20 rfl (p_pick_f Y Y) <| Zi 4194303 21 rfl (p_assign Y) <| lin_nil ?_
                 refine Zn [10, 9] ?_
                 refine nx_cutB (e' := [(10, _)]) (H' := _) (by exact ⟨_, by exact decide_eq_decide.2 (by omega), rfl, rfl⟩)
                case hl_34 =>
                 exact each_nil
              case hy_32 =>
               rintro _ _ ⟨b2, hb2, rfl, rfl⟩
               refine Zq <| Zg <| Zm Y <| Zm Y ?_
               refine ops_split_bool (t := 188) Y rfl (fun f3 => ?_) (fun f3 => ?_)
               ·
                refine Zf Y Y <| Zv (p_pick_t Y Y) <| Za Y <| Z0 <| Zx <| at_ret ?_
                refine nx_end1 rfl results51 Y (by exact ⟨by exact congrArg Value.bool (by rw [hb2]; exact decide_eq_decide.2 ⟨fun h => hcomp.2 ⟨of_decide_eq_true (hb1.symm.trans f3), h⟩, fun h => (hcomp.1 h).2⟩), rfl⟩)
               ·
                refine op_skip Y rfl <| Zv (p_pick_f Y Y) <| Za Y <| Z0 <| Zx <| at_ret ?_
                refine nx_end1 rfl results51 Y (by exact ⟨by exact congrArg Value.bool (decide_eq_false (fun h9 => by have h8 := (hcomp.1 h9).1; rw [decide_eq_true h8] at hb1; rw [hb1] at f3; simp at f3)).symm, rfl⟩)

end Go.Proofs.YtjeepldonhgohaaGreatDoor
