/- The patches of least and greatest values; the patch of a kind. -/
import Derived.Test.YtkgmgmkbgnkdnaaGreatDoorEz
import Derived.Test.YtkgmgmkbgnkdnaaGreatDoorPr3
namespace Go.Proofs.YtkgmgmkbgnkdnaaGreatDoor
open Go.Proofs.Tryz
open Go Go.RowKit Gw
set_option linter.unusedVariables false
set_option linter.unusedSimpArgs false
set_option maxRecDepth 100000
attribute [local irreducible] Gw.At Gw.Nx Gw.Ops
set_option maxHeartbeats 1000000 in
theorem pext_spec (q : QM) (c : Chg) (p1 p2 : Option Addr) (o n : Int) (r : ResM) (pv : Option Addr) (kv cv b fid : Nat) (lt : Int → Int → Bool) (hcf : ∀ (args : Array Value) (w : World), (callFunc fid args).run Tryz.prog w = .ok (.enter fid args) w) (hlt : ∀ x y : Int, DoesR Tryz.prog fid #[.int .i64 x, .int .i64 y] [] (.bool (lt x y))) : DoesR Tryz.prog 117 #[.agg #[.int .i64 q.kd, .int .i64 q.tb, .int .i64 q.cl, .int .i64 q.lo, .int .i64 q.hi, .int .i64 q.bq, .int .i64 q.ot, .int .i64 c.t, .int .i64 c.k, .bool c.had, .int .i64 c.o.a, .int .i64 c.o.b, .int .i64 c.o.c, .bool c.has, .int .i64 c.n.a, .int .i64 c.n.b, .int .i64 c.n.c, .pointer p1, .pointer p2, .int .i64 o, .int .i64 n], .agg #[.slice pv kv cv, .int .i64 r.val, .bool r.fnd], .pointer (some ⟨b, 0, none⟩)] [[(b, .cells #[.func (.func fid) #[] #[]] 128 (0, 0))]] (.tuple #[.agg #[.slice pv kv cv, .int .i64 (extP lt p1.isSome p2.isSome o n r).1.val, .bool (extP lt p1.isSome p2.isSome o n r).1.fnd], .bool (extP lt p1.isSome p2.isSome o n r).2]) := by
 refine spec_enter func117 rfl ntmps117 rfl ?_
 intro u R
 refine Zb [0, 1, 2] ?_
 refine Zq <| Zg <| Ze (w_box Y (cs := #[.int .i64 q.kd, .int .i64 q.tb, .int .i64 q.cl, .int .i64 q.lo, .int .i64 q.hi, .int .i64 q.bq, .int .i64 q.ot, .int .i64 c.t, .int .i64 c.k, .bool c.had, .int .i64 c.o.a, .int .i64 c.o.b, .int .i64 c.o.c, .bool c.has, .int .i64 c.n.a, .int .i64 c.n.b, .int .i64 c.n.c, .pointer p1, .pointer p2, .int .i64 o, .int .i64 n]) (cells_e q c p1 p2 o n)) ?_
 rintro _ _ ⟨be, rfl, rfl⟩
 refine Ze (w_box Y (cs := #[.slice pv kv cv, .int .i64 r.val, .bool r.fnd]) (by simp [Value.cells])) ?_
 rintro _ _ ⟨br, rfl, rfl⟩
 refine Ze (w_alloc zeroValue40 (cs := #[_, _, _]) rfl) ?_
 rintro _ _ ⟨b3, rfl, rfl⟩
 refine Za Y <| Z0 <| Zx <| Zq <| Zq <| Zg <| Zh 17 underlying114 rfl rfl sizeOf112 Y <| Zl isAgg112 Y ?_
 refine Zv (p_neq_ptrO underlying112 Y Y) <| Zm Y ?_
 refine ops_split_bool (t := 11) Y rfl (fun h1 => ?_) (fun h1 => ?_)
 ·
  refine Yf 2 underlying40 rfl rfl sizeOf4 Y <| Yl isAgg4 Y ?_
  refine Yg (p_not Y) <| Zf Y Y ?_
  refine ops_split_bool (t := 15) Y rfl (fun h2 => ?_) (fun h2 => ?_)
  ·
   refine op_skip Y rfl <| op_skip Y rfl <| op_skip Y rfl <| op_skip Y rfl <| op_skip Y rfl <| op_skip Y rfl <| op_skip Y rfl <| Yg (p_pick_t Y Y) <| Zv (p_pick_t Y Y) <| Z0 <| Zn [2, 3, 4, 5, 24] ?_
   refine Zx <| at_then Y <| Zq <| Zg <| Zh 18 underlying114 rfl rfl sizeOf112 Y <| Zl isAgg112 Y ?_
   refine Zv (p_neq_ptrO underlying112 Y Y) <| Zm Y ?_
   refine ops_split_bool (t := 28) Y rfl (fun h4 => ?_) (fun h4 => ?_)
   ·
    refine Yf 2 underlying40 rfl rfl sizeOf4 Y <| Yl isAgg4 Y ?_
    refine Zv (p_pick_t Y Y) <| Zm Y ?_
    refine ops_split_bool (t := 32) Y rfl (fun h5 => ?_) (fun h5 => ?_)
    ·
     refine Yl isAgg128 Y ?_
     refine Yf 1 underlying40 rfl rfl sizeOf3 Y <| Yl isAgg3 Y ?_
     refine Yf 20 underlying114 rfl rfl sizeOf3 Y <| Yl isAgg3 Y ?_
     refine Xr [_, _] Y (hcf) Y rfl (hlt (r.val) (n)) ?_
     refine Yg (p_not Y) <| Zv (p_pick_t Y Y) <| Za Y <| Z0 <| Zn [3, 4, 5, 7] ?_
     refine Zx <| Zq <| Zg <| Zh 20 underlying114 rfl rfl sizeOf3 Y <| Zl isAgg3 Y ?_
     refine Zh 1 underlying40 rfl rfl sizeOf3 Y <| Xe (Zs sizeOf3 Y Y rfl (hi := by first | omega | decide | (simp; done))) ?_
     refine Z0 <| Zx <| Zq <| Zg <| Zo Wh (p_load_agg (cs := #[_, _, _]) isAgg40 sizeOf40 Y Wb (by rfl)) ?_
     refine Zm Y <| Xe (w_store_agg sizeOf40 Y Y (by (simp [Value.oneCell']; done)) Wu (by rfl) (by first | rfl | (simp; done)) Wb (by exact free_zero _)) ?_
     refine Za Y <| Z0 <| Zx <| at_ret <| Zt ?_
     refine nx_endct rfl results117 Y Wh (loadVar_agg isAgg40 sizeOf40 Wn (rfl)) Y (by
           refine ⟨?_, rfl⟩
           unfold extP
           simp_all <;> rfl)
    refine op_skip Y rfl <| op_skip Y rfl <| op_skip Y rfl <| op_skip Y rfl <| op_skip Y rfl <| op_skip Y rfl <| op_skip Y rfl <| Zv (p_pick_f Y Y) <| Za Y <| Z0 <| Zn [3, 4, 5, 7] ?_
    refine Zx <| Zq <| Zg <| Zh 20 underlying114 rfl rfl sizeOf3 Y <| Zl isAgg3 Y ?_
    refine Zh 1 underlying40 rfl rfl sizeOf3 Y <| Xe (Zs sizeOf3 Y Y rfl (hi := by first | omega | decide | (simp; done))) ?_
    refine Z0 <| Zx <| Zq <| Zg <| Zo Wh (p_load_agg (cs := #[_, _, _]) isAgg40 sizeOf40 Y Wb (by rfl)) ?_
    refine Zm Y <| Xe (w_store_agg sizeOf40 Y Y (by (simp [Value.oneCell']; done)) Wu (by rfl) (by first | rfl | (simp; done)) Wb (by exact free_zero _)) ?_
    refine Za Y <| Z0 <| Zx <| at_ret <| Zt ?_
    refine nx_endct rfl results117 Y Wh (loadVar_agg isAgg40 sizeOf40 Wn (rfl)) Y (by
          refine ⟨?_, rfl⟩
          unfold extP
          simp_all <;> rfl)
   refine op_skip Y rfl <| op_skip Y rfl <| Zv (p_pick_f Y Y) <| Zm Y <| op_skip Y rfl <| op_skip Y rfl <| op_skip Y rfl <| op_skip Y rfl <| op_skip Y rfl <| op_skip Y rfl <| op_skip Y rfl <| Zv (p_pick_f Y Y) <| Za Y <| Z0 <| Zn [3, 4, 5, 7] ?_
   refine Zx <| Zq <| Zg <| Zh 20 underlying114 rfl rfl sizeOf3 Y <| Zl isAgg3 Y ?_
   refine Zh 1 underlying40 rfl rfl sizeOf3 Y <| Xe (Zs sizeOf3 Y Y rfl (hi := by first | omega | decide | (simp; done))) ?_
   refine Z0 <| Zx <| Zq <| Zg <| Zo Wh (p_load_agg (cs := #[_, _, _]) isAgg40 sizeOf40 Y Wb (by rfl)) ?_
   refine Zm Y <| Xe (w_store_agg sizeOf40 Y Y (by (simp [Value.oneCell']; done)) Wu (by rfl) (by first | rfl | (simp; done)) Wb (by exact free_zero _)) ?_
   refine Za Y <| Z0 <| Zx <| at_ret <| Zt ?_
   refine nx_endct rfl results117 Y Wh (loadVar_agg isAgg40 sizeOf40 Wn (rfl)) Y (by
         refine ⟨?_, rfl⟩
         unfold extP
         simp_all <;> rfl)
  refine Yl isAgg128 Y ?_
  refine Yf 1 underlying40 rfl rfl sizeOf3 Y <| Yl isAgg3 Y ?_
  refine Yf 19 underlying114 rfl rfl sizeOf3 Y <| Yl isAgg3 Y ?_
  refine Xr [_, _] Y (hcf) Y rfl (hlt (r.val) (o)) ?_
  refine Yg (p_not Y) <| Yg (p_pick_f Y Y) <| Zv (p_pick_t Y Y) <| Z0 <| Zn [2, 3, 4, 5, 24] ?_
  refine Zx ?_
  refine at_if_bool Y (fun h3 => ?_) (fun h3 => ?_)
  ·
   refine Zq <| Zg <| Zh 18 underlying114 rfl rfl sizeOf112 Y <| Zl isAgg112 Y ?_
   refine Zv (p_neq_ptrO underlying112 Y Y) <| Zm Y ?_
   refine ops_split_bool (t := 28) Y rfl (fun h5 => ?_) (fun h5 => ?_)
   ·
    refine Yf 2 underlying40 rfl rfl sizeOf4 Y <| Yl isAgg4 Y ?_
    refine Zv (p_pick_t Y Y) <| Zm Y ?_
    refine ops_split_bool (t := 32) Y rfl (fun h5 => ?_) (fun h5 => ?_)
    ·
     refine Yl isAgg128 Y ?_
     refine Yf 1 underlying40 rfl rfl sizeOf3 Y <| Yl isAgg3 Y ?_
     refine Yf 20 underlying114 rfl rfl sizeOf3 Y <| Yl isAgg3 Y ?_
     refine Xr [_, _] Y (hcf) Y rfl (hlt (r.val) (n)) ?_
     refine Yg (p_not Y) <| Zv (p_pick_t Y Y) <| Za Y <| Z0 <| Zn [3, 4, 5, 7] ?_
     refine Zx <| Zq <| Zg <| Zh 20 underlying114 rfl rfl sizeOf3 Y <| Zl isAgg3 Y ?_
     refine Zh 1 underlying40 rfl rfl sizeOf3 Y <| Xe (Zs sizeOf3 Y Y rfl (hi := by first | omega | decide | (simp; done))) ?_
     refine Z0 <| Zx <| Zq <| Zg <| Zo Wh (p_load_agg (cs := #[_, _, _]) isAgg40 sizeOf40 Y Wb (by rfl)) ?_
     refine Zm Y <| Xe (w_store_agg sizeOf40 Y Y (by (simp [Value.oneCell']; done)) Wu (by rfl) (by first | rfl | (simp; done)) Wb (by exact free_zero _)) ?_
     refine Za Y <| Z0 <| Zx <| at_ret <| Zt ?_
     refine nx_endct rfl results117 Y Wh (loadVar_agg isAgg40 sizeOf40 Wn (rfl)) Y (by
           refine ⟨?_, rfl⟩
           unfold extP
           simp_all <;> rfl)
    refine op_skip Y rfl <| op_skip Y rfl <| op_skip Y rfl <| op_skip Y rfl <| op_skip Y rfl <| op_skip Y rfl <| op_skip Y rfl <| Zv (p_pick_f Y Y) <| Za Y <| Z0 <| Zn [3, 4, 5, 7] ?_
    refine Zx <| Zq <| Zg <| Zh 20 underlying114 rfl rfl sizeOf3 Y <| Zl isAgg3 Y ?_
    refine Zh 1 underlying40 rfl rfl sizeOf3 Y <| Xe (Zs sizeOf3 Y Y rfl (hi := by first | omega | decide | (simp; done))) ?_
    refine Z0 <| Zx <| Zq <| Zg <| Zo Wh (p_load_agg (cs := #[_, _, _]) isAgg40 sizeOf40 Y Wb (by rfl)) ?_
    refine Zm Y <| Xe (w_store_agg sizeOf40 Y Y (by (simp [Value.oneCell']; done)) Wu (by rfl) (by first | rfl | (simp; done)) Wb (by exact free_zero _)) ?_
    refine Za Y <| Z0 <| Zx <| at_ret <| Zt ?_
    refine nx_endct rfl results117 Y Wh (loadVar_agg isAgg40 sizeOf40 Wn (rfl)) Y (by
          refine ⟨?_, rfl⟩
          unfold extP
          simp_all <;> rfl)
   refine op_skip Y rfl <| op_skip Y rfl <| Zv (p_pick_f Y Y) <| Zm Y <| op_skip Y rfl <| op_skip Y rfl <| op_skip Y rfl <| op_skip Y rfl <| op_skip Y rfl <| op_skip Y rfl <| op_skip Y rfl <| Zv (p_pick_f Y Y) <| Za Y <| Z0 <| Zn [3, 4, 5, 7] ?_
   refine Zx <| Zq <| Zg <| Zh 20 underlying114 rfl rfl sizeOf3 Y <| Zl isAgg3 Y ?_
   refine Zh 1 underlying40 rfl rfl sizeOf3 Y <| Xe (Zs sizeOf3 Y Y rfl (hi := by first | omega | decide | (simp; done))) ?_
   refine Z0 <| Zx <| Zq <| Zg <| Zo Wh (p_load_agg (cs := #[_, _, _]) isAgg40 sizeOf40 Y Wb (by rfl)) ?_
   refine Zm Y <| Xe (w_store_agg sizeOf40 Y Y (by (simp [Value.oneCell']; done)) Wu (by rfl) (by first | rfl | (simp; done)) Wb (by exact free_zero _)) ?_
   refine Za Y <| Z0 <| Zx <| at_ret <| Zt ?_
   refine nx_endct rfl results117 Y Wh (loadVar_agg isAgg40 sizeOf40 Wn (rfl)) Y (by
         refine ⟨?_, rfl⟩
         unfold extP
         simp_all <;> rfl)
  refine at_skip <| Zx <| Zq <| Zq <| Zg <| Zh 18 underlying114 rfl rfl sizeOf112 Y <| Zl isAgg112 Y ?_
  refine Zv (p_neq_ptrO underlying112 Y Y) <| Z0 <| Zx ?_
  refine at_if_bool Y (fun h6 => ?_) (fun h6 => ?_)
  ·
   refine Zq <| Zq <| Zg <| Zh 2 underlying40 rfl rfl sizeOf4 Y <| Zl isAgg4 Y ?_
   refine Zv (p_not Y) <| Zm Y ?_
   refine ops_split_bool (t := 52) Y rfl (fun h7 => ?_) (fun h7 => ?_)
   ·
    refine op_skip Y rfl <| op_skip Y rfl <| op_skip Y rfl <| op_skip Y rfl <| op_skip Y rfl <| op_skip Y rfl <| Zv (p_pick_t Y Y) <| Z0 <| Zn [3, 4, 5, 59] ?_
    refine Zx <| at_then Y <| Zg <| Zh 20 underlying114 rfl rfl sizeOf3 Y <| Zl isAgg3 Y ?_
    refine Zh 1 underlying40 rfl rfl sizeOf3 Y <| Xe (Zs sizeOf3 Y Y rfl (hi := by first | omega | decide | (simp; done))) ?_
    refine Z0 <| Zx <| Zg <| Zh 2 underlying40 rfl rfl sizeOf4 Y <| Xe (Zs sizeOf4 Y Y rfl (hi := by first | omega | decide | (simp; done))) ?_
    refine Z0 <| Zx <| Zq <| Zg <| Zo Wh (p_load_agg (cs := #[_, _, _]) isAgg40 sizeOf40 Y Wb (by rfl)) ?_
    refine Xe (w_store_agg sizeOf40 Y Y (by (simp [Value.oneCell']; done)) Wu (by rfl) (by first | rfl | (simp; done)) Wb (by exact free_zero _)) ?_
    refine Za Y <| Z0 <| Zx <| at_ret ?_
    refine nx_endct rfl results117 Y Wh (loadVar_agg isAgg40 sizeOf40 Wn (rfl)) Y (by
          refine ⟨?_, rfl⟩
          unfold extP
          simp_all <;> rfl)
   refine Yl isAgg128 Y ?_
   refine Yf 20 underlying114 rfl rfl sizeOf3 Y <| Yl isAgg3 Y ?_
   refine Yf 1 underlying40 rfl rfl sizeOf3 Y <| Yl isAgg3 Y ?_
   refine Xr [_, _] Y (hcf) Y rfl (hlt (n) (r.val)) ?_
   refine Zv (p_pick_f Y Y) <| Z0 <| Zn [3, 4, 5, 59] ?_
   refine Zx ?_
   refine at_if_bool Y (fun h8 => ?_) (fun h8 => ?_)
   ·
    refine Zg <| Zh 20 underlying114 rfl rfl sizeOf3 Y <| Zl isAgg3 Y ?_
    refine Zh 1 underlying40 rfl rfl sizeOf3 Y <| Xe (Zs sizeOf3 Y Y rfl (hi := by first | omega | decide | (simp; done))) ?_
    refine Z0 <| Zx <| Zg <| Zh 2 underlying40 rfl rfl sizeOf4 Y <| Xe (Zs sizeOf4 Y Y rfl (hi := by first | omega | decide | (simp; done))) ?_
    refine Z0 <| Zx <| Zq <| Zg <| Zo Wh (p_load_agg (cs := #[_, _, _]) isAgg40 sizeOf40 Y Wb (by rfl)) ?_
    refine Xe (w_store_agg sizeOf40 Y Y (by (simp [Value.oneCell']; done)) Wu (by rfl) (by first | rfl | (simp; done)) Wb (by exact free_zero _)) ?_
    refine Za Y <| Z0 <| Zx <| at_ret ?_
    refine nx_endct rfl results117 Y Wh (loadVar_agg isAgg40 sizeOf40 Wn (rfl)) Y (by
          refine ⟨?_, rfl⟩
          unfold extP
          simp_all <;> rfl)
   refine at_skip <| Zx <| Zg <| Zh 2 underlying40 rfl rfl sizeOf4 Y <| Xe (Zs sizeOf4 Y Y rfl (hi := by first | omega | decide | (simp; done))) ?_
   refine Z0 <| Zx <| Zq <| Zg <| Zo Wh (p_load_agg (cs := #[_, _, _]) isAgg40 sizeOf40 Y Wb (by rfl)) ?_
   refine Xe (w_store_agg sizeOf40 Y Y (by (simp [Value.oneCell']; done)) Wu (by rfl) (by first | rfl | (simp; done)) Wb (by exact free_zero _)) ?_
   refine Za Y <| Z0 <| Zx <| at_ret ?_
   refine nx_endct rfl results117 Y Wh (loadVar_agg isAgg40 sizeOf40 Wn (rfl)) Y (by
         refine ⟨?_, rfl⟩
         unfold extP
         simp_all <;> rfl)
  refine at_skip <| Zx <| Zq <| Zg <| Zo Wh (p_load_agg (cs := #[_, _, _]) isAgg40 sizeOf40 Y Wb (by rfl)) ?_
  refine Xe (w_store_agg sizeOf40 Y Y (by (simp [Value.oneCell']; done)) Wu (by rfl) (by first | rfl | (simp; done)) Wb (by exact free_zero _)) ?_
  refine Za Y <| Z0 <| Zx <| at_ret ?_
  refine nx_endct rfl results117 Y Wh (loadVar_agg isAgg40 sizeOf40 Wn (rfl)) Y (by
        refine ⟨?_, rfl⟩
        unfold extP
        simp_all <;> rfl)
 refine op_skip Y rfl <| op_skip Y rfl <| op_skip Y rfl <| op_skip Y rfl <| op_skip Y rfl <| op_skip Y rfl <| op_skip Y rfl <| op_skip Y rfl <| op_skip Y rfl <| op_skip Y rfl <| op_skip Y rfl <| op_skip Y rfl <| Zv (p_pick_f Y Y) <| Z0 <| Zn [2, 3, 4, 5, 24] ?_
 refine Zx <| at_else Y <| at_skip <| Zx <| Zq <| Zq <| Zg <| Zh 18 underlying114 rfl rfl sizeOf112 Y <| Zl isAgg112 Y ?_
 refine Zv (p_neq_ptrO underlying112 Y Y) <| Z0 <| Zx ?_
 refine at_if_bool Y (fun h6 => ?_) (fun h6 => ?_)
 ·
  refine Zq <| Zq <| Zg <| Zh 2 underlying40 rfl rfl sizeOf4 Y <| Zl isAgg4 Y ?_
  refine Zv (p_not Y) <| Zm Y ?_
  refine ops_split_bool (t := 52) Y rfl (fun h7 => ?_) (fun h7 => ?_)
  ·
   refine op_skip Y rfl <| op_skip Y rfl <| op_skip Y rfl <| op_skip Y rfl <| op_skip Y rfl <| op_skip Y rfl <| Zv (p_pick_t Y Y) <| Z0 <| Zn [3, 4, 5, 59] ?_
   refine Zx <| at_then Y <| Zg <| Zh 20 underlying114 rfl rfl sizeOf3 Y <| Zl isAgg3 Y ?_
   refine Zh 1 underlying40 rfl rfl sizeOf3 Y <| Xe (Zs sizeOf3 Y Y rfl (hi := by first | omega | decide | (simp; done))) ?_
   refine Z0 <| Zx <| Zg <| Zh 2 underlying40 rfl rfl sizeOf4 Y <| Xe (Zs sizeOf4 Y Y rfl (hi := by first | omega | decide | (simp; done))) ?_
   refine Z0 <| Zx <| Zq <| Zg <| Zo Wh (p_load_agg (cs := #[_, _, _]) isAgg40 sizeOf40 Y Wb (by rfl)) ?_
   refine Xe (w_store_agg sizeOf40 Y Y (by (simp [Value.oneCell']; done)) Wu (by rfl) (by first | rfl | (simp; done)) Wb (by exact free_zero _)) ?_
   refine Za Y <| Z0 <| Zx <| at_ret ?_
   refine nx_endct rfl results117 Y Wh (loadVar_agg isAgg40 sizeOf40 Wn (rfl)) Y (by
         refine ⟨?_, rfl⟩
         unfold extP
         simp_all <;> rfl)
  refine Yl isAgg128 Y ?_
  refine Yf 20 underlying114 rfl rfl sizeOf3 Y <| Yl isAgg3 Y ?_
  refine Yf 1 underlying40 rfl rfl sizeOf3 Y <| Yl isAgg3 Y ?_
  refine Xr [_, _] Y (hcf) Y rfl (hlt (n) (r.val)) ?_
  refine Zv (p_pick_f Y Y) <| Z0 <| Zn [3, 4, 5, 59] ?_
  refine Zx ?_
  refine at_if_bool Y (fun h8 => ?_) (fun h8 => ?_)
  ·
   refine Zg <| Zh 20 underlying114 rfl rfl sizeOf3 Y <| Zl isAgg3 Y ?_
   refine Zh 1 underlying40 rfl rfl sizeOf3 Y <| Xe (Zs sizeOf3 Y Y rfl (hi := by first | omega | decide | (simp; done))) ?_
   refine Z0 <| Zx <| Zg <| Zh 2 underlying40 rfl rfl sizeOf4 Y <| Xe (Zs sizeOf4 Y Y rfl (hi := by first | omega | decide | (simp; done))) ?_
   refine Z0 <| Zx <| Zq <| Zg <| Zo Wh (p_load_agg (cs := #[_, _, _]) isAgg40 sizeOf40 Y Wb (by rfl)) ?_
   refine Xe (w_store_agg sizeOf40 Y Y (by (simp [Value.oneCell']; done)) Wu (by rfl) (by first | rfl | (simp; done)) Wb (by exact free_zero _)) ?_
   refine Za Y <| Z0 <| Zx <| at_ret ?_
   refine nx_endct rfl results117 Y Wh (loadVar_agg isAgg40 sizeOf40 Wn (rfl)) Y (by
         refine ⟨?_, rfl⟩
         unfold extP
         simp_all <;> rfl)
  refine at_skip <| Zx <| Zg <| Zh 2 underlying40 rfl rfl sizeOf4 Y <| Xe (Zs sizeOf4 Y Y rfl (hi := by first | omega | decide | (simp; done))) ?_
  refine Z0 <| Zx <| Zq <| Zg <| Zo Wh (p_load_agg (cs := #[_, _, _]) isAgg40 sizeOf40 Y Wb (by rfl)) ?_
  refine Xe (w_store_agg sizeOf40 Y Y (by (simp [Value.oneCell']; done)) Wu (by rfl) (by first | rfl | (simp; done)) Wb (by exact free_zero _)) ?_
  refine Za Y <| Z0 <| Zx <| at_ret ?_
  refine nx_endct rfl results117 Y Wh (loadVar_agg isAgg40 sizeOf40 Wn (rfl)) Y (by
        refine ⟨?_, rfl⟩
        unfold extP
        simp_all <;> rfl)
 refine at_skip <| Zx <| Zq <| Zg <| Zo Wh (p_load_agg (cs := #[_, _, _]) isAgg40 sizeOf40 Y Wb (by rfl)) ?_
 refine Xe (w_store_agg sizeOf40 Y Y (by (simp [Value.oneCell']; done)) Wu (by rfl) (by first | rfl | (simp; done)) Wb (by exact free_zero _)) ?_
 refine Za Y <| Z0 <| Zx <| at_ret ?_
 refine nx_endct rfl results117 Y Wh (loadVar_agg isAgg40 sizeOf40 Wn (rfl)) Y (by
       refine ⟨?_, rfl⟩
       unfold extP
       simp_all <;> rfl)

theorem klt_spec (x y : Int) : DoesR Tryz.prog 85 #[.int .i64 x, .int .i64 y] [] (.bool (decide (x < y))) := by
 refine spec_enter func85 rfl ntmps85 rfl ?_
 intro u R
 refine Zb [0, 1] ?_
 refine Zq <| Zg <| Za Y <| Z0 <| Zx <| Zq <| Zg <| Zm Y <| Zm Y <| Zv (p_lss Y Y) <| Za Y <| Z0 <| Zx <| at_ret ?_
 refine nx_end1 rfl results85 Y (by exact ⟨rfl, rfl⟩)

theorem kgt_spec (x y : Int) : DoesR Tryz.prog 87 #[.int .i64 x, .int .i64 y] [] (.bool (decide (y < x))) := by
 refine spec_enter func87 rfl ntmps87 rfl ?_
 intro u R
 refine Zb [0, 1] ?_
 refine Zq <| Zg <| Za Y <| Z0 <| Zx <| Zq <| Zg <| Zm Y <| Zm Y <| Zv (p_gtr Y Y) <| Za Y <| Z0 <| Zx <| at_ret ?_
 refine nx_end1 rfl results87 Y (by exact ⟨rfl, rfl⟩)

def patchF (k : Int) : Nat := if k = 1 then 78 else if k = 2 then 78 else if k = 3 then 80 else if k = 4 then 82 else if k = 5 then 117 else if k = 6 then 117 else 89
def patchU (b5 b6 : Nat) (k : Int) : List Value := if k = 5 then [.pointer (some ⟨b5, 0, none⟩)] else if k = 6 then [.pointer (some ⟨b6, 0, none⟩)] else []
theorem kinds_at2 {lm : List (Int × Value)} {b5 b6 : Nat} (h : ∀ p, p ∈ lm ↔ p ∈ kindsL b5 b6) (hn : (lm.map (·.1)).Nodup) {k : Int} (hk : 1 ≤ k ∧ k ≤ 7) : mget k lm = some (.agg #[.func (.func (kindF k)) #[] #[], .func (.func (patchF k)) #[] (patchU b5 b6 k).toArray]) := by
  obtain h9 | h9 | h9 | h9 | h9 | h9 | h9 : k = 1 ∨ k = 2 ∨ k = 3 ∨ k = 4 ∨ k = 5 ∨ k = 6 ∨ k = 7 := by omega
  all_goals subst h9
  all_goals exact kinds_no h hn (by simp [kindsL, kindF, patchF, patchU])
theorem patch_call {k : Int} (hk : 1 ≤ k ∧ k ≤ 7) : ∀ (args : Array Value) (w : World), (callFunc (patchF k) args).run Tryz.prog w = .ok (.enter (patchF k) args) w := by
  obtain h | h | h | h | h | h | h : k = 1 ∨ k = 2 ∨ k = 3 ∨ k = 4 ∨ k = 5 ∨ k = 6 ∨ k = 7 := by omega
  all_goals (subst h; simp only [patchF]; first | exact call78 | exact call80 | exact call82 | exact call117 | exact call89)
theorem does_less {P : Program} {f : FuncId} {args : Array Value} {H H1 : Hp} {Q Q1 : Value → Hp → Prop} (h : Does P f args H Q) (F : Hp) (hf : H1.flatten.Perm (H ++ F).flatten) (hq : ∀ v H', Q v H' → ∃ H2 E, Q1 v H2 ∧ (H'.flatten ++ F.flatten).Perm (H2.flatten ++ E)) : Does P f args H1 Q1 := fun u R w hs =>
  Calls.mono (h u (F ++ R) w (hs.perm (by rw [List.flatten_append, ← List.append_assoc, List.flatten_append (L₁ := H ++ F)]; exact hf.append_right _))) fun e w' he => by
    rcases he with ⟨v, H', rfl, h1, h2⟩ | ⟨ch, H', rfl, h1, h2⟩
    · obtain ⟨H2, E, h3, h4⟩ := hq v H' h1
      refine .inl ⟨v, H2, rfl, h3, h2.sub ⟨E, ?_⟩⟩
      rw [List.flatten_append, List.flatten_append, List.flatten_append, ← List.append_assoc]
      refine (h4.append_right _).trans ?_
      rw [List.append_assoc, List.append_assoc]
      exact List.perm_append_comm.append_left _
    · exact h1.elim
def MIn (q : QM) (c : Chg) : Prop := (-1000000000 ≤ mQ q (bfQ q c) ∧ mQ q (bfQ q c) ≤ 1000000000) ∧ -1000000000 ≤ mQ q (afQ q c) ∧ mQ q (afQ q c) ≤ 1000000000
theorem mq_in {q : QM} {b : Bool} {x : RowM} (h : b = true → x.ok) : -1000000000 ≤ mQ q (optQ q b x) ∧ mQ q (optQ q b x) ≤ 1000000000 := by
  unfold optQ
  split
  · rename_i h9
    rw [Bool.and_eq_true] at h9
    exact valL_in (h h9.1) q.bq
  · exact ⟨by show (-1000000000 : Int) ≤ 0; decide, by show (0 : Int) ≤ 1000000000; decide⟩
theorem m_in (q : QM) {c : Chg} (h : c.ok) : MIn q c := by
  obtain ⟨_, h2, _⟩ := h
  refine ⟨mq_in fun hh => ?_, mq_in fun hh => ?_⟩
  · rw [before_t hh] at h2
    exact Classical.not_not.1 fun h9 => h2 (.inl ⟨hh, h9⟩)
  · rw [after_t hh] at h2
    exact Classical.not_not.1 fun h9 => h2 (.inr ⟨hh, h9⟩)
theorem kind_patch (q : QM) (c : Chg) (hq : ValidQ q) (h7 : q.kd ≠ 7) (hm : MIn q c) {p1 p2 : Option Addr} {s1 s2 : List Chunk} (hp1 : PtrRow p1 (bfQ q c) s1) (hp2 : PtrRow p2 (afQ q c) s2) (b5 b6 : Nat) (r : ResM) (pv : Option Addr) (cv : Nat) (sr : List Chunk) (hr : RowS 5 67 (.slice pv r.rows.length cv) r.rows.length (rowCells r.rows) sr) (hn : r.rows.length ≤ 100000000) (hv : -4000000000000000000 ≤ r.val ∧ r.val ≤ 4000000000000000000) :
    Does Tryz.prog (patchF q.kd) (.agg #[.int .i64 q.kd, .int .i64 q.tb, .int .i64 q.cl, .int .i64 q.lo, .int .i64 q.hi, .int .i64 q.bq, .int .i64 q.ot, .int .i64 c.t, .int .i64 c.k, .bool c.had, .int .i64 c.o.a, .int .i64 c.o.b, .int .i64 c.o.c, .bool c.has, .int .i64 c.n.a, .int .i64 c.n.b, .int .i64 c.n.c, .pointer p1, .pointer p2, .int .i64 (mQ q (bfQ q c)), .int .i64 (mQ q (afQ q c))] :: .agg #[.slice pv r.rows.length cv, .int .i64 r.val, .bool r.fnd] :: patchU b5 b6 q.kd).toArray [sr, s2, [(b5, .cells #[.func (.func 85) #[] #[]] 128 (0, 0))], [(b6, .cells #[.func (.func 87) #[] #[]] 128 (0, 0))]] (fun w H' => ∃ rv' s', w = .tuple #[.agg #[rv', .int .i64 (patchT q c r).1.val, .bool (patchT q c r).1.fnd], .bool (patchT q c r).2] ∧ RowS 5 67 rv' (patchT q c r).1.rows.length (rowCells (patchT q c r).1.rows) s' ∧ H' = [s']) := by
  have e1 := hp1.some_
  have e2 := hp2.some_
  have hcl := hq.2.1
  have hk : q.kd = 1 ∨ q.kd = 2 ∨ q.kd = 3 ∨ q.kd = 4 ∨ q.kd = 5 ∨ q.kd = 6 := by have := hq.2.2.2; omega
  have rows1 : (q.kd = 1 ∨ q.kd = 2) → patchT q c r = (⟨patchRowsT q c r.rows, r.val, r.fnd⟩, true) := fun h => by unfold patchT; rw [if_pos h]
  have P1 := prows_spec q c p1 p2 (mQ q (bfQ q c)) (mQ q (afQ q c)) hcl hr hn hp2
  have P3 := pcount_spec q c p1 p2 (mQ q (bfQ q c)) (mQ q (afQ q c)) pv r.rows.length cv hv
  have P4 := psum_spec q c p1 p2 (mQ q (bfQ q c)) (mQ q (afQ q c)) pv r.rows.length cv hv hm
  have P5 := pext_spec q c p1 p2 (mQ q (bfQ q c)) (mQ q (afQ q c)) r pv r.rows.length cv b5 85 (fun a b => decide (a < b)) call85 klt_spec
  have P6 := pext_spec q c p1 p2 (mQ q (bfQ q c)) (mQ q (afQ q c)) r pv r.rows.length cv b6 87 (fun a b => decide (b < a)) call87 kgt_spec
  rw [e2] at P3
  rw [e1, e2] at P5 P6
  rcases hk with h | h | h | h | h | h
  · rw [show patchF q.kd = 78 by rw [h]; rfl, show patchU b5 b6 q.kd = [] by rw [h]; rfl, rows1 (.inl h)]
    refine does_less P1 [[(b5, .cells #[.func (.func 85) #[] #[]] 128 (0, 0))], [(b6, .cells #[.func (.func 87) #[] #[]] 128 (0, 0))]] (by simp) ?_
    rintro w H' ⟨rv', s', rfl, h3, rfl⟩
    exact ⟨[s'], _, ⟨rv', s', rfl, h3, rfl⟩, by simp; exact .refl _⟩
  · rw [show patchF q.kd = 78 by rw [h]; rfl, show patchU b5 b6 q.kd = [] by rw [h]; rfl, rows1 (.inr h)]
    refine does_less P1 [[(b5, .cells #[.func (.func 85) #[] #[]] 128 (0, 0))], [(b6, .cells #[.func (.func 87) #[] #[]] 128 (0, 0))]] (by simp) ?_
    rintro w H' ⟨rv', s', rfl, h3, rfl⟩
    exact ⟨[s'], _, ⟨rv', s', rfl, h3, rfl⟩, by simp; exact .refl _⟩
  · rw [show patchF q.kd = 80 by rw [h]; rfl, show patchU b5 b6 q.kd = [] by rw [h]; rfl, show patchT q c r = (⟨r.rows, if (afQ q c).isSome then r.val + 1 else r.val - 1, r.fnd⟩, true) by unfold patchT; rw [if_neg (by omega), if_pos h]]
    refine does_less P3 [sr, s2, [(b5, .cells #[.func (.func 85) #[] #[]] 128 (0, 0))], [(b6, .cells #[.func (.func 87) #[] #[]] 128 (0, 0))]] (by simp) ?_
    rintro w H' ⟨rfl, rfl⟩
    exact ⟨[sr], _, ⟨_, sr, rfl, hr, rfl⟩, by simp; exact .refl _⟩
  · rw [show patchF q.kd = 82 by rw [h]; rfl, show patchU b5 b6 q.kd = [] by rw [h]; rfl, show patchT q c r = (⟨r.rows, r.val + (mQ q (afQ q c) - mQ q (bfQ q c)), r.fnd⟩, true) by unfold patchT; rw [if_neg (by omega), if_neg (by omega), if_pos h]]
    refine does_less P4 [sr, s2, [(b5, .cells #[.func (.func 85) #[] #[]] 128 (0, 0))], [(b6, .cells #[.func (.func 87) #[] #[]] 128 (0, 0))]] (by simp) ?_
    rintro w H' ⟨rfl, rfl⟩
    exact ⟨[sr], _, ⟨_, sr, rfl, hr, rfl⟩, by simp; exact .refl _⟩
  · have e9 : patchT q c r = extP (fun a b => decide (a < b)) (bfQ q c).isSome (afQ q c).isSome (mQ q (bfQ q c)) (mQ q (afQ q c)) r := by unfold patchT; rw [if_neg (by omega), if_neg (by omega), if_neg (by omega), if_pos h]
    have e8 : (patchT q c r).1.rows = r.rows := by rw [e9, extP_rows]
    rw [show patchF q.kd = 117 by rw [h]; rfl, show patchU b5 b6 q.kd = [.pointer (some ⟨b5, 0, none⟩)] by rw [h]; rfl]
    rw [← e9] at P5
    refine does_less P5 [sr, s2, [(b6, .cells #[.func (.func 87) #[] #[]] 128 (0, 0))]] (by simp; rw [← List.append_assoc, ← List.append_assoc]; exact List.perm_middle) ?_
    rintro w H' ⟨rfl, rfl⟩
    exact ⟨[sr], [(b5, _)] ++ s2 ++ _, ⟨_, sr, rfl, by rw [e8]; exact hr, rfl⟩, by simp; exact List.perm_middle.symm⟩
  · have e9 : patchT q c r = extP (fun a b => decide (b < a)) (bfQ q c).isSome (afQ q c).isSome (mQ q (bfQ q c)) (mQ q (afQ q c)) r := by unfold patchT; rw [if_neg (by omega), if_neg (by omega), if_neg (by omega), if_neg (by omega)]
    have e8 : (patchT q c r).1.rows = r.rows := by rw [e9, extP_rows]
    rw [show patchF q.kd = 117 by rw [h]; rfl, show patchU b5 b6 q.kd = [.pointer (some ⟨b6, 0, none⟩)] by rw [h]; rfl]
    rw [← e9] at P6
    refine does_less P6 [sr, s2, [(b5, .cells #[.func (.func 85) #[] #[]] 128 (0, 0))]] (by simp; rw [← List.append_assoc, ← List.append_assoc]; exact ((List.Perm.swap _ _ []).append_left _).trans List.perm_middle) ?_
    rintro w H' ⟨rfl, rfl⟩
    exact ⟨[sr], [(b6, _)] ++ s2 ++ _, ⟨_, sr, rfl, by rw [e8]; exact hr, rfl⟩, by simp; exact List.perm_middle.symm⟩

end Go.Proofs.YtkgmgmkbgnkdnaaGreatDoor
