/- The patches of least and greatest values; the patch of a kind. -/
/- predicate.Patch, Apply. -/
import Derived.Test.YtkdgffcfmgmemaaGreatDoorEz
import Derived.Test.YtkdgffcfmgmemaaGreatDoorPr3
import Derived.Test.YtkdgffcfmgmemaaGreatDoorPj4
set_option linter.unusedVariables false
set_option linter.unusedSimpArgs false
namespace Go.Proofs.YtkdgffcfmgmemaaGreatDoor
open Go.Proofs.Tryz
open Go Go.RowKit Gw
set_option maxRecDepth 100000
attribute [local irreducible] Gw.At Gw.Nx Gw.Ops
def Bp(q:QM)(c:Chg)(r:CG):CG×Bool:=
 if q.kd=1∨q.kd=2 then(⟨Dm q c r.rows,r.val,r.fnd⟩,true)
 else if q.kd=3 then(⟨r.rows,if(afQ q c).isSome then r.val+1 else r.val -1,r.fnd⟩,true)
 else if q.kd=4 then(⟨r.rows,r.val+(mQ q (afQ q c) -mQ q (bfQ q c)),r.fnd⟩,true)
 else if q.kd=5 then Fq (fun a b=>decide (a<b)) (bfQ q c).isSome (afQ q c).isSome (mQ q (bfQ q c)) (mQ q (afQ q c)) r
 else if q.kd=6 then Fq (fun a b=>decide (b<a)) (bfQ q c).isSome (afQ q c).isSome (mQ q (bfQ q c)) (mQ q (afQ q c)) r
 else Cw q c r
theorem Xp(q:QM)(c:Chg)(r:CG):(Bp q c r).1.rows.length≤r.rows.length+2:=by
 have h:=RY q c r.rows;unfold Bp;split
 · exact xk h (Nat.le_succ _)
 · split
   · exact y8 _ _
   · split
     · exact y8 _ _
     · split
       · rw [Li];exact y8 _ _
       · split
         · rw [Li];exact y8 _ _
         · exact Xt q c r
set_option maxHeartbeats 1000000 in
theorem Sw(q:QM)(c:Chg)(p1 p2:Option Addr)(o n:Int)(r:CG)(pv:Option Addr)(kv cv b fid:Nat)(lt:Int→Int→Bool)(hcf:∀(args:Array Value) (w:World),(callFunc fid args).run Tryz.prog w= .ok (.enter fid args) w)(hlt:∀x y:Int,Av Tryz.prog fid #[I4 x,I4 y] [] (.bool (lt x y))):Av Tryz.prog 233 #[.agg #[I4 q.kd,I4 q.tb,I4 q.cl,I4 q.lo,I4 q.hi,I4 q.bq,I4 q.ot,I4 c.t,I4 c.k,.bool c.had,I4 c.o.a,I4 c.o.b,I4 c.o.c,.bool c.has,I4 c.n.a,I4 c.n.b,I4 c.n.c,.pointer p1,.pointer p2,I4 o,I4 n],.agg #[.slice pv kv cv,I4 r.val,.bool r.fnd],I5 b] [[(b,.cells #[.func (.func fid) #[] #[]] 185 (0,0))]] (.tuple #[.agg #[.slice pv kv cv,I4 (Fq lt p1.isSome p2.isSome o n r).1.val,.bool (Fq lt p1.isSome p2.isSome o n r).1.fnd],.bool (Fq lt p1.isSome p2.isSome o n r).2]):=by
 refine Se func233 ntmps233 [0,1,2] ?_;intro u R;refine Zq<|Zg<|Ze (H8 Y (cs:=#[I4 q.kd,I4 q.tb,I4 q.cl,I4 q.lo,I4 q.hi,I4 q.bq,I4 q.ot,I4 c.t,I4 c.k,.bool c.had,I4 c.o.a,I4 c.o.b,I4 c.o.c,.bool c.has,I4 c.n.a,I4 c.n.b,I4 c.n.c,.pointer p1,.pointer p2,I4 o,I4 n]) (FW q c p1 p2 o n)) ?_;rintro _ _ ⟨be,rfl,rfl⟩;refine Ze (Bx #[.slice pv kv cv,I4 r.val,.bool r.fnd]) ?_;rintro _ _ ⟨br,rfl,rfl⟩;refine Ze (Al zeroValue51 #[_,_,_]) ?_;rintro _ _ ⟨b3,rfl,rfl⟩;refine Za Y<|Z0<|Zx<|Zq<|Zq<|Zg<|Zh 17 underlying151 rfl rfl sizeOf149 Y<|Zl isAgg149 Y ?_;refine Zv (EZ underlying149 Y Y)<|Zm Y ?_;refine Ai (t:=11) Y rfl (fun h1=>?_) (fun h1=>?_)
 ·
  refine Yf 2 underlying51 rfl rfl sizeOf4 Y<|Yl isAgg4 Y ?_;refine Yg (Ca Y)<|Zf Y Y ?_;refine Ai (t:=15) Y rfl (fun h2=>?_) (fun h2=>?_)
  ·
   refine A7 Y rfl<|A7 Y rfl<|A7 Y rfl<|A7 Y rfl<|A7 Y rfl<|A7 Y rfl<|A7 Y rfl<|Yg (AL Y Y)<|Zv (AL Y Y)<|Z0<|Zn [2,3,4,5,24] ?_;refine Zx<|CE Y<|Zq<|Zg<|Zh 18 underlying151 rfl rfl sizeOf149 Y<|Zl isAgg149 Y ?_;refine Zv (EZ underlying149 Y Y)<|Zm Y ?_;refine Ai (t:=28) Y rfl (fun h4=>?_) (fun h4=>?_)
   ·
    refine Yf 2 underlying51 rfl rfl sizeOf4 Y<|Yl isAgg4 Y ?_;refine Zv (AL Y Y)<|Zm Y ?_;refine Ai (t:=32) Y rfl (fun h5=>?_) (fun h5=>?_)
    ·
     refine Yl isAgg185 Y ?_;refine Yf 1 underlying51 rfl rfl sizeOf3 Y<|Yl isAgg3 Y ?_;refine Yf 20 underlying151 rfl rfl sizeOf3 Y<|Yl isAgg3 Y ?_;refine Xr [_,_] Y (hcf) Y rfl (hlt (r.val) (n)) ?_;refine Yg (Ca Y)<|Zv (AL Y Y)<|Za Y<|Z0<|Zn [3,4,5,7] ?_;refine Zx<|Zq<|Zg<|Zh 20 underlying151 rfl rfl sizeOf3 Y<|Zl isAgg3 Y ?_;refine Zh 1 underlying51 rfl rfl sizeOf3 Y<|Xe (Zs sizeOf3 Y Y rfl (hi:=by first|omega|decide|(simp;done))) ?_;refine Z0<|Zx<|Zq<|Zg<|Zo Wh (Pa #[_,_,_] isAgg51 sizeOf51 Y) ?_;refine Zm Y<|Xe (Xw sizeOf51 _) ?_;refine Za Y<|Z0<|Zx<|A9<|Zt ?_;refine Bb rfl results233 Y Wh (Ah isAgg51 sizeOf51 Wn (rfl)) Y (by
      refine ⟨?_,rfl⟩;unfold Fq;simp_all<;>rfl)
    refine A7 Y rfl<|A7 Y rfl<|A7 Y rfl<|A7 Y rfl<|A7 Y rfl<|A7 Y rfl<|A7 Y rfl<|Zv (AA Y Y)<|Za Y<|Z0<|Zn [3,4,5,7] ?_;refine Zx<|Zq<|Zg<|Zh 20 underlying151 rfl rfl sizeOf3 Y<|Zl isAgg3 Y ?_;refine Zh 1 underlying51 rfl rfl sizeOf3 Y<|Xe (Zs sizeOf3 Y Y rfl (hi:=by first|omega|decide|(simp;done))) ?_;refine Z0<|Zx<|Zq<|Zg<|Zo Wh (Pa #[_,_,_] isAgg51 sizeOf51 Y) ?_;refine Zm Y<|Xe (Xw sizeOf51 _) ?_;refine Za Y<|Z0<|Zx<|A9<|Zt ?_;refine Bb rfl results233 Y Wh (Ah isAgg51 sizeOf51 Wn (rfl)) Y (by
     refine ⟨?_,rfl⟩;unfold Fq;simp_all<;>rfl)
   refine A7 Y rfl<|A7 Y rfl<|Zv (AA Y Y)<|Zm Y<|A7 Y rfl<|A7 Y rfl<|A7 Y rfl<|A7 Y rfl<|A7 Y rfl<|A7 Y rfl<|A7 Y rfl<|Zv (AA Y Y)<|Za Y<|Z0<|Zn [3,4,5,7] ?_;refine Zx<|Zq<|Zg<|Zh 20 underlying151 rfl rfl sizeOf3 Y<|Zl isAgg3 Y ?_;refine Zh 1 underlying51 rfl rfl sizeOf3 Y<|Xe (Zs sizeOf3 Y Y rfl (hi:=by first|omega|decide|(simp;done))) ?_;refine Z0<|Zx<|Zq<|Zg<|Zo Wh (Pa #[_,_,_] isAgg51 sizeOf51 Y) ?_;refine Zm Y<|Xe (Xw sizeOf51 _) ?_;refine Za Y<|Z0<|Zx<|A9<|Zt ?_;refine Bb rfl results233 Y Wh (Ah isAgg51 sizeOf51 Wn (rfl)) Y (by
    refine ⟨?_,rfl⟩;unfold Fq;simp_all<;>rfl)
  refine Yl isAgg185 Y ?_;refine Yf 1 underlying51 rfl rfl sizeOf3 Y<|Yl isAgg3 Y ?_;refine Yf 19 underlying151 rfl rfl sizeOf3 Y<|Yl isAgg3 Y ?_;refine Xr [_,_] Y (hcf) Y rfl (hlt (r.val) (o)) ?_;refine Yg (Ca Y)<|Yg (AA Y Y)<|Zv (AL Y Y)<|Z0<|Zn [2,3,4,5,24] ?_;refine Zx ?_;refine Af Y (fun h3=>?_) (fun h3=>?_)
  ·
   refine Zq<|Zg<|Zh 18 underlying151 rfl rfl sizeOf149 Y<|Zl isAgg149 Y ?_;refine Zv (EZ underlying149 Y Y)<|Zm Y ?_;refine Ai (t:=28) Y rfl (fun h5=>?_) (fun h5=>?_)
   ·
    refine Yf 2 underlying51 rfl rfl sizeOf4 Y<|Yl isAgg4 Y ?_;refine Zv (AL Y Y)<|Zm Y ?_;refine Ai (t:=32) Y rfl (fun h5=>?_) (fun h5=>?_)
    ·
     refine Yl isAgg185 Y ?_;refine Yf 1 underlying51 rfl rfl sizeOf3 Y<|Yl isAgg3 Y ?_;refine Yf 20 underlying151 rfl rfl sizeOf3 Y<|Yl isAgg3 Y ?_;refine Xr [_,_] Y (hcf) Y rfl (hlt (r.val) (n)) ?_;refine Yg (Ca Y)<|Zv (AL Y Y)<|Za Y<|Z0<|Zn [3,4,5,7] ?_;refine Zx<|Zq<|Zg<|Zh 20 underlying151 rfl rfl sizeOf3 Y<|Zl isAgg3 Y ?_;refine Zh 1 underlying51 rfl rfl sizeOf3 Y<|Xe (Zs sizeOf3 Y Y rfl (hi:=by first|omega|decide|(simp;done))) ?_;refine Z0<|Zx<|Zq<|Zg<|Zo Wh (Pa #[_,_,_] isAgg51 sizeOf51 Y) ?_;refine Zm Y<|Xe (Xw sizeOf51 _) ?_;refine Za Y<|Z0<|Zx<|A9<|Zt ?_;refine Bb rfl results233 Y Wh (Ah isAgg51 sizeOf51 Wn (rfl)) Y (by
      refine ⟨?_,rfl⟩;unfold Fq;simp_all<;>rfl)
    refine A7 Y rfl<|A7 Y rfl<|A7 Y rfl<|A7 Y rfl<|A7 Y rfl<|A7 Y rfl<|A7 Y rfl<|Zv (AA Y Y)<|Za Y<|Z0<|Zn [3,4,5,7] ?_;refine Zx<|Zq<|Zg<|Zh 20 underlying151 rfl rfl sizeOf3 Y<|Zl isAgg3 Y ?_;refine Zh 1 underlying51 rfl rfl sizeOf3 Y<|Xe (Zs sizeOf3 Y Y rfl (hi:=by first|omega|decide|(simp;done))) ?_;refine Z0<|Zx<|Zq<|Zg<|Zo Wh (Pa #[_,_,_] isAgg51 sizeOf51 Y) ?_;refine Zm Y<|Xe (Xw sizeOf51 _) ?_;refine Za Y<|Z0<|Zx<|A9<|Zt ?_;refine Bb rfl results233 Y Wh (Ah isAgg51 sizeOf51 Wn (rfl)) Y (by
     refine ⟨?_,rfl⟩;unfold Fq;simp_all<;>rfl)
   refine A7 Y rfl<|A7 Y rfl<|Zv (AA Y Y)<|Zm Y<|A7 Y rfl<|A7 Y rfl<|A7 Y rfl<|A7 Y rfl<|A7 Y rfl<|A7 Y rfl<|A7 Y rfl<|Zv (AA Y Y)<|Za Y<|Z0<|Zn [3,4,5,7] ?_;refine Zx<|Zq<|Zg<|Zh 20 underlying151 rfl rfl sizeOf3 Y<|Zl isAgg3 Y ?_;refine Zh 1 underlying51 rfl rfl sizeOf3 Y<|Xe (Zs sizeOf3 Y Y rfl (hi:=by first|omega|decide|(simp;done))) ?_;refine Z0<|Zx<|Zq<|Zg<|Zo Wh (Pa #[_,_,_] isAgg51 sizeOf51 Y) ?_;refine Zm Y<|Xe (Xw sizeOf51 _) ?_;refine Za Y<|Z0<|Zx<|A9<|Zt ?_;refine Bb rfl results233 Y Wh (Ah isAgg51 sizeOf51 Wn (rfl)) Y (by
    refine ⟨?_,rfl⟩;unfold Fq;simp_all<;>rfl)
  refine AC<|Zx<|Zq<|Zq<|Zg<|Zh 18 underlying151 rfl rfl sizeOf149 Y<|Zl isAgg149 Y ?_;refine Zv (EZ underlying149 Y Y)<|Z0<|Zx ?_;refine Af Y (fun h6=>?_) (fun h6=>?_)
  ·
   refine Zq<|Zq<|Zg<|Zh 2 underlying51 rfl rfl sizeOf4 Y<|Zl isAgg4 Y ?_;refine Zv (Ca Y)<|Zm Y ?_;refine Ai (t:=52) Y rfl (fun h7=>?_) (fun h7=>?_)
   ·
    refine A7 Y rfl<|A7 Y rfl<|A7 Y rfl<|A7 Y rfl<|A7 Y rfl<|A7 Y rfl<|Zv (AL Y Y)<|Z0<|Zn [3,4,5,59] ?_;refine Zx<|CE Y<|Zg<|Zh 20 underlying151 rfl rfl sizeOf3 Y<|Zl isAgg3 Y ?_;refine Zh 1 underlying51 rfl rfl sizeOf3 Y<|Xe (Zs sizeOf3 Y Y rfl (hi:=by first|omega|decide|(simp;done))) ?_;refine Z0<|Zx<|Zg<|Zh 2 underlying51 rfl rfl sizeOf4 Y<|Xe (Zs sizeOf4 Y Y rfl (hi:=by first|omega|decide|(simp;done))) ?_;refine Z0<|Zx<|Zq<|Zg<|Zo Wh (Pa #[_,_,_] isAgg51 sizeOf51 Y) ?_;refine Xe (Xw sizeOf51 _) ?_;refine Za Y<|Z0<|Zx<|A9 ?_;refine Bb rfl results233 Y Wh (Ah isAgg51 sizeOf51 Wn (rfl)) Y (by
     refine ⟨?_,rfl⟩;unfold Fq;simp_all<;>rfl)
   refine Yl isAgg185 Y ?_;refine Yf 20 underlying151 rfl rfl sizeOf3 Y<|Yl isAgg3 Y ?_;refine Yf 1 underlying51 rfl rfl sizeOf3 Y<|Yl isAgg3 Y ?_;refine Xr [_,_] Y (hcf) Y rfl (hlt (n) (r.val)) ?_;refine Zv (AA Y Y)<|Z0<|Zn [3,4,5,59] ?_;refine Zx ?_;refine Af Y (fun h8=>?_) (fun h8=>?_)
   ·
    refine Zg<|Zh 20 underlying151 rfl rfl sizeOf3 Y<|Zl isAgg3 Y ?_;refine Zh 1 underlying51 rfl rfl sizeOf3 Y<|Xe (Zs sizeOf3 Y Y rfl (hi:=by first|omega|decide|(simp;done))) ?_;refine Z0<|Zx<|Zg<|Zh 2 underlying51 rfl rfl sizeOf4 Y<|Xe (Zs sizeOf4 Y Y rfl (hi:=by first|omega|decide|(simp;done))) ?_;refine Z0<|Zx<|Zq<|Zg<|Zo Wh (Pa #[_,_,_] isAgg51 sizeOf51 Y) ?_;refine Xe (Xw sizeOf51 _) ?_;refine Za Y<|Z0<|Zx<|A9 ?_;refine Bb rfl results233 Y Wh (Ah isAgg51 sizeOf51 Wn (rfl)) Y (by
     refine ⟨?_,rfl⟩;unfold Fq;simp_all<;>rfl)
   refine AC<|Zx<|Zg<|Zh 2 underlying51 rfl rfl sizeOf4 Y<|Xe (Zs sizeOf4 Y Y rfl (hi:=by first|omega|decide|(simp;done))) ?_;refine Z0<|Zx<|Zq<|Zg<|Zo Wh (Pa #[_,_,_] isAgg51 sizeOf51 Y) ?_;refine Xe (Xw sizeOf51 _) ?_;refine Za Y<|Z0<|Zx<|A9 ?_;refine Bb rfl results233 Y Wh (Ah isAgg51 sizeOf51 Wn (rfl)) Y (by
    refine ⟨?_,rfl⟩;unfold Fq;simp_all<;>rfl)
  refine AC<|Zx<|Zq<|Zg<|Zo Wh (Pa #[_,_,_] isAgg51 sizeOf51 Y) ?_;refine Xe (Xw sizeOf51 _) ?_;refine Za Y<|Z0<|Zx<|A9 ?_;refine Bb rfl results233 Y Wh (Ah isAgg51 sizeOf51 Wn (rfl)) Y (by
   refine ⟨?_,rfl⟩;unfold Fq;simp_all<;>rfl)
 refine A7 Y rfl<|A7 Y rfl<|A7 Y rfl<|A7 Y rfl<|A7 Y rfl<|A7 Y rfl<|A7 Y rfl<|A7 Y rfl<|A7 Y rfl<|A7 Y rfl<|A7 Y rfl<|A7 Y rfl<|Zv (AA Y Y)<|Z0<|Zn [2,3,4,5,24] ?_;refine Zx<|Di Y<|AC<|Zx<|Zq<|Zq<|Zg<|Zh 18 underlying151 rfl rfl sizeOf149 Y<|Zl isAgg149 Y ?_;refine Zv (EZ underlying149 Y Y)<|Z0<|Zx ?_;refine Af Y (fun h6=>?_) (fun h6=>?_)
 ·
  refine Zq<|Zq<|Zg<|Zh 2 underlying51 rfl rfl sizeOf4 Y<|Zl isAgg4 Y ?_;refine Zv (Ca Y)<|Zm Y ?_;refine Ai (t:=52) Y rfl (fun h7=>?_) (fun h7=>?_)
  ·
   refine A7 Y rfl<|A7 Y rfl<|A7 Y rfl<|A7 Y rfl<|A7 Y rfl<|A7 Y rfl<|Zv (AL Y Y)<|Z0<|Zn [3,4,5,59] ?_;refine Zx<|CE Y<|Zg<|Zh 20 underlying151 rfl rfl sizeOf3 Y<|Zl isAgg3 Y ?_;refine Zh 1 underlying51 rfl rfl sizeOf3 Y<|Xe (Zs sizeOf3 Y Y rfl (hi:=by first|omega|decide|(simp;done))) ?_;refine Z0<|Zx<|Zg<|Zh 2 underlying51 rfl rfl sizeOf4 Y<|Xe (Zs sizeOf4 Y Y rfl (hi:=by first|omega|decide|(simp;done))) ?_;refine Z0<|Zx<|Zq<|Zg<|Zo Wh (Pa #[_,_,_] isAgg51 sizeOf51 Y) ?_;refine Xe (Xw sizeOf51 _) ?_;refine Za Y<|Z0<|Zx<|A9 ?_;refine Bb rfl results233 Y Wh (Ah isAgg51 sizeOf51 Wn (rfl)) Y (by
    refine ⟨?_,rfl⟩;unfold Fq;simp_all<;>rfl)
  refine Yl isAgg185 Y ?_;refine Yf 20 underlying151 rfl rfl sizeOf3 Y<|Yl isAgg3 Y ?_;refine Yf 1 underlying51 rfl rfl sizeOf3 Y<|Yl isAgg3 Y ?_;refine Xr [_,_] Y (hcf) Y rfl (hlt (n) (r.val)) ?_;refine Zv (AA Y Y)<|Z0<|Zn [3,4,5,59] ?_;refine Zx ?_;refine Af Y (fun h8=>?_) (fun h8=>?_)
  ·
   refine Zg<|Zh 20 underlying151 rfl rfl sizeOf3 Y<|Zl isAgg3 Y ?_;refine Zh 1 underlying51 rfl rfl sizeOf3 Y<|Xe (Zs sizeOf3 Y Y rfl (hi:=by first|omega|decide|(simp;done))) ?_;refine Z0<|Zx<|Zg<|Zh 2 underlying51 rfl rfl sizeOf4 Y<|Xe (Zs sizeOf4 Y Y rfl (hi:=by first|omega|decide|(simp;done))) ?_;refine Z0<|Zx<|Zq<|Zg<|Zo Wh (Pa #[_,_,_] isAgg51 sizeOf51 Y) ?_;refine Xe (Xw sizeOf51 _) ?_;refine Za Y<|Z0<|Zx<|A9 ?_;refine Bb rfl results233 Y Wh (Ah isAgg51 sizeOf51 Wn (rfl)) Y (by
    refine ⟨?_,rfl⟩;unfold Fq;simp_all<;>rfl)
  refine AC<|Zx<|Zg<|Zh 2 underlying51 rfl rfl sizeOf4 Y<|Xe (Zs sizeOf4 Y Y rfl (hi:=by first|omega|decide|(simp;done))) ?_;refine Z0<|Zx<|Zq<|Zg<|Zo Wh (Pa #[_,_,_] isAgg51 sizeOf51 Y) ?_;refine Xe (Xw sizeOf51 _) ?_;refine Za Y<|Z0<|Zx<|A9 ?_;refine Bb rfl results233 Y Wh (Ah isAgg51 sizeOf51 Wn (rfl)) Y (by
   refine ⟨?_,rfl⟩;unfold Fq;simp_all<;>rfl)
 refine AC<|Zx<|Zq<|Zg<|Zo Wh (Pa #[_,_,_] isAgg51 sizeOf51 Y) ?_;refine Xe (Xw sizeOf51 _) ?_;refine Za Y<|Z0<|Zx<|A9 ?_;refine Bb rfl results233 Y Wh (Ah isAgg51 sizeOf51 Wn (rfl)) Y (by
  refine ⟨?_,rfl⟩;unfold Fq;simp_all<;>rfl)
theorem jS(x y:Int):Av Tryz.prog 172 #[I4 x,I4 y] [] (.bool (decide (x<y))):=by
 refine Se func172 ntmps172 [0,1] ?_;intro u R;refine Zq<|Zg<|Za Y<|Z0<|Zx<|Zq<|Zg<|Zm Y<|Zm Y<|Zv (Eb Y Y)<|Za Y<|Z0<|Zx<|A9 ?_;refine AB rfl results172 Y (by exact ⟨rfl,rfl⟩)
theorem jU(x y:Int):Av Tryz.prog 174 #[I4 x,I4 y] [] (.bool (decide (y<x))):=by
 refine Se func174 ntmps174 [0,1] ?_;intro u R;refine Zq<|Zg<|Za Y<|Z0<|Zx<|Zq<|Zg<|Zm Y<|Zm Y<|Zv (Es Y Y)<|Za Y<|Z0<|Zx<|A9 ?_;refine AB rfl results174 Y (by exact ⟨rfl,rfl⟩)
def Fj(k:Int):Nat:=if k=1 then 165 else if k=2 then 165 else if k=3 then 167 else if k=4 then 169 else if k=5 then 233 else if k=6 then 233 else 176
def IC(b5 b6:Nat)(k:Int):List Value:=if k=5 then [I5 b5]else if k=6 then [I5 b6]else []
theorem TT{lm:List (Int×Value)}{b5 b6:Nat}(h:∀p,p∈lm↔p∈Ku b5 b6)(hn:(lm.map (·.1)).Nodup){k:Int}(hk:1≤k∧k≤7):IX k lm=some (.agg #[.func (.func (Ga k)) #[] #[],.func (.func (Fj k)) #[] (IC b5 b6 k).toArray]):=by
 obtain h9|h9|h9|h9|h9|h9|h9:k=1∨k=2∨k=3∨k=4∨k=5∨k=6∨k=7:=by omega
 all_goals subst h9
 all_goals exact WF h hn (by simp [Ku,Ga,Fj,IC])
theorem K5{k:Int}(hk:1≤k∧k≤7):∀(args:Array Value) (w:World),(callFunc (Fj k) args).run Tryz.prog w= .ok (.enter (Fj k) args) w:=by
 obtain h|h|h|h|h|h|h:k=1∨k=2∨k=3∨k=4∨k=5∨k=6∨k=7:=by omega
 all_goals (subst h;simp only [Fj];first|exact call165|exact call167|exact call169|exact call233|exact call176)
theorem Gq{P:Program}{f:FuncId}{args:Array Value}{H H1:Hp}{Q Q1:Value→Hp→Prop}(h:CO P f args H Q)(F:Hp)(hf:H1.flatten.Perm (H++F).flatten)(hq:∀v H',Q v H'→∃H2 E,Q1 v H2∧(H'.flatten++F.flatten).Perm (H2.flatten++E)):CO P f args H1 Q1:=fun u R w hs=>
 Calls.mono (h u (F++R) w (hs.perm (by rw [uW,←tO,uW (L₁:=H++F)];exact hf.append_right _))) fun e w' he=>by
  rcases he with⟨v,H',rfl,h1,h2⟩|⟨ch,H',rfl,h1,h2⟩
  · obtain ⟨H2,E,h3,h4⟩:=hq v H' h1
    refine .inl ⟨v,H2,rfl,h3,h2.sub ⟨E,?_⟩⟩;rw [uW,uW,uW,←tO];refine (h4.append_right _).trans ?_;rw [tO,tO];exact uj.append_left _
  · exact h1.elim
def MIn(q:QM)(c:Chg):Prop:=(-1000000000≤mQ q (bfQ q c)∧mQ q (bfQ q c)≤1000000000)∧-1000000000≤mQ q (afQ q c)∧mQ q (afQ q c)≤1000000000
theorem o6{q:QM}{b:Bool}{x:AP}(h:b=true→x.ok):-1000000000≤mQ q (Hq q b x)∧mQ q (Hq q b x)≤1000000000:=by
 unfold Hq;split
 · rename_i h9
   rw [uE]at h9;exact U0 (h h9.1) q.bq
 · exact ⟨by show(-1000000000:Int)≤0;decide,by show(0:Int)≤1000000000;decide⟩
theorem jM(q:QM){c:Chg}(h:c.ok):MIn q c:=by
 obtain ⟨_,h2,_⟩:=h;refine ⟨o6 fun hh=>?_,o6 fun hh=>?_⟩
 · rw [LD hh]at h2
   exact uH.1 fun h9=>h2 (.inl ⟨hh,h9⟩)
 · rw [JQ hh]at h2
   exact uH.1 fun h9=>h2 (.inr ⟨hh,h9⟩)
theorem KC(q:QM)(c:Chg)(hq:BP q)(hm:MIn q c){p1 p2:Option Addr}{s1 s2:List AR}(hp1:IE p1 (bfQ q c) s1)(hp2:IE p2 (afQ q c) s2)(b5 b6:Nat)(r:CG)(pv:Option Addr)(cv:Nat)(sr:List AR)(hr:BX 5 113 (.slice pv r.rows.length cv) r.rows.length (Ac r.rows) sr)(hn:r.rows.length≤100000000)(hv:-4000000000000000000≤r.val∧r.val≤4000000000000000000):
 CO Tryz.prog (Fj q.kd) (.agg #[I4 q.kd,I4 q.tb,I4 q.cl,I4 q.lo,I4 q.hi,I4 q.bq,I4 q.ot,I4 c.t,I4 c.k,.bool c.had,I4 c.o.a,I4 c.o.b,I4 c.o.c,.bool c.has,I4 c.n.a,I4 c.n.b,I4 c.n.c,.pointer p1,.pointer p2,I4 (mQ q (bfQ q c)),I4 (mQ q (afQ q c))]:: .agg #[.slice pv r.rows.length cv,I4 r.val,.bool r.fnd]::IC b5 b6 q.kd).toArray [sr,s2,[(b5,.cells #[.func (.func 172) #[] #[]] 185 (0,0))],[(b6,.cells #[.func (.func 174) #[] #[]] 185 (0,0))]] (fun w H'=>∃rv' s',w= .tuple #[.agg #[rv',I4 (Bp q c r).1.val,.bool (Bp q c r).1.fnd],.bool (Bp q c r).2]∧BX 5 113 rv' (Bp q c r).1.rows.length (Ac (Bp q c r).1.rows) s'∧H'=[s']):=by
 have e1:=hp1.some_;have e2:=hp2.some_
 have hcl:=hq.2.1;have hk:q.kd=1∨q.kd=2∨q.kd=3∨q.kd=4∨q.kd=5∨q.kd=6∨q.kd=7:=by have:=hq.2.2.2;omega
 have rows1:(q.kd=1∨q.kd=2)→Bp q c r=(⟨Dm q c r.rows,r.val,r.fnd⟩,true):=fun h=>by unfold Bp;rw [if_pos h]
 have P1:=Xh q c p1 p2 (mQ q (bfQ q c)) (mQ q (afQ q c)) hcl hr hn hp2;have P7:=Xk q hcl c p1 p2 e1 hp2 hr hn
 have P3:=Vk q c p1 p2 (mQ q (bfQ q c)) (mQ q (afQ q c)) pv r.rows.length cv hv;have P4:=bP q c p1 p2 (mQ q (bfQ q c)) (mQ q (afQ q c)) pv r.rows.length cv hv hm
 have P5:=Sw q c p1 p2 (mQ q (bfQ q c)) (mQ q (afQ q c)) r pv r.rows.length cv b5 172 (fun a b=>decide (a<b)) call172 jS;have P6:=Sw q c p1 p2 (mQ q (bfQ q c)) (mQ q (afQ q c)) r pv r.rows.length cv b6 174 (fun a b=>decide (b<a)) call174 jU
 rw [e2]at P3;rw [e1,e2]at P5 P6;rcases hk with h|h|h|h|h|h|h
 · rw [show Fj q.kd=165 by rw [h];rfl,show IC b5 b6 q.kd=[] by rw [h];rfl,rows1 (.inl h)]
   refine Gq P1 [[(b5,.cells #[.func (.func 172) #[] #[]] 185 (0,0))],[(b6,.cells #[.func (.func 174) #[] #[]] 185 (0,0))]] (by simp) ?_;rintro w H' ⟨rv',s',rfl,h3,rfl⟩;exact ⟨[s'],_,⟨rv',s',rfl,h3,rfl⟩,by simp;exact .refl _⟩
 · rw [show Fj q.kd=165 by rw [h];rfl,show IC b5 b6 q.kd=[] by rw [h];rfl,rows1 (.inr h)]
   refine Gq P1 [[(b5,.cells #[.func (.func 172) #[] #[]] 185 (0,0))],[(b6,.cells #[.func (.func 174) #[] #[]] 185 (0,0))]] (by simp) ?_;rintro w H' ⟨rv',s',rfl,h3,rfl⟩;exact ⟨[s'],_,⟨rv',s',rfl,h3,rfl⟩,by simp;exact .refl _⟩
 · rw [show Fj q.kd=167 by rw [h];rfl,show IC b5 b6 q.kd=[] by rw [h];rfl,show Bp q c r=(⟨r.rows,if(afQ q c).isSome then r.val+1 else r.val -1,r.fnd⟩,true) by unfold Bp;rw [if_neg (by omega),if_pos h]]
   refine Gq P3 [sr,s2,[(b5,.cells #[.func (.func 172) #[] #[]] 185 (0,0))],[(b6,.cells #[.func (.func 174) #[] #[]] 185 (0,0))]] (by simp) ?_;rintro w H' ⟨rfl,rfl⟩;exact ⟨[sr],_,⟨_,sr,rfl,hr,rfl⟩,by simp;exact .refl _⟩
 · rw [show Fj q.kd=169 by rw [h];rfl,show IC b5 b6 q.kd=[] by rw [h];rfl,show Bp q c r=(⟨r.rows,r.val+(mQ q (afQ q c) -mQ q (bfQ q c)),r.fnd⟩,true) by unfold Bp;rw [if_neg (by omega),if_neg (by omega),if_pos h]]
   refine Gq P4 [sr,s2,[(b5,.cells #[.func (.func 172) #[] #[]] 185 (0,0))],[(b6,.cells #[.func (.func 174) #[] #[]] 185 (0,0))]] (by simp) ?_;rintro w H' ⟨rfl,rfl⟩;exact ⟨[sr],_,⟨_,sr,rfl,hr,rfl⟩,by simp;exact .refl _⟩
 · have e9:Bp q c r=Fq (fun a b=>decide (a<b)) (bfQ q c).isSome (afQ q c).isSome (mQ q (bfQ q c)) (mQ q (afQ q c)) r:=by unfold Bp;rw [if_neg (by omega),if_neg (by omega),if_neg (by omega),if_pos h]
   have e8:(Bp q c r).1.rows=r.rows:=by rw [e9,Li]
   rw [show Fj q.kd=233 by rw [h];rfl,show IC b5 b6 q.kd=[I5 b5] by rw [h];rfl];rw [←e9]at P5;refine Gq P5 [sr,s2,[(b6,.cells #[.func (.func 174) #[] #[]] 185 (0,0))]] (by simp;rw [←tO,←tO];exact uS) ?_;rintro w H' ⟨rfl,rfl⟩;exact ⟨[sr],[(b5,_)]++s2++_,⟨_,sr,rfl,by rw [e8];exact hr,rfl⟩,by simp;exact uS.symm⟩
 · have e9:Bp q c r=Fq (fun a b=>decide (b<a)) (bfQ q c).isSome (afQ q c).isSome (mQ q (bfQ q c)) (mQ q (afQ q c)) r:=by unfold Bp;rw [if_neg (by omega),if_neg (by omega),if_neg (by omega),if_neg (by omega),if_pos h]
   have e8:(Bp q c r).1.rows=r.rows:=by rw [e9,Li]
   rw [show Fj q.kd=233 by rw [h];rfl,show IC b5 b6 q.kd=[I5 b6] by rw [h];rfl];rw [←e9]at P6;refine Gq P6 [sr,s2,[(b5,.cells #[.func (.func 172) #[] #[]] 185 (0,0))]] (by simp;rw [←tO,←tO];exact ((List.Perm.swap _ _ []).append_left _).trans uS) ?_;rintro w H' ⟨rfl,rfl⟩;exact ⟨[sr],[(b6,_)]++s2++_,⟨_,sr,rfl,by rw [e8];exact hr,rfl⟩,by simp;exact uS.symm⟩
 · rw [show Fj q.kd=176 by rw [h];rfl,show IC b5 b6 q.kd=[] by rw [h];rfl,show Bp q c r=Cw q c r by unfold Bp;rw [if_neg (by omega),if_neg (by omega),if_neg (by omega),if_neg (by omega),if_neg (by omega)]]
   refine Gq P7 [[(b5,.cells #[.func (.func 172) #[] #[]] 185 (0,0))],[(b6,.cells #[.func (.func 174) #[] #[]] 185 (0,0))]] (by simp) ?_;rintro w H' ⟨rv',s',rfl,h3,rfl⟩;exact ⟨[s'],_,⟨rv',s',rfl,h3,rfl⟩,by simp;exact .refl _⟩
def Eh(q:QM)(c:Chg):Bool:=decide c.ok&&Dr q c
def Cu(q:QM)(c:Chg)(r:CG):CG×Bool:=if Eh q c then(if(Bp q c r).2 then((Bp q c r).1,true)else(CG.none,false))else(r,true)
def IA(q:QM)(r:CG):List Chg→Option CG
 |[]=>some r
 |c::cs=>if(Cu q c r).2 then IA q (Cu q c r).1 cs else none
theorem Q6(q:QM):∀(a:List Chg) (r:CG) (b:List Chg),IA q r (a++b)=(IA q r a).bind fun r'=>IA q r' b
 |[],_,_=>rfl
 |c::a,r,b=>by
  show(if(Cu q c r).2 then IA q (Cu q c r).1 (a++b)else none)=(if(Cu q c r).2 then IA q (Cu q c r).1 a else none).bind fun r'=>IA q r' b;split
  · exact Q6 q a _ b
  · rfl
def DC(q:QM)(r:CG)(cs:List Chg):CG×Bool×Bool:=match IA q r cs with
 |some r'=>(r',cs.any (Eh q),true)
 |none=>(CG.none,true,false)
theorem ah(q:QM)(c:Chg)(r:CG):(Cu q c r).1.rows.length≤r.rows.length+2:=by
 have h:=Xp q c r;unfold Cu;split
 · split
   · exact h
   · exact tX _
 · exact y8 _ _
theorem Xo{q:QM}{c:Chg}(hm:MIn q c){r:CG}{B:Int}(h:-B≤r.val∧r.val≤B)(h0:0≤B):-(B+2000000000)≤(Bp q c r).1.val∧(Bp q c r).1.val≤B+2000000000:=by
 obtain ⟨⟨h1,h2⟩,h3,h4⟩:=hm;have hx:∀lt b a,-(B+2000000000)≤(Fq lt b a (mQ q (bfQ q c)) (mQ q (afQ q c)) r).1.val∧(Fq lt b a (mQ q (bfQ q c)) (mQ q (afQ q c)) r).1.val≤B+2000000000:=fun lt b a=>by
  unfold Fq;split
  · constructor<;>(simp only;omega)
  · split
    · simp only
      split<;>(constructor<;>omega)
    · constructor<;>(simp only;omega)
 unfold Bp;split
 · constructor<;>(simp only;omega)
 · split
   · simp only
     split<;>(constructor<;>omega)
   · split
     · constructor<;>(simp only;omega)
     · split
       · exact hx _ _ _
       · split
         · exact hx _ _ _
         · rw [Xq];constructor<;>omega
theorem ag{q:QM}{c:Chg}{r:CG}{B:Int}(h:-B≤r.val∧r.val≤B)(h0:0≤B):-(B+2000000000)≤(Cu q c r).1.val∧(Cu q c r).1.val≤B+2000000000:=by
 unfold Cu;split
 · rename_i h9
   unfold Eh at h9;rw [uE]at h9;split
   · exact Xo (jM q (of_decide_eq_true h9.1)) h h0
   · constructor<;>(simp only [CG.none];omega)
 · constructor<;>(simp only;omega)
theorem Ja{q:QM}{r rk:CG}{cs:List Chg}{k:Nat}{x:Chg}(h:IA q r (cs.take k)=some rk)(hx:cs[k]?=some x):IA q r (cs.take (k+1))=if(Cu q x rk).2 then some (Cu q x rk).1 else none:=by
 rw [Bo hx,Q6,h];show IA q rk [x]=_
 unfold IA IA;rfl
theorem Nz{q:QM}{r:CG}{cs:List Chg}{k:Nat}(h:IA q r (cs.take k)=none):IA q r cs=none:=by
 rw [←uY k cs,Q6,h];rfl
theorem Tn{cs:List Chg}{k:Nat}{x:Chg}(f:Chg→Bool)(hx:cs[k]?=some x):(cs.take (k+1)).any f=((cs.take k).any f||f x):=by
 rw [Bo hx,List.any_append,zZ,AA2,zB]
theorem U7{q:QM}:∀(cs:List Chg) (r r':CG) (B:Int) (n:Nat),IA q r cs=some r'→(-B≤r.val∧r.val≤B)→0≤B→r.rows.length≤n→(-(B+2000000000*(cs.length:Int))≤r'.val∧r'.val≤B+2000000000*(cs.length:Int))∧r'.rows.length≤n+2*cs.length
 |[],r,r',B,n,h,h1,h2,h3=>by
  unfold IA at h;injection h with h
  subst h;simp only [vG];exact ⟨⟨by omega,by omega⟩,h3⟩
 |c::cs,r,r',B,n,h,h1,h2,h3=>by
  unfold IA at h;split at h
  · have h4:=ag (q:=q) (c:=c) h1 h2
    have h5:=ah q c r;have h6:=U7 cs _ r' (B+2000000000) (n+2) h h4 (by omega) (by omega)
    rw [tY];obtain ⟨⟨h7,h8⟩,h9⟩:=h6;refine ⟨⟨?_,?_⟩,by omega⟩<;>(push_cast;omega)
  · cases h
set_option maxHeartbeats 1000000 in
theorem QL(q:QM)(hq:BP q)(c:Chg){r:CG}{rv:Value}{A:List AR}(hr:DV A rv r.rows)(hn:r.rows.length≤100000000)(hv:-4000000000000000000≤r.val∧r.val≤4000000000000000000):CO Tryz.prog 184 #[.agg #[I4 q.kd,I4 q.tb,I4 q.cl,I4 q.lo,I4 q.hi,I4 q.bq,I4 q.ot],.agg #[rv,I4 r.val,.bool r.fnd],.agg #[I4 c.t,I4 c.k,.bool c.had,I4 c.o.a,I4 c.o.b,I4 c.o.c,.bool c.has,I4 c.n.a,I4 c.n.b,I4 c.n.c]] [A] (fun w H'=>∃rv' s',w= .tuple #[.agg #[rv',I4 (Cu q c r).1.val,.bool (Cu q c r).1.fnd],.bool (Cu q c r).2]∧BX 5 113 rv' (Cu q c r).1.rows.length (Ac (Cu q c r).1.rows) s'∧H'=[s',A]):=by
 have hml:=mL;obtain ⟨pv,cv,rfl,_⟩:=id hr;refine Se func184 ntmps184 [0,1,2] ?_;intro u R;refine Zq<|Zg<|Ze (Bx #[I4 q.kd,I4 q.tb,I4 q.cl,I4 q.lo,I4 q.hi,I4 q.bq,I4 q.ot]) ?_;rintro _ _ ⟨bq,rfl,rfl⟩;refine Ze (Bx #[.slice pv r.rows.length cv,I4 r.val,.bool r.fnd]) ?_;rintro _ _ ⟨br,rfl,rfl⟩;refine Ze (Bx #[I4 c.t,I4 c.k,.bool c.had,I4 c.o.a,I4 c.o.b,I4 c.o.c,.bool c.has,I4 c.n.a,I4 c.n.b,I4 c.n.c]) ?_;rintro _ _ ⟨bc,rfl,rfl⟩;refine Ze (Al zeroValue51 #[_,_,_]) ?_;rintro _ _ ⟨bo,rfl,rfl⟩;refine Za Y<|Z0<|Zx<|Zq<|Zg<|Zh 0 underlying51 rfl rfl sizeOf45 Y<|Zl isAgg45 Y ?_;refine Zc [_] Y call94 Y rfl (He hr (by omega)) ?_;rintro _ _ ⟨_,⟨s1,h1,rfl⟩,rfl⟩;obtain ⟨g1,c1,rfl⟩:=h1.form;refine Zh 0 underlying51 rfl rfl sizeOf45 Y<|Xe (Zs sizeOf45 Y Y rfl (hi:=by first|omega|decide|(simp;done))) ?_;refine Z0<|Zx<|Zq<|Zq<|Zg<|Zo Wh (Pa #[_,_,_,_,_,_,_] isAgg30 sizeOf30 Y) ?_;refine Zo Wh (Pa #[_,_,_,_,_,_,_,_,_,_] isAgg77 sizeOf77 Y) ?_;refine Xr [_,_] Y call30 Y rfl (Mo q c) ?_;rw [show(decide (BP q)&&(decide c.ok&&Dr q c))=Eh q c by rw [decide_eq_true hq];rfl];refine Zv (Ca Y)<|Z0<|Zn [3,4,5,6,17] ?_;refine Zx ?_;refine Af Y (fun ht=>?_) (fun ht=>?_)
 ·
  have ht9:Eh q c=false:=by simpa using ht
  refine Zq<|Zg<|Zo Wh (Pa #[_,_,_] isAgg51 sizeOf51 Y) ?_;refine Xe (Xw sizeOf51 _) ?_;refine Za Y<|Z0<|Zx<|A9<|Zt ?_;refine Bb rfl results184 Y Wh (Ah isAgg51 sizeOf51 Wn (rfl)) Y (by
   have e9:Cu q c r=(r,true):=by unfold Cu;rw [ht9];rfl
   exact ⟨.slice g1 r.rows.length c1,s1,by rw [e9];rfl,by rw [e9];exact h1,rfl⟩)
 have ht9:Eh q c=true:=by simpa using ht
 have hco:c.ok:=by unfold Eh at ht9;rw [uE]at ht9;exact of_decide_eq_true ht9.1
 refine AC<|Zx<|Zb [3,4,5,6] ?_;refine CW (e0:=[(3,_),(4,_),(5,_)]) (H0:=[s1]) (fun e H=>∃(b8:Nat) (g3:Option Addr) (c3:Nat) (s3:List AR),(BX 5 113 (.slice g3 (Bp q c r).1.rows.length c3) (Bp q c r).1.rows.length (Ac (Bp q c r).1.rows) s3)∧e=[(8,I5 b8),(9,.bool (Bp q c r).2)]∧H=[[(b8,.cells #[.slice g3 (Bp q c r).1.rows.length c3,I4 (Bp q c r).1.val,.bool (Bp q c r).1.fnd] 51 (0,0))],s3]) Wp ?hx_2 ?hy_2
 case hx_2=>
  refine BI (n:=16) (0::0::2::7::15::0::0::97::0::511::1023::2047::2047::0::12287::32767::[]) 25217 (by kernel_rfl) (by kernel_rfl) rfl ?_;refine Zi 2 1 rfl (AZ (off:=0) underlying30 rfl rfl sizeOf3 Y)<|Zj 6 2 rfl isAgg3 Y ?_;refine Cj (D':=38) 5 rfl rfl rfl Wh (Pa #[_,_,_,_,_,_,_] isAgg30 sizeOf30 Y) ?_;refine Cj (D':=102) 6 rfl rfl rfl Wh (Pa #[_,_,_,_,_,_,_,_,_,_] isAgg77 sizeOf77 Y) ?_;refine Cj (D':=358) 8 rfl rfl rfl Wh (Pa #[_,_,_] isAgg51 sizeOf51 Y) ?_;refine Zz (l:=[0,13]) ?_;refine Zy 0 359 [8,6,5,2] [true,true,true,true] [(8,(_,_)),(6,(_,_)),(5,(_,_)),(2,(_,_))] rfl Y rfl rfl rfl rfl (Zw [] Y call86 Y rfl (MV)) ?hk_3 D9 ?hl_3
  case hk_3=>
   rintro _ _ ⟨_,⟨mb,es,ck,lm,b5,b6,rfl,hm,hp,rfl⟩,rfl⟩;refine ⟨Zk (Zk (Zk (Zk (Ad)))),?_⟩;have hget:=TT hp hm.keys hq.kind
   refine Cj (D':=367) 3 rfl rfl rfl Wh (OH Gm underlying147 zeroValue146 hm (fun _ _=>trivial) (trivial) ((by rw [hget];exact rfl:_=Value.agg #[.func (.func (Ga q.kd)) #[] #[],.func (.func (Fj q.kd)) #[] (IC b5 b6 q.kd).toArray])) Y Y) ?_;refine Zi 383 4 rfl (UL underlying146 rfl isAgg144 Y rfl)<|Zz (l:=[7,13]) ?_;refine Zy 97 511 [3,8,6,5,2] [true,true,false,false,true] [(3,(_,_)),(8,(_,_)),(2,(_,_))] rfl Y rfl rfl rfl rfl (Zw [_,_] Y call87 Y rfl (JM q hq.2.1 (by have:=hq.2.2.2;omega) c)) ?hk_4 D9 ?hl_4
   case hk_4=>
    rintro _ _ ⟨_,⟨p1,p2,s21,s22,rfl,hP1,hP2,rfl⟩,rfl⟩;refine ⟨Zk (Zk (Zk (Ad))),?_⟩;refine Zz (l:=[9,13]) ?_;refine Zy 511 1023 [3,8,2] [false,false,false] [] rfl Y rfl rfl rfl rfl (Zw [_,_] Y (K5 hq.kind) Y rfl (KC q c hq (jM q hco) hP1 hP2 b5 b6 r g1 c1 s1 h1 hn hv)) ?hk_5 D9 ?hl_5
    case hk_5=>
     rintro _ _ ⟨_,⟨rv2,s3,rfl,h3,rfl⟩,rfl⟩;refine ⟨Ad,?_⟩;obtain ⟨g3,c3,rfl⟩:=h3.form;refine Zi 2047 10 rfl (AJ Y)<|Zi 4095 11 rfl (Cc Y rfl)<|Zi 8191 12 rfl (Cc Y rfl)<|Zz (l:=[13]) ?_;refine Zy 0 16383 [] [] [] rfl Y rfl rfl rfl rfl (Al zeroValue51 #[_,_,_]) ?hk_6 (fun _ _ h=>h.elim) ?hl_6
     case hk_6=>
      rintro _ _ ⟨b8,rfl,rfl⟩;refine ⟨Ad,?_⟩;refine Yw 14 32767 rfl (Xw sizeOf51 #[.slice g3 (Bp q c r).1.rows.length c3,I4 (Bp q c r).1.val,.bool (Bp q c r).1.fnd]) ?_;rintro _ _ ⟨rfl,rfl⟩;refine Zi 65535 15 rfl (Ay Y)<|Am ?_;refine Zn [8,9,6] ?_;refine BB (e':=[(8,_),(9,_)]) (by exact ⟨b8,g3,c3,s3,h3,rfl,rfl⟩)
     exact Aw
    refine Zy 0 8703 [3,8,2] [true,true,true] [(3,(_,_)),(8,(_,_)),(2,(_,_))] rfl Y rfl rfl rfl rfl (Al zeroValue51 #[_,_,_]) ?hk_9 (fun _ _ h=>h.elim) ?hl_9
    case hk_9=>
     rintro _ _ ⟨b8,rfl,rfl⟩;refine ⟨Zk (Zk (Zk (Ad))),?_⟩;refine Zz (l:=[9]) ?_;refine Zy 511 9215 [3,8,2] [false,false,false] [] rfl Y rfl rfl rfl rfl (Zw [_,_] Y (K5 hq.kind) Y rfl (KC q c hq (jM q hco) hP1 hP2 b5 b6 r g1 c1 s1 h1 hn hv)) ?hk_10 D9 ?hl_10
     case hk_10=>
      rintro _ _ ⟨_,⟨rv2,s3,rfl,h3,rfl⟩,rfl⟩;refine ⟨Ad,?_⟩;obtain ⟨g3,c3,rfl⟩:=h3.form;refine Zi 10239 10 rfl (AJ Y)<|Zi 12287 11 rfl (Cc Y rfl)<|Zi 16383 12 rfl (Cc Y rfl)<|Zz (l:=[14]) ?_;refine Zy 12287 32767 [] [] [] rfl Y rfl rfl rfl rfl (Xw sizeOf51 #[.slice g3 (Bp q c r).1.rows.length c3,I4 (Bp q c r).1.val,.bool (Bp q c r).1.fnd]) ?hk_11 (fun _ _ h=>h.elim) ?hl_11
      case hk_11=>
       rintro _ _ ⟨rfl,rfl⟩;refine ⟨Ad,?_⟩;refine Zi 65535 15 rfl (Ay Y)<|Am ?_;refine Zn [8,9,6] ?_;refine BB (e':=[(8,_),(9,_)]) (by exact ⟨b8,g3,c3,s3,h3,rfl,rfl⟩)
      exact Aw
     exact Aw
    exact Aw
   refine Zy 0 8575 [3,8,6,5,2] [true,true,true,true,true] [(3,(_,_)),(8,(_,_)),(6,(_,_)),(5,(_,_)),(2,(_,_))] rfl Y rfl rfl rfl rfl (Al zeroValue51 #[_,_,_]) ?hk_13 (fun _ _ h=>h.elim) ?hl_13
   case hk_13=>
    rintro _ _ ⟨b8,rfl,rfl⟩;refine ⟨Zk (Zk (Zk (Zk (Zk (Ad))))),?_⟩;refine Zz (l:=[7]) ?_;refine Zy 97 8703 [3,8,6,5,2] [true,true,false,false,true] [(3,(_,_)),(8,(_,_)),(2,(_,_))] rfl Y rfl rfl rfl rfl (Zw [_,_] Y call87 Y rfl (JM q hq.2.1 (by have:=hq.2.2.2;omega) c)) ?hk_14 D9 ?hl_14
    case hk_14=>
     rintro _ _ ⟨_,⟨p1,p2,s21,s22,rfl,hP1,hP2,rfl⟩,rfl⟩;refine ⟨Zk (Zk (Zk (Ad))),?_⟩;refine Zz (l:=[9]) ?_;refine Zy 511 9215 [3,8,2] [false,false,false] [] rfl Y rfl rfl rfl rfl (Zw [_,_] Y (K5 hq.kind) Y rfl (KC q c hq (jM q hco) hP1 hP2 b5 b6 r g1 c1 s1 h1 hn hv)) ?hk_15 D9 ?hl_15
     case hk_15=>
      rintro _ _ ⟨_,⟨rv2,s3,rfl,h3,rfl⟩,rfl⟩;refine ⟨Ad,?_⟩;obtain ⟨g3,c3,rfl⟩:=h3.form;refine Zi 10239 10 rfl (AJ Y)<|Zi 12287 11 rfl (Cc Y rfl)<|Zi 16383 12 rfl (Cc Y rfl)<|Zz (l:=[14]) ?_;refine Zy 12287 32767 [] [] [] rfl Y rfl rfl rfl rfl (Xw sizeOf51 #[.slice g3 (Bp q c r).1.rows.length c3,I4 (Bp q c r).1.val,.bool (Bp q c r).1.fnd]) ?hk_16 (fun _ _ h=>h.elim) ?hl_16
      case hk_16=>
       rintro _ _ ⟨rfl,rfl⟩;refine ⟨Ad,?_⟩;refine Zi 65535 15 rfl (Ay Y)<|Am ?_;refine Zn [8,9,6] ?_;refine BB (e':=[(8,_),(9,_)]) (by exact ⟨b8,g3,c3,s3,h3,rfl,rfl⟩)
      exact Aw
     exact Aw
    exact Aw
   exact Aw
  refine Zy 0 8550 [8,6,5,2] [true,true,true,true] [(8,(_,_)),(6,(_,_)),(5,(_,_)),(2,(_,_))] rfl Y rfl rfl rfl rfl (Al zeroValue51 #[_,_,_]) ?hk_18 (fun _ _ h=>h.elim) ?hl_18
  case hk_18=>
   rintro _ _ ⟨b8,rfl,rfl⟩;refine ⟨Zk (Zk (Zk (Zk (Ad)))),?_⟩;refine Zz (l:=[0]) ?_;refine Zy 0 8551 [8,6,5,2] [true,true,true,true] [(8,(_,_)),(6,(_,_)),(5,(_,_)),(2,(_,_))] rfl Y rfl rfl rfl rfl (Zw [] Y call86 Y rfl (MV)) ?hk_19 D9 ?hl_19
   case hk_19=>
    rintro _ _ ⟨_,⟨mb,es,ck,lm,b5,b6,rfl,hm,hp,rfl⟩,rfl⟩;refine ⟨Zk (Zk (Zk (Zk (Ad)))),?_⟩;have hget:=TT hp hm.keys hq.kind
    refine Cj (D':=8559) 3 rfl rfl rfl Wh (OH Gm underlying147 zeroValue146 hm (fun _ _=>trivial) (trivial) ((by rw [hget];exact rfl:_=Value.agg #[.func (.func (Ga q.kd)) #[] #[],.func (.func (Fj q.kd)) #[] (IC b5 b6 q.kd).toArray])) Y Y) ?_;refine Zi 8575 4 rfl (UL underlying146 rfl isAgg144 Y rfl)<|Zz (l:=[7]) ?_;refine Zy 97 8703 [3,8,6,5,2] [true,true,false,false,true] [(3,(_,_)),(8,(_,_)),(2,(_,_))] rfl Y rfl rfl rfl rfl (Zw [_,_] Y call87 Y rfl (JM q hq.2.1 (by have:=hq.2.2.2;omega) c)) ?hk_20 D9 ?hl_20
    case hk_20=>
     rintro _ _ ⟨_,⟨p1,p2,s21,s22,rfl,hP1,hP2,rfl⟩,rfl⟩;refine ⟨Zk (Zk (Zk (Ad))),?_⟩;refine Zz (l:=[9]) ?_;refine Zy 511 9215 [3,8,2] [false,false,false] [] rfl Y rfl rfl rfl rfl (Zw [_,_] Y (K5 hq.kind) Y rfl (KC q c hq (jM q hco) hP1 hP2 b5 b6 r g1 c1 s1 h1 hn hv)) ?hk_21 D9 ?hl_21
     case hk_21=>
      rintro _ _ ⟨_,⟨rv2,s3,rfl,h3,rfl⟩,rfl⟩;refine ⟨Ad,?_⟩;obtain ⟨g3,c3,rfl⟩:=h3.form;refine Zi 10239 10 rfl (AJ Y)<|Zi 12287 11 rfl (Cc Y rfl)<|Zi 16383 12 rfl (Cc Y rfl)<|Zz (l:=[14]) ?_;refine Zy 12287 32767 [] [] [] rfl Y rfl rfl rfl rfl (Xw sizeOf51 #[.slice g3 (Bp q c r).1.rows.length c3,I4 (Bp q c r).1.val,.bool (Bp q c r).1.fnd]) ?hk_22 (fun _ _ h=>h.elim) ?hl_22
      case hk_22=>
       rintro _ _ ⟨rfl,rfl⟩;refine ⟨Ad,?_⟩;refine Zi 65535 15 rfl (Ay Y)<|Am ?_;refine Zn [8,9,6] ?_;refine BB (e':=[(8,_),(9,_)]) (by exact ⟨b8,g3,c3,s3,h3,rfl,rfl⟩)
      exact Aw
     exact Aw
    exact Aw
   exact Aw
  exact Aw
 rintro _ _ ⟨b8,g3,c3,s3,h3,rfl,rfl⟩;refine Zq<|Zq<|Zg<|Zm Y<|Zv (Ca Y)<|Z0<|Zx ?_;refine Af Y (fun hk=>?_) (fun hk=>?_)
 ·
  have hk9:(Bp q c r).2=false:=by simpa using hk
  refine Zq<|Bd ?_;refine Zg<|Zv (BK (vs:=[]) (cs:=#[_,_,_]) Y (Aa (pl:=#[(0,1),(1,1),(2,1)]) zeroValue51 underlying51 (fun _=>by kernel_rfl) rfl)) ?_;refine Xe (Xw sizeOf51 _) ?_;refine Za Y<|Z0<|Zx<|A9<|Zt ?_;refine Bb rfl results184 Y Wh (Ah isAgg51 sizeOf51 Wn (rfl)) Y (by
   have e9:Cu q c r=(CG.none,false):=by unfold Cu;rw [ht9,if_pos rfl,hk9];rfl
   exact ⟨.slice none 0 0,[],by rw [e9];rfl,by rw [e9];exact BV 5 _,rfl⟩)
 have hk9:(Bp q c r).2=true:=by simpa using hk
 refine AC<|Zx<|Zq<|Zg<|Zo Wh (Pa #[_,_,_] isAgg51 sizeOf51 Y) ?_;refine Xe (Xw sizeOf51 _) ?_;refine Za Y<|Z0<|Zx<|A9 ?_;refine Bb rfl results184 Y Wh (Ah isAgg51 sizeOf51 Wn (rfl)) Y (by
  have e9:Cu q c r=((Bp q c r).1,true):=by unfold Cu;rw [ht9,if_pos rfl,hk9];rfl
  exact ⟨.slice g3 _ c3,s3,by rw [e9];rfl,by rw [e9];exact h3,rfl⟩)
set_option maxHeartbeats 1000000 in
theorem Yo(q:QM)(hq:BP q)(p:Int)(qa:Option Addr)(cap:Nat)(cs:List Chg){MC:List AR}(hC:Dh MC (.slice qa cs.length cap) cs)(hcl:cs.length≤1000){r:CG}{rv:Value}{A:List AR}(hr:DV A rv r.rows)(hn:r.rows.length≤10000000)(hv:-2000000000000000000≤r.val∧r.val≤2000000000000000000):CO Tryz.prog 95 #[.agg #[I4 q.kd,I4 q.tb,I4 q.cl,I4 q.lo,I4 q.hi,I4 q.bq,I4 q.ot],.agg #[rv,I4 r.val,.bool r.fnd],.agg #[I4 p,.slice qa cs.length cap]] [A,MC] (fun w H'=>∃rv' s',w= .tuple #[.agg #[rv',I4 (DC q r cs).1.val,.bool (DC q r cs).1.fnd],.bool (DC q r cs).2.1,.bool (DC q r cs).2.2]∧BX 5 113 rv' (DC q r cs).1.rows.length (Ac (DC q r cs).1.rows) s'∧H'=[s',A,MC]):=by
 have hml:=mL;obtain ⟨pv,cv,rfl,_⟩:=id hr;obtain ⟨pc,capc,hvc,hcm,hgc⟩:=id hC;injection hvc with hv1 hv2 hv3
 subst hv1 hv3;refine Se func95 ntmps95 [0,1,2] ?_;intro u R;refine Zq<|Zg<|Ze (Bx #[I4 q.kd,I4 q.tb,I4 q.cl,I4 q.lo,I4 q.hi,I4 q.bq,I4 q.ot]) ?_;rintro _ _ ⟨bq,rfl,rfl⟩;refine Ze (Bx #[.slice pv r.rows.length cv,I4 r.val,.bool r.fnd]) ?_;rintro _ _ ⟨br,rfl,rfl⟩;refine Ze (Bx #[I4 p,.slice qa cs.length cap]) ?_;rintro _ _ ⟨bc,rfl,rfl⟩;refine Ze (Al zeroValue51 #[_,_,_]) ?_;rintro _ _ ⟨bo,rfl,rfl⟩;refine Za Y<|Za Y<|Z0<|Zx<|Zq<|Zg<|Za Y<|Z0<|Zx<|Zq<|Zg<|Zh 0 underlying51 rfl rfl sizeOf45 Y<|Zl isAgg45 Y ?_;refine Zc [_] Y call94 Y rfl (He hr (by omega)) ?_;rintro _ _ ⟨_,⟨s1,h1,rfl⟩,rfl⟩;obtain ⟨g1,c1,rfl⟩:=h1.form;refine Zh 0 underlying51 rfl rfl sizeOf45 Y<|Xe (Zs sizeOf45 Y Y rfl (hi:=by first|omega|decide|(simp;done))) ?_;refine Z0<|Zx<|Zq<|Zq<|Zg<|Zh 1 underlying73 rfl rfl sizeOf71 Y<|Zl isAgg71 Y ?_;refine Zv (AV underlying71 Y)<|Zm Y<|Z0<|Zn [3,4,6,9,18,19,20] ?_;refine Zx<|AQ<|Zb [9,20,3,4,6,18,19] ?_;refine Az (e0:=[(9,_),(20,_)]) (fun m e H=>∃(k:Nat) (rk:CG) (gk:Option Addr) (ck:Nat) (sk:List AR),m=cs.length -k∧(k≤cs.length∧IA q r (cs.take k)=some rk∧BX 5 113 (.slice gk rk.rows.length ck) rk.rows.length (Ac rk.rows) sk)∧e=[(9,.bool ((cs.take k).any (Eh q))),(20,I4 (k:Int))]∧H=[[(br,.cells #[.slice gk rk.rows.length ck,I4 rk.val,.bool rk.fnd] 51 (0,0))],sk]) (by exact ⟨0,r,g1,c1,s1,rfl,⟨tX _,by rw [ut];rfl,h1⟩,rfl,rfl⟩) Wp ?_;rintro _ _ _ ⟨k,rk,gk,ck,sk,rfl,⟨hk,hrk,hsk⟩,rfl,rfl⟩;obtain ⟨hkv,hkn⟩:=U7 (cs.take k) r rk 2000000000000000000 10000000 hrk hv (by omega) hn;have hkl:(cs.take k).length=k:=by rw [tL];omega
 rw [hkl]at hkv hkn;have hUk:=Dv hsk (by omega)
 refine Zq<|Zg<|Zv (Aq Y Y)<|Z0<|Zx<|Zq ?_;refine Ao Y (fun hlt=>?_) (fun hlt=>?_)
 ·
  obtain ⟨y,hy⟩:∃y,cs[k]?=some y:=⟨_,tF hlt⟩;obtain ⟨g2,off2,cur2,T2,zz2,rfl,hm2,hsz2,hex2⟩:=hgc k y hy;refine AC<|Zx<|Zq<|AQ<|Zq<|Zg ?_;refine BM (AU underlying71 sizeOf77 Y Y (by first|omega|decide|(simp;done))) ?_;refine Cf (cs:=[(g2,.cells cur2 T2 zz2)]) (by simp [hm2]) (AX (cs:=#[I4 y.t,I4 y.k,.bool y.had,I4 y.o.a,I4 y.o.b,I4 y.o.c,.bool y.has,I4 y.n.a,I4 y.n.b,I4 y.n.c]) isAgg77 sizeOf77 Y (by omega) hex2) rfl rfl ?_;refine Ze (Al zeroValue77 #[_,_,_,_,_,_,_,_,_,_]) ?_;rintro _ _ ⟨bx,rfl,rfl⟩;refine Xe (Xw sizeOf77 #[I4 y.t,I4 y.k,.bool y.had,I4 y.o.a,I4 y.o.b,I4 y.o.c,.bool y.has,I4 y.n.a,I4 y.n.b,I4 y.n.c]) ?_;refine Z0<|Zx<|Zq<|Zg<|Zm Y<|Zm Y ?_;refine Ai (t:=25) Y rfl (fun h1t=>?_) (fun h1t=>?_)
  ·
   have e9:(cs.take (k+1)).any (Eh q)=true:=by rw [Tn _ hy,h1t];rfl
   refine A7 Y rfl<|A7 Y rfl<|A7 Y rfl<|Zv (AL Y Y)<|Za Y<|Z0<|Zx<|Zq<|Zg<|Za Y<|Z0<|Zn [3,4,6,9,11,18,19,20] ?_;refine Zx<|Zq<|Zg<|Zo Wh (Pa #[_,_,_,_,_,_,_] isAgg30 sizeOf30 Y) ?_;refine Zo Wh (Pa #[_,_,_] isAgg51 sizeOf51 Y) ?_;refine Zo Wh (Pa #[_,_,_,_,_,_,_,_,_,_] isAgg77 sizeOf77 Y) ?_;refine Zc [_,_,_] Y call184 Y rfl (QL q hq y hUk (by omega) (by omega)) ?_;rintro _ _ ⟨_,⟨rv3,s3,rfl,h3,rfl⟩,rfl⟩;obtain ⟨g3,c3,rfl⟩:=h3.form;refine Zm Y<|Zd Y rfl<|Zd Y rfl<|Xe (Xw sizeOf51 #[.slice g3 (Cu q y rk).1.rows.length c3,I4 (Cu q y rk).1.val,.bool (Cu q y rk).1.fnd]) ?_;refine Za Y<|Z0<|Zx<|Zq<|Zg<|Zm Y<|Zv (Ca Y)<|Z0<|Zx ?_;refine Af Y (fun hok=>?_) (fun hok=>?_)
   ·
    have hk9:(Cu q y rk).2=false:=by simpa using hok
    have e8:DC q r cs=(CG.none,true,false):=by unfold DC;rw [Nz (k:=k+1) (by rw [Ja hrk hy,hk9];rfl)]
    refine Zq<|Bd ?_;refine Zg<|Zv (BK (vs:=[]) (cs:=#[_,_,_]) Y (Aa (pl:=#[(0,1),(1,1),(2,1)]) zeroValue51 underlying51 (fun _=>by kernel_rfl) rfl)) ?_;refine Xe (Xw sizeOf51 _) ?_;refine Za Y<|Za Y<|Z0<|Zn [6,7,8] ?_;refine Zx<|A9<|AY<|Zt<|Zt<|AY<|Zt ?_;refine Gj rfl results95 Y Wh (Ah isAgg51 sizeOf51 Wn (rfl)) Y Y (by exact ⟨.slice none 0 0,[],by rw [e8];rfl,by rw [e8];exact BV 5 _,rfl⟩)
   have hk9:(Cu q y rk).2=true:=by simpa using hok
   refine AC<|A8<|Zx<|Zg<|Ya (n:=1) Y Y<|Zm Y<|Z0<|Zn [9,20,3,4,6,18,19] ?_;refine Ab (e':=[(9,_),(20,_)]) (by exact ⟨k+1,(Cu q y rk).1,g3,c3,s3,rfl,⟨by omega,by rw [Ja hrk hy,if_pos hk9],h3⟩,by rw [e9],rfl⟩)
  have e9:(cs.take (k+1)).any (Eh q)=Eh q y:=by rw [Tn _ hy,h1t];rfl
  refine DL Y Wh (Pa #[_,_,_,_,_,_,_] isAgg30 sizeOf30 Y) rfl rfl ?_;refine DL Y Wh (Pa #[_,_,_,_,_,_,_,_,_,_] isAgg77 sizeOf77 Y) rfl rfl ?_;refine Xr [_,_] Y call30 Y rfl (Mo q y) ?_;rw [show(decide (BP q)&&(decide y.ok&&Dr q y))=Eh q y by rw [decide_eq_true hq];rfl];refine Zv (AA Y Y)<|Za Y<|Z0<|Zx<|Zq<|Zg<|Za Y<|Z0<|Zn [3,4,6,9,11,18,19,20] ?_;refine Zx<|Zq<|Zg<|Zo Wh (Pa #[_,_,_,_,_,_,_] isAgg30 sizeOf30 Y) ?_;refine Zo Wh (Pa #[_,_,_] isAgg51 sizeOf51 Y) ?_;refine Zo Wh (Pa #[_,_,_,_,_,_,_,_,_,_] isAgg77 sizeOf77 Y) ?_;refine Zc [_,_,_] Y call184 Y rfl (QL q hq y hUk (by omega) (by omega)) ?_;rintro _ _ ⟨_,⟨rv3,s3,rfl,h3,rfl⟩,rfl⟩;obtain ⟨g3,c3,rfl⟩:=h3.form;refine Zm Y<|Zd Y rfl<|Zd Y rfl<|Xe (Xw sizeOf51 #[.slice g3 (Cu q y rk).1.rows.length c3,I4 (Cu q y rk).1.val,.bool (Cu q y rk).1.fnd]) ?_;refine Za Y<|Z0<|Zx<|Zq<|Zg<|Zm Y<|Zv (Ca Y)<|Z0<|Zx ?_;refine Af Y (fun hok=>?_) (fun hok=>?_)
  ·
   have hk9:(Cu q y rk).2=false:=by simpa using hok
   have e8:DC q r cs=(CG.none,true,false):=by unfold DC;rw [Nz (k:=k+1) (by rw [Ja hrk hy,hk9];rfl)]
   refine Zq<|Bd ?_;refine Zg<|Zv (BK (vs:=[]) (cs:=#[_,_,_]) Y (Aa (pl:=#[(0,1),(1,1),(2,1)]) zeroValue51 underlying51 (fun _=>by kernel_rfl) rfl)) ?_;refine Xe (Xw sizeOf51 _) ?_;refine Za Y<|Za Y<|Z0<|Zn [6,7,8] ?_;refine Zx<|A9<|AY<|Zt<|Zt<|AY<|Zt ?_;refine Gj rfl results95 Y Wh (Ah isAgg51 sizeOf51 Wn (rfl)) Y Y (by exact ⟨.slice none 0 0,[],by rw [e8];rfl,by rw [e8];exact BV 5 _,rfl⟩)
  have hk9:(Cu q y rk).2=true:=by simpa using hok
  refine AC<|A8<|Zx<|Zg<|Ya (n:=1) Y Y<|Zm Y<|Z0<|Zn [9,20,3,4,6,18,19] ?_;refine Ab (e':=[(9,_),(20,_)]) (by exact ⟨k+1,(Cu q y rk).1,g3,c3,s3,rfl,⟨by omega,by rw [Ja hrk hy,if_pos hk9],h3⟩,by rw [e9],rfl⟩)
 have ek:k=cs.length:=by omega
 subst ek;rw [uQ]at hrk⊢;have e8:DC q r cs=(rk,cs.any (Eh q),true):=by unfold DC;rw [hrk]
 refine Ar<|Zt<|Zt<|AO<|Zx<|Zq<|Zg<|Zo Wh (Pa #[_,_,_] isAgg51 sizeOf51 Y) ?_;refine Zm Y<|Xe (Xw sizeOf51 _) ?_;refine Za Y<|Za Y<|Z0<|Zx<|A9 ?_;refine Gj rfl results95 Y Wh (Ah isAgg51 sizeOf51 Wn (rfl)) Y Y (by exact ⟨.slice gk _ ck,sk,by rw [e8];rfl,by rw [e8];exact hsk,rfl⟩)
end Go.Proofs.YtkdgffcfmgmemaaGreatDoor
