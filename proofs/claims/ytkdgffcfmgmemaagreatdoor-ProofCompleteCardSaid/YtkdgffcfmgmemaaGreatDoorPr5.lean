/- The patches of least and greatest values; the patch of a kind. -/
/- predicate.Patch, Apply. -/
import Derived.Test.YtkdgffcfmgmemaaGreatDoorEz
import Derived.Test.YtkdgffcfmgmemaaGreatDoorPr3
import Derived.Test.YtkdgffcfmgmemaaGreatDoorPj4
set_option linter.unusedVariables false
set_option linter.unusedSimpArgs false
namespace Go.Proofs.YtkdgffcfmgmemaaGreatDoor
open Go.Proofs.Tryz
open Go Go.RowKit Gw
set_option maxRecDepth 100000
attribute [local irreducible] Gw.At Gw.Nx Gw.Ops
def Bq(q:QM)(c:Chg)(r:CO):CO×Bool:=
 if q.kd=1∨q.kd=2 then(⟨Dq q c r.rows,r.val,r.fnd⟩,true)
 else if q.kd=3 then(⟨r.rows,if(afQ q c).isSome then r.val+1 else r.val -1,r.fnd⟩,true)
 else if q.kd=4 then(⟨r.rows,r.val+(mQ q (afQ q c) -mQ q (bfQ q c)),r.fnd⟩,true)
 else if q.kd=5 then Fu (fun a b=>decide (a<b)) (bfQ q c).isSome (afQ q c).isSome (mQ q (bfQ q c)) (mQ q (afQ q c)) r
 else if q.kd=6 then Fu (fun a b=>decide (b<a)) (bfQ q c).isSome (afQ q c).isSome (mQ q (bfQ q c)) (mQ q (afQ q c)) r
 else Cv q c r
theorem Xp(q:QM)(c:Chg)(r:CO):(Bq q c r).1.rows.length≤r.rows.length+2:=by
 have h:=Rb q c r.rows;unfold Bq;split
 · exact xk h (Nat.le_succ _)
 · split
   · exact y8 _ _
   · split
     · exact y8 _ _
     · split
       · rw [Lt];exact y8 _ _
       · split
         · rw [Lt];exact y8 _ _
         · exact Xt q c r
set_option maxHeartbeats 1000000 in
theorem TC(q:QM)(c:Chg)(p1 p2:Option Addr)(o n:Int)(r:CO)(pv:Option Addr)(kv cv b fid:Nat)(lt:Int→Int→Bool)(hcf:∀(args:Array Value) (w:World),(callFunc fid args).run Tryz.prog w= .ok (.enter fid args) w)(hlt:∀x y:Int,Aw Tryz.prog fid #[I4 x,I4 y] [] (.bool (lt x y))):Aw Tryz.prog 233 #[.agg #[I4 q.kd,I4 q.tb,I4 q.cl,I4 q.lo,I4 q.hi,I4 q.bq,I4 q.ot,I4 c.t,I4 c.k,.bool c.had,I4 c.o.a,I4 c.o.b,I4 c.o.c,.bool c.has,I4 c.n.a,I4 c.n.b,I4 c.n.c,.pointer p1,.pointer p2,I4 o,I4 n],.agg #[.slice pv kv cv,I4 r.val,.bool r.fnd],I5 b] [[(b,.cells #[.func (.func fid) #[] #[]] 185 (0,0))]] (.tuple #[.agg #[.slice pv kv cv,I4 (Fu lt p1.isSome p2.isSome o n r).1.val,.bool (Fu lt p1.isSome p2.isSome o n r).1.fnd],.bool (Fu lt p1.isSome p2.isSome o n r).2]):=by
 refine Se func233 ntmps233 [0,1,2] ?_;intro u R;refine Zq<|Zg<|Ze (H8 Y (cs:=#[I4 q.kd,I4 q.tb,I4 q.cl,I4 q.lo,I4 q.hi,I4 q.bq,I4 q.ot,I4 c.t,I4 c.k,.bool c.had,I4 c.o.a,I4 c.o.b,I4 c.o.c,.bool c.has,I4 c.n.a,I4 c.n.b,I4 c.n.c,.pointer p1,.pointer p2,I4 o,I4 n]) (FZ q c p1 p2 o n)) ?_;rintro _ _ ⟨be,rfl,rfl⟩;refine Ze (Bx #[.slice pv kv cv,I4 r.val,.bool r.fnd]) ?_;rintro _ _ ⟨br,rfl,rfl⟩;refine Ze (Al zeroValue51 #[_,_,_]) ?_;rintro _ _ ⟨b3,rfl,rfl⟩;refine Za Y<|Z0<|Zx<|Zq<|Zq<|Zg<|Zh 17 underlying151 rfl rfl sizeOf149 Y<|Zl isAgg149 Y ?_;refine Zv (Ec underlying149 Y Y)<|Zm Y ?_;refine Ak (t:=11) Y rfl (fun h1=>?_) (fun h1=>?_)
 ·
  refine Yf 2 underlying51 rfl rfl sizeOf4 Y<|Yl isAgg4 Y ?_;refine Yg (CZ Y)<|Zf Y Y ?_;refine Ak (t:=15) Y rfl (fun h2=>?_) (fun h2=>?_)
  ·
   refine A7 Y rfl<|A7 Y rfl<|A7 Y rfl<|A7 Y rfl<|A7 Y rfl<|A7 Y rfl<|A7 Y rfl<|Yg (AL Y Y)<|Zv (AL Y Y)<|Z0<|Zn [2,3,4,5,24] ?_;refine Zx<|CE Y<|Zq<|Zg<|Zh 18 underlying151 rfl rfl sizeOf149 Y<|Zl isAgg149 Y ?_;refine Zv (Ec underlying149 Y Y)<|Zm Y ?_;refine Ak (t:=28) Y rfl (fun h4=>?_) (fun h4=>?_)
   ·
    refine Yf 2 underlying51 rfl rfl sizeOf4 Y<|Yl isAgg4 Y ?_;refine Zv (AL Y Y)<|Zm Y ?_;refine Ak (t:=32) Y rfl (fun h5=>?_) (fun h5=>?_)
    ·
     refine Yl isAgg185 Y ?_;refine Yf 1 underlying51 rfl rfl sizeOf3 Y<|Yl isAgg3 Y ?_;refine Yf 20 underlying151 rfl rfl sizeOf3 Y<|Yl isAgg3 Y ?_;refine Xr [_,_] Y (hcf) Y rfl (hlt (r.val) (n)) ?_;refine Yg (CZ Y)<|Zv (AL Y Y)<|Za Y<|Z0<|Zn [3,4,5,7] ?_;refine Zx<|Zq<|Zg<|Zh 20 underlying151 rfl rfl sizeOf3 Y<|Zl isAgg3 Y ?_;refine Zh 1 underlying51 rfl rfl sizeOf3 Y<|Xe (Zs sizeOf3 Y Y rfl (hi:=by first|omega|decide|(simp;done))) ?_;refine Z0<|Zx<|Zq<|Zg<|Zo Wh (Pa #[_,_,_] isAgg51 sizeOf51 Y) ?_;refine Zm Y<|Xe (Xw sizeOf51 _) ?_;refine Za Y<|Z0<|Zx<|A9<|Zt ?_;refine Bb rfl results233 Y Wh (Ah isAgg51 sizeOf51 Wn (rfl)) Y (by
      refine ⟨?_,rfl⟩;unfold Fu;simp_all<;>rfl)
    refine A7 Y rfl<|A7 Y rfl<|A7 Y rfl<|A7 Y rfl<|A7 Y rfl<|A7 Y rfl<|A7 Y rfl<|Zv (AA Y Y)<|Za Y<|Z0<|Zn [3,4,5,7] ?_;refine Zx<|Zq<|Zg<|Zh 20 underlying151 rfl rfl sizeOf3 Y<|Zl isAgg3 Y ?_;refine Zh 1 underlying51 rfl rfl sizeOf3 Y<|Xe (Zs sizeOf3 Y Y rfl (hi:=by first|omega|decide|(simp;done))) ?_;refine Z0<|Zx<|Zq<|Zg<|Zo Wh (Pa #[_,_,_] isAgg51 sizeOf51 Y) ?_;refine Zm Y<|Xe (Xw sizeOf51 _) ?_;refine Za Y<|Z0<|Zx<|A9<|Zt ?_;refine Bb rfl results233 Y Wh (Ah isAgg51 sizeOf51 Wn (rfl)) Y (by
     refine ⟨?_,rfl⟩;unfold Fu;simp_all<;>rfl)
   refine A7 Y rfl<|A7 Y rfl<|Zv (AA Y Y)<|Zm Y<|A7 Y rfl<|A7 Y rfl<|A7 Y rfl<|A7 Y rfl<|A7 Y rfl<|A7 Y rfl<|A7 Y rfl<|Zv (AA Y Y)<|Za Y<|Z0<|Zn [3,4,5,7] ?_;refine Zx<|Zq<|Zg<|Zh 20 underlying151 rfl rfl sizeOf3 Y<|Zl isAgg3 Y ?_;refine Zh 1 underlying51 rfl rfl sizeOf3 Y<|Xe (Zs sizeOf3 Y Y rfl (hi:=by first|omega|decide|(simp;done))) ?_;refine Z0<|Zx<|Zq<|Zg<|Zo Wh (Pa #[_,_,_] isAgg51 sizeOf51 Y) ?_;refine Zm Y<|Xe (Xw sizeOf51 _) ?_;refine Za Y<|Z0<|Zx<|A9<|Zt ?_;refine Bb rfl results233 Y Wh (Ah isAgg51 sizeOf51 Wn (rfl)) Y (by
    refine ⟨?_,rfl⟩;unfold Fu;simp_all<;>rfl)
  refine Yl isAgg185 Y ?_;refine Yf 1 underlying51 rfl rfl sizeOf3 Y<|Yl isAgg3 Y ?_;refine Yf 19 underlying151 rfl rfl sizeOf3 Y<|Yl isAgg3 Y ?_;refine Xr [_,_] Y (hcf) Y rfl (hlt (r.val) (o)) ?_;refine Yg (CZ Y)<|Yg (AA Y Y)<|Zv (AL Y Y)<|Z0<|Zn [2,3,4,5,24] ?_;refine Zx ?_;refine Af Y (fun h3=>?_) (fun h3=>?_)
  ·
   refine Zq<|Zg<|Zh 18 underlying151 rfl rfl sizeOf149 Y<|Zl isAgg149 Y ?_;refine Zv (Ec underlying149 Y Y)<|Zm Y ?_;refine Ak (t:=28) Y rfl (fun h5=>?_) (fun h5=>?_)
   ·
    refine Yf 2 underlying51 rfl rfl sizeOf4 Y<|Yl isAgg4 Y ?_;refine Zv (AL Y Y)<|Zm Y ?_;refine Ak (t:=32) Y rfl (fun h5=>?_) (fun h5=>?_)
    ·
     refine Yl isAgg185 Y ?_;refine Yf 1 underlying51 rfl rfl sizeOf3 Y<|Yl isAgg3 Y ?_;refine Yf 20 underlying151 rfl rfl sizeOf3 Y<|Yl isAgg3 Y ?_;refine Xr [_,_] Y (hcf) Y rfl (hlt (r.val) (n)) ?_;refine Yg (CZ Y)<|Zv (AL Y Y)<|Za Y<|Z0<|Zn [3,4,5,7] ?_;refine Zx<|Zq<|Zg<|Zh 20 underlying151 rfl rfl sizeOf3 Y<|Zl isAgg3 Y ?_;refine Zh 1 underlying51 rfl rfl sizeOf3 Y<|Xe (Zs sizeOf3 Y Y rfl (hi:=by first|omega|decide|(simp;done))) ?_;refine Z0<|Zx<|Zq<|Zg<|Zo Wh (Pa #[_,_,_] isAgg51 sizeOf51 Y) ?_;refine Zm Y<|Xe (Xw sizeOf51 _) ?_;refine Za Y<|Z0<|Zx<|A9<|Zt ?_;refine Bb rfl results233 Y Wh (Ah isAgg51 sizeOf51 Wn (rfl)) Y (by
      refine ⟨?_,rfl⟩;unfold Fu;simp_all<;>rfl)
    refine A7 Y rfl<|A7 Y rfl<|A7 Y rfl<|A7 Y rfl<|A7 Y rfl<|A7 Y rfl<|A7 Y rfl<|Zv (AA Y Y)<|Za Y<|Z0<|Zn [3,4,5,7] ?_;refine Zx<|Zq<|Zg<|Zh 20 underlying151 rfl rfl sizeOf3 Y<|Zl isAgg3 Y ?_;refine Zh 1 underlying51 rfl rfl sizeOf3 Y<|Xe (Zs sizeOf3 Y Y rfl (hi:=by first|omega|decide|(simp;done))) ?_;refine Z0<|Zx<|Zq<|Zg<|Zo Wh (Pa #[_,_,_] isAgg51 sizeOf51 Y) ?_;refine Zm Y<|Xe (Xw sizeOf51 _) ?_;refine Za Y<|Z0<|Zx<|A9<|Zt ?_;refine Bb rfl results233 Y Wh (Ah isAgg51 sizeOf51 Wn (rfl)) Y (by
     refine ⟨?_,rfl⟩;unfold Fu;simp_all<;>rfl)
   refine A7 Y rfl<|A7 Y rfl<|Zv (AA Y Y)<|Zm Y<|A7 Y rfl<|A7 Y rfl<|A7 Y rfl<|A7 Y rfl<|A7 Y rfl<|A7 Y rfl<|A7 Y rfl<|Zv (AA Y Y)<|Za Y<|Z0<|Zn [3,4,5,7] ?_;refine Zx<|Zq<|Zg<|Zh 20 underlying151 rfl rfl sizeOf3 Y<|Zl isAgg3 Y ?_;refine Zh 1 underlying51 rfl rfl sizeOf3 Y<|Xe (Zs sizeOf3 Y Y rfl (hi:=by first|omega|decide|(simp;done))) ?_;refine Z0<|Zx<|Zq<|Zg<|Zo Wh (Pa #[_,_,_] isAgg51 sizeOf51 Y) ?_;refine Zm Y<|Xe (Xw sizeOf51 _) ?_;refine Za Y<|Z0<|Zx<|A9<|Zt ?_;refine Bb rfl results233 Y Wh (Ah isAgg51 sizeOf51 Wn (rfl)) Y (by
    refine ⟨?_,rfl⟩;unfold Fu;simp_all<;>rfl)
  refine AB<|Zx<|Zq<|Zq<|Zg<|Zh 18 underlying151 rfl rfl sizeOf149 Y<|Zl isAgg149 Y ?_;refine Zv (Ec underlying149 Y Y)<|Z0<|Zx ?_;refine Af Y (fun h6=>?_) (fun h6=>?_)
  ·
   refine Zq<|Zq<|Zg<|Zh 2 underlying51 rfl rfl sizeOf4 Y<|Zl isAgg4 Y ?_;refine Zv (CZ Y)<|Zm Y ?_;refine Ak (t:=52) Y rfl (fun h7=>?_) (fun h7=>?_)
   ·
    refine A7 Y rfl<|A7 Y rfl<|A7 Y rfl<|A7 Y rfl<|A7 Y rfl<|A7 Y rfl<|Zv (AL Y Y)<|Z0<|Zn [3,4,5,59] ?_;refine Zx<|CE Y<|Zg<|Zh 20 underlying151 rfl rfl sizeOf3 Y<|Zl isAgg3 Y ?_;refine Zh 1 underlying51 rfl rfl sizeOf3 Y<|Xe (Zs sizeOf3 Y Y rfl (hi:=by first|omega|decide|(simp;done))) ?_;refine Z0<|Zx<|Zg<|Zh 2 underlying51 rfl rfl sizeOf4 Y<|Xe (Zs sizeOf4 Y Y rfl (hi:=by first|omega|decide|(simp;done))) ?_;refine Z0<|Zx<|Zq<|Zg<|Zo Wh (Pa #[_,_,_] isAgg51 sizeOf51 Y) ?_;refine Xe (Xw sizeOf51 _) ?_;refine Za Y<|Z0<|Zx<|A9 ?_;refine Bb rfl results233 Y Wh (Ah isAgg51 sizeOf51 Wn (rfl)) Y (by
     refine ⟨?_,rfl⟩;unfold Fu;simp_all<;>rfl)
   refine Yl isAgg185 Y ?_;refine Yf 20 underlying151 rfl rfl sizeOf3 Y<|Yl isAgg3 Y ?_;refine Yf 1 underlying51 rfl rfl sizeOf3 Y<|Yl isAgg3 Y ?_;refine Xr [_,_] Y (hcf) Y rfl (hlt (n) (r.val)) ?_;refine Zv (AA Y Y)<|Z0<|Zn [3,4,5,59] ?_;refine Zx ?_;refine Af Y (fun h8=>?_) (fun h8=>?_)
   ·
    refine Zg<|Zh 20 underlying151 rfl rfl sizeOf3 Y<|Zl isAgg3 Y ?_;refine Zh 1 underlying51 rfl rfl sizeOf3 Y<|Xe (Zs sizeOf3 Y Y rfl (hi:=by first|omega|decide|(simp;done))) ?_;refine Z0<|Zx<|Zg<|Zh 2 underlying51 rfl rfl sizeOf4 Y<|Xe (Zs sizeOf4 Y Y rfl (hi:=by first|omega|decide|(simp;done))) ?_;refine Z0<|Zx<|Zq<|Zg<|Zo Wh (Pa #[_,_,_] isAgg51 sizeOf51 Y) ?_;refine Xe (Xw sizeOf51 _) ?_;refine Za Y<|Z0<|Zx<|A9 ?_;refine Bb rfl results233 Y Wh (Ah isAgg51 sizeOf51 Wn (rfl)) Y (by
     refine ⟨?_,rfl⟩;unfold Fu;simp_all<;>rfl)
   refine AB<|Zx<|Zg<|Zh 2 underlying51 rfl rfl sizeOf4 Y<|Xe (Zs sizeOf4 Y Y rfl (hi:=by first|omega|decide|(simp;done))) ?_;refine Z0<|Zx<|Zq<|Zg<|Zo Wh (Pa #[_,_,_] isAgg51 sizeOf51 Y) ?_;refine Xe (Xw sizeOf51 _) ?_;refine Za Y<|Z0<|Zx<|A9 ?_;refine Bb rfl results233 Y Wh (Ah isAgg51 sizeOf51 Wn (rfl)) Y (by
    refine ⟨?_,rfl⟩;unfold Fu;simp_all<;>rfl)
  refine AB<|Zx<|Zq<|Zg<|Zo Wh (Pa #[_,_,_] isAgg51 sizeOf51 Y) ?_;refine Xe (Xw sizeOf51 _) ?_;refine Za Y<|Z0<|Zx<|A9 ?_;refine Bb rfl results233 Y Wh (Ah isAgg51 sizeOf51 Wn (rfl)) Y (by
   refine ⟨?_,rfl⟩;unfold Fu;simp_all<;>rfl)
 refine A7 Y rfl<|A7 Y rfl<|A7 Y rfl<|A7 Y rfl<|A7 Y rfl<|A7 Y rfl<|A7 Y rfl<|A7 Y rfl<|A7 Y rfl<|A7 Y rfl<|A7 Y rfl<|A7 Y rfl<|Zv (AA Y Y)<|Z0<|Zn [2,3,4,5,24] ?_;refine Zx<|Dk Y<|AB<|Zx<|Zq<|Zq<|Zg<|Zh 18 underlying151 rfl rfl sizeOf149 Y<|Zl isAgg149 Y ?_;refine Zv (Ec underlying149 Y Y)<|Z0<|Zx ?_;refine Af Y (fun h6=>?_) (fun h6=>?_)
 ·
  refine Zq<|Zq<|Zg<|Zh 2 underlying51 rfl rfl sizeOf4 Y<|Zl isAgg4 Y ?_;refine Zv (CZ Y)<|Zm Y ?_;refine Ak (t:=52) Y rfl (fun h7=>?_) (fun h7=>?_)
  ·
   refine A7 Y rfl<|A7 Y rfl<|A7 Y rfl<|A7 Y rfl<|A7 Y rfl<|A7 Y rfl<|Zv (AL Y Y)<|Z0<|Zn [3,4,5,59] ?_;refine Zx<|CE Y<|Zg<|Zh 20 underlying151 rfl rfl sizeOf3 Y<|Zl isAgg3 Y ?_;refine Zh 1 underlying51 rfl rfl sizeOf3 Y<|Xe (Zs sizeOf3 Y Y rfl (hi:=by first|omega|decide|(simp;done))) ?_;refine Z0<|Zx<|Zg<|Zh 2 underlying51 rfl rfl sizeOf4 Y<|Xe (Zs sizeOf4 Y Y rfl (hi:=by first|omega|decide|(simp;done))) ?_;refine Z0<|Zx<|Zq<|Zg<|Zo Wh (Pa #[_,_,_] isAgg51 sizeOf51 Y) ?_;refine Xe (Xw sizeOf51 _) ?_;refine Za Y<|Z0<|Zx<|A9 ?_;refine Bb rfl results233 Y Wh (Ah isAgg51 sizeOf51 Wn (rfl)) Y (by
    refine ⟨?_,rfl⟩;unfold Fu;simp_all<;>rfl)
  refine Yl isAgg185 Y ?_;refine Yf 20 underlying151 rfl rfl sizeOf3 Y<|Yl isAgg3 Y ?_;refine Yf 1 underlying51 rfl rfl sizeOf3 Y<|Yl isAgg3 Y ?_;refine Xr [_,_] Y (hcf) Y rfl (hlt (n) (r.val)) ?_;refine Zv (AA Y Y)<|Z0<|Zn [3,4,5,59] ?_;refine Zx ?_;refine Af Y (fun h8=>?_) (fun h8=>?_)
  ·
   refine Zg<|Zh 20 underlying151 rfl rfl sizeOf3 Y<|Zl isAgg3 Y ?_;refine Zh 1 underlying51 rfl rfl sizeOf3 Y<|Xe (Zs sizeOf3 Y Y rfl (hi:=by first|omega|decide|(simp;done))) ?_;refine Z0<|Zx<|Zg<|Zh 2 underlying51 rfl rfl sizeOf4 Y<|Xe (Zs sizeOf4 Y Y rfl (hi:=by first|omega|decide|(simp;done))) ?_;refine Z0<|Zx<|Zq<|Zg<|Zo Wh (Pa #[_,_,_] isAgg51 sizeOf51 Y) ?_;refine Xe (Xw sizeOf51 _) ?_;refine Za Y<|Z0<|Zx<|A9 ?_;refine Bb rfl results233 Y Wh (Ah isAgg51 sizeOf51 Wn (rfl)) Y (by
    refine ⟨?_,rfl⟩;unfold Fu;simp_all<;>rfl)
  refine AB<|Zx<|Zg<|Zh 2 underlying51 rfl rfl sizeOf4 Y<|Xe (Zs sizeOf4 Y Y rfl (hi:=by first|omega|decide|(simp;done))) ?_;refine Z0<|Zx<|Zq<|Zg<|Zo Wh (Pa #[_,_,_] isAgg51 sizeOf51 Y) ?_;refine Xe (Xw sizeOf51 _) ?_;refine Za Y<|Z0<|Zx<|A9 ?_;refine Bb rfl results233 Y Wh (Ah isAgg51 sizeOf51 Wn (rfl)) Y (by
   refine ⟨?_,rfl⟩;unfold Fu;simp_all<;>rfl)
 refine AB<|Zx<|Zq<|Zg<|Zo Wh (Pa #[_,_,_] isAgg51 sizeOf51 Y) ?_;refine Xe (Xw sizeOf51 _) ?_;refine Za Y<|Z0<|Zx<|A9 ?_;refine Bb rfl results233 Y Wh (Ah isAgg51 sizeOf51 Wn (rfl)) Y (by
  refine ⟨?_,rfl⟩;unfold Fu;simp_all<;>rfl)
theorem jV(x y:Int):Aw Tryz.prog 172 #[I4 x,I4 y] [] (.bool (decide (x<y))):=by
 refine Se func172 ntmps172 [0,1] ?_;intro u R;refine Zq<|Zg<|Za Y<|Z0<|Zx<|Zq<|Zg<|Zm Y<|Zm Y<|Zv (Ee Y Y)<|Za Y<|Z0<|Zx<|A9 ?_;refine AC rfl results172 Y (by exact ⟨rfl,rfl⟩)
theorem jX(x y:Int):Aw Tryz.prog 174 #[I4 x,I4 y] [] (.bool (decide (y<x))):=by
 refine Se func174 ntmps174 [0,1] ?_;intro u R;refine Zq<|Zg<|Za Y<|Z0<|Zx<|Zq<|Zg<|Zm Y<|Zm Y<|Zv (Ey Y Y)<|Za Y<|Z0<|Zx<|A9 ?_;refine AC rfl results174 Y (by exact ⟨rfl,rfl⟩)
def Fq(k:Int):Nat:=if k=1 then 165 else if k=2 then 165 else if k=3 then 167 else if k=4 then 169 else if k=5 then 233 else if k=6 then 233 else 176
def IA(b5 b6:Nat)(k:Int):List Value:=if k=5 then [I5 b5]else if k=6 then [I5 b6]else []
theorem TZ{lm:List (Int×Value)}{b5 b6:Nat}(h:∀p,p∈lm↔p∈L6 b5 b6)(hn:(lm.map (·.1)).Nodup){k:Int}(hk:1≤k∧k≤7):IW k lm=some (.agg #[.func (.func (Ga k)) #[] #[],.func (.func (Fq k)) #[] (IA b5 b6 k).toArray]):=by
 obtain h9|h9|h9|h9|h9|h9|h9:k=1∨k=2∨k=3∨k=4∨k=5∨k=6∨k=7:=by omega
 all_goals subst h9
 all_goals exact WI h hn (by simp [L6,Ga,Fq,IA])
theorem KE{k:Int}(hk:1≤k∧k≤7):∀(args:Array Value) (w:World),(callFunc (Fq k) args).run Tryz.prog w= .ok (.enter (Fq k) args) w:=by
 obtain h|h|h|h|h|h|h:k=1∨k=2∨k=3∨k=4∨k=5∨k=6∨k=7:=by omega
 all_goals (subst h;simp only [Fq];first|exact call165|exact call167|exact call169|exact call233|exact call176)
theorem Gr{P:Program}{f:FuncId}{args:Array Value}{H H1:Hp}{Q Q1:Value→Hp→Prop}(h:CF P f args H Q)(F:Hp)(hf:H1.flatten.Perm (H++F).flatten)(hq:∀v H',Q v H'→∃H2 E,Q1 v H2∧(H'.flatten++F.flatten).Perm (H2.flatten++E)):CF P f args H1 Q1:=fun u R w hs=>
 Calls.mono (h u (F++R) w (hs.perm (by rw [uW,←tO,uW (L₁:=H++F)];exact hf.append_right _))) fun e w' he=>by
  rcases he with⟨v,H',rfl,h1,h2⟩|⟨ch,H',rfl,h1,h2⟩
  · obtain ⟨H2,E,h3,h4⟩:=hq v H' h1
    refine .inl ⟨v,H2,rfl,h3,h2.sub ⟨E,?_⟩⟩;rw [uW,uW,uW,←tO];refine (h4.append_right _).trans ?_;rw [tO,tO];exact uj.append_left _
  · exact h1.elim
def MIn(q:QM)(c:Chg):Prop:=(-1000000000≤mQ q (bfQ q c)∧mQ q (bfQ q c)≤1000000000)∧-1000000000≤mQ q (afQ q c)∧mQ q (afQ q c)≤1000000000
theorem oF{q:QM}{b:Bool}{x:AP}(h:b=true→x.ok):-1000000000≤mQ q (Hq q b x)∧mQ q (Hq q b x)≤1000000000:=by
 unfold Hq;split
 · rename_i h9
   rw [uE]at h9;exact PT (h h9.1) q.bq
 · exact ⟨by show(-1000000000:Int)≤0;decide,by show(0:Int)≤1000000000;decide⟩
theorem jP(q:QM){c:Chg}(h:c.ok):MIn q c:=by
 obtain ⟨_,h2,_⟩:=h;refine ⟨oF fun hh=>?_,oF fun hh=>?_⟩
 · rw [LP hh]at h2
   exact uG.1 fun h9=>h2 (.inl ⟨hh,h9⟩)
 · rw [JR hh]at h2
   exact uG.1 fun h9=>h2 (.inr ⟨hh,h9⟩)
theorem KL(q:QM)(c:Chg)(hq:BN q)(hm:MIn q c){p1 p2:Option Addr}{s1 s2:List AR}(hp1:IB p1 (bfQ q c) s1)(hp2:IB p2 (afQ q c) s2)(b5 b6:Nat)(r:CO)(pv:Option Addr)(cv:Nat)(sr:List AR)(hr:BV 5 113 (.slice pv r.rows.length cv) r.rows.length (Ac r.rows) sr)(hn:r.rows.length≤100000000)(hv:-4000000000000000000≤r.val∧r.val≤4000000000000000000):
 CF Tryz.prog (Fq q.kd) (.agg #[I4 q.kd,I4 q.tb,I4 q.cl,I4 q.lo,I4 q.hi,I4 q.bq,I4 q.ot,I4 c.t,I4 c.k,.bool c.had,I4 c.o.a,I4 c.o.b,I4 c.o.c,.bool c.has,I4 c.n.a,I4 c.n.b,I4 c.n.c,.pointer p1,.pointer p2,I4 (mQ q (bfQ q c)),I4 (mQ q (afQ q c))]:: .agg #[.slice pv r.rows.length cv,I4 r.val,.bool r.fnd]::IA b5 b6 q.kd).toArray [sr,s2,[(b5,.cells #[.func (.func 172) #[] #[]] 185 (0,0))],[(b6,.cells #[.func (.func 174) #[] #[]] 185 (0,0))]] (fun w H'=>∃rv' s',w= .tuple #[.agg #[rv',I4 (Bq q c r).1.val,.bool (Bq q c r).1.fnd],.bool (Bq q c r).2]∧BV 5 113 rv' (Bq q c r).1.rows.length (Ac (Bq q c r).1.rows) s'∧H'=[s']):=by
 have e1:=hp1.some_;have e2:=hp2.some_
 have hcl:=hq.2.1;have hk:q.kd=1∨q.kd=2∨q.kd=3∨q.kd=4∨q.kd=5∨q.kd=6∨q.kd=7:=by have:=hq.2.2.2;omega
 have rows1:(q.kd=1∨q.kd=2)→Bq q c r=(⟨Dq q c r.rows,r.val,r.fnd⟩,true):=fun h=>by unfold Bq;rw [if_pos h]
 have P1:=Xi q c p1 p2 (mQ q (bfQ q c)) (mQ q (afQ q c)) hcl hr hn hp2;have P7:=Xl q hcl c p1 p2 e1 hp2 hr hn
 have P3:=Vo q c p1 p2 (mQ q (bfQ q c)) (mQ q (afQ q c)) pv r.rows.length cv hv;have P4:=bT q c p1 p2 (mQ q (bfQ q c)) (mQ q (afQ q c)) pv r.rows.length cv hv hm
 have P5:=TC q c p1 p2 (mQ q (bfQ q c)) (mQ q (afQ q c)) r pv r.rows.length cv b5 172 (fun a b=>decide (a<b)) call172 jV;have P6:=TC q c p1 p2 (mQ q (bfQ q c)) (mQ q (afQ q c)) r pv r.rows.length cv b6 174 (fun a b=>decide (b<a)) call174 jX
 rw [e2]at P3;rw [e1,e2]at P5 P6;rcases hk with h|h|h|h|h|h|h
 · rw [show Fq q.kd=165 by rw [h];rfl,show IA b5 b6 q.kd=[] by rw [h];rfl,rows1 (.inl h)]
   refine Gr P1 [[(b5,.cells #[.func (.func 172) #[] #[]] 185 (0,0))],[(b6,.cells #[.func (.func 174) #[] #[]] 185 (0,0))]] (by simp) ?_;rintro w H' ⟨rv',s',rfl,h3,rfl⟩;exact ⟨[s'],_,⟨rv',s',rfl,h3,rfl⟩,by simp;exact .refl _⟩
 · rw [show Fq q.kd=165 by rw [h];rfl,show IA b5 b6 q.kd=[] by rw [h];rfl,rows1 (.inr h)]
   refine Gr P1 [[(b5,.cells #[.func (.func 172) #[] #[]] 185 (0,0))],[(b6,.cells #[.func (.func 174) #[] #[]] 185 (0,0))]] (by simp) ?_;rintro w H' ⟨rv',s',rfl,h3,rfl⟩;exact ⟨[s'],_,⟨rv',s',rfl,h3,rfl⟩,by simp;exact .refl _⟩
 · rw [show Fq q.kd=167 by rw [h];rfl,show IA b5 b6 q.kd=[] by rw [h];rfl,show Bq q c r=(⟨r.rows,if(afQ q c).isSome then r.val+1 else r.val -1,r.fnd⟩,true) by unfold Bq;rw [if_neg (by omega),if_pos h]]
   refine Gr P3 [sr,s2,[(b5,.cells #[.func (.func 172) #[] #[]] 185 (0,0))],[(b6,.cells #[.func (.func 174) #[] #[]] 185 (0,0))]] (by simp) ?_;rintro w H' ⟨rfl,rfl⟩;exact ⟨[sr],_,⟨_,sr,rfl,hr,rfl⟩,by simp;exact .refl _⟩
 · rw [show Fq q.kd=169 by rw [h];rfl,show IA b5 b6 q.kd=[] by rw [h];rfl,show Bq q c r=(⟨r.rows,r.val+(mQ q (afQ q c) -mQ q (bfQ q c)),r.fnd⟩,true) by unfold Bq;rw [if_neg (by omega),if_neg (by omega),if_pos h]]
   refine Gr P4 [sr,s2,[(b5,.cells #[.func (.func 172) #[] #[]] 185 (0,0))],[(b6,.cells #[.func (.func 174) #[] #[]] 185 (0,0))]] (by simp) ?_;rintro w H' ⟨rfl,rfl⟩;exact ⟨[sr],_,⟨_,sr,rfl,hr,rfl⟩,by simp;exact .refl _⟩
 · have e9:Bq q c r=Fu (fun a b=>decide (a<b)) (bfQ q c).isSome (afQ q c).isSome (mQ q (bfQ q c)) (mQ q (afQ q c)) r:=by unfold Bq;rw [if_neg (by omega),if_neg (by omega),if_neg (by omega),if_pos h]
   have e8:(Bq q c r).1.rows=r.rows:=by rw [e9,Lt]
   rw [show Fq q.kd=233 by rw [h];rfl,show IA b5 b6 q.kd=[I5 b5] by rw [h];rfl];rw [←e9]at P5;refine Gr P5 [sr,s2,[(b6,.cells #[.func (.func 174) #[] #[]] 185 (0,0))]] (by simp;rw [←tO,←tO];exact uS) ?_;rintro w H' ⟨rfl,rfl⟩;exact ⟨[sr],[(b5,_)]++s2++_,⟨_,sr,rfl,by rw [e8];exact hr,rfl⟩,by simp;exact uS.symm⟩
 · have e9:Bq q c r=Fu (fun a b=>decide (b<a)) (bfQ q c).isSome (afQ q c).isSome (mQ q (bfQ q c)) (mQ q (afQ q c)) r:=by unfold Bq;rw [if_neg (by omega),if_neg (by omega),if_neg (by omega),if_neg (by omega),if_pos h]
   have e8:(Bq q c r).1.rows=r.rows:=by rw [e9,Lt]
   rw [show Fq q.kd=233 by rw [h];rfl,show IA b5 b6 q.kd=[I5 b6] by rw [h];rfl];rw [←e9]at P6;refine Gr P6 [sr,s2,[(b5,.cells #[.func (.func 172) #[] #[]] 185 (0,0))]] (by simp;rw [←tO,←tO];exact ((List.Perm.swap _ _ []).append_left _).trans uS) ?_;rintro w H' ⟨rfl,rfl⟩;exact ⟨[sr],[(b6,_)]++s2++_,⟨_,sr,rfl,by rw [e8];exact hr,rfl⟩,by simp;exact uS.symm⟩
 · rw [show Fq q.kd=176 by rw [h];rfl,show IA b5 b6 q.kd=[] by rw [h];rfl,show Bq q c r=Cv q c r by unfold Bq;rw [if_neg (by omega),if_neg (by omega),if_neg (by omega),if_neg (by omega),if_neg (by omega)]]
   refine Gr P7 [[(b5,.cells #[.func (.func 172) #[] #[]] 185 (0,0))],[(b6,.cells #[.func (.func 174) #[] #[]] 185 (0,0))]] (by simp) ?_;rintro w H' ⟨rv',s',rfl,h3,rfl⟩;exact ⟨[s'],_,⟨rv',s',rfl,h3,rfl⟩,by simp;exact .refl _⟩
def El(q:QM)(c:Chg):Bool:=decide c.ok&&Dv q c
def Ct(q:QM)(c:Chg)(r:CO):CO×Bool:=if El q c then(if(Bq q c r).2 then((Bq q c r).1,true)else(CO.none,false))else(r,true)
def I8(q:QM)(r:CO):List Chg→Option CO
 |[]=>some r
 |c::cs=>if(Ct q c r).2 then I8 q (Ct q c r).1 cs else none
theorem QA(q:QM):∀(a:List Chg) (r:CO) (b:List Chg),I8 q r (a++b)=(I8 q r a).bind fun r'=>I8 q r' b
 |[],_,_=>rfl
 |c::a,r,b=>by
  show(if(Ct q c r).2 then I8 q (Ct q c r).1 (a++b)else none)=(if(Ct q c r).2 then I8 q (Ct q c r).1 a else none).bind fun r'=>I8 q r' b;split
  · exact QA q a _ b
  · rfl
def DI(q:QM)(r:CO)(cs:List Chg):CO×Bool×Bool:=match I8 q r cs with
 |some r'=>(r',cs.any (El q),true)
 |none=>(CO.none,true,false)
theorem av(q:QM)(c:Chg)(r:CO):(Ct q c r).1.rows.length≤r.rows.length+2:=by
 have h:=Xp q c r;unfold Ct;split
 · split
   · exact h
   · exact tY _
 · exact y8 _ _
theorem Xo{q:QM}{c:Chg}(hm:MIn q c){r:CO}{B:Int}(h:-B≤r.val∧r.val≤B)(h0:0≤B):-(B+2000000000)≤(Bq q c r).1.val∧(Bq q c r).1.val≤B+2000000000:=by
 obtain ⟨⟨h1,h2⟩,h3,h4⟩:=hm;have hx:∀lt b a,-(B+2000000000)≤(Fu lt b a (mQ q (bfQ q c)) (mQ q (afQ q c)) r).1.val∧(Fu lt b a (mQ q (bfQ q c)) (mQ q (afQ q c)) r).1.val≤B+2000000000:=fun lt b a=>by
  unfold Fu;split
  · constructor<;>(simp only;omega)
  · split
    · simp only
      split<;>(constructor<;>omega)
    · constructor<;>(simp only;omega)
 unfold Bq;split
 · constructor<;>(simp only;omega)
 · split
   · simp only
     split<;>(constructor<;>omega)
   · split
     · constructor<;>(simp only;omega)
     · split
       · exact hx _ _ _
       · split
         · exact hx _ _ _
         · rw [Xq];constructor<;>omega
theorem au{q:QM}{c:Chg}{r:CO}{B:Int}(h:-B≤r.val∧r.val≤B)(h0:0≤B):-(B+2000000000)≤(Ct q c r).1.val∧(Ct q c r).1.val≤B+2000000000:=by
 unfold Ct;split
 · rename_i h9
   unfold El at h9;rw [uE]at h9;split
   · exact Xo (jP q (of_decide_eq_true h9.1)) h h0
   · constructor<;>(simp only [CO.none];omega)
 · constructor<;>(simp only;omega)
theorem Jc{q:QM}{r rk:CO}{cs:List Chg}{k:Nat}{x:Chg}(h:I8 q r (cs.take k)=some rk)(hx:cs[k]?=some x):I8 q r (cs.take (k+1))=if(Ct q x rk).2 then some (Ct q x rk).1 else none:=by
 rw [Bp hx,QA,h];show I8 q rk [x]=_
 unfold I8 I8;rfl
theorem O1{q:QM}{r:CO}{cs:List Chg}{k:Nat}(h:I8 q r (cs.take k)=none):I8 q r cs=none:=by
 rw [←uX k cs,QA,h];rfl
theorem Tx{cs:List Chg}{k:Nat}{x:Chg}(f:Chg→Bool)(hx:cs[k]?=some x):(cs.take (k+1)).any f=((cs.take k).any f||f x):=by
 rw [Bp hx,List.any_append,zZ,AA2,zB]
theorem UD{q:QM}:∀(cs:List Chg) (r r':CO) (B:Int) (n:Nat),I8 q r cs=some r'→(-B≤r.val∧r.val≤B)→0≤B→r.rows.length≤n→(-(B+2000000000*(cs.length:Int))≤r'.val∧r'.val≤B+2000000000*(cs.length:Int))∧r'.rows.length≤n+2*cs.length
 |[],r,r',B,n,h,h1,h2,h3=>by
  unfold I8 at h;injection h with h
  subst h;simp only [vF];exact ⟨⟨by omega,by omega⟩,h3⟩
 |c::cs,r,r',B,n,h,h1,h2,h3=>by
  unfold I8 at h;split at h
  · have h4:=au (q:=q) (c:=c) h1 h2
    have h5:=av q c r;have h6:=UD cs _ r' (B+2000000000) (n+2) h h4 (by omega) (by omega)
    rw [tX];obtain ⟨⟨h7,h8⟩,h9⟩:=h6;refine ⟨⟨?_,?_⟩,by omega⟩<;>(push_cast;omega)
  · cases h
set_option maxHeartbeats 1000000 in
theorem QP(q:QM)(hq:BN q)(c:Chg){r:CO}{rv:Value}{A:List AR}(hr:Dn A rv r.rows)(hn:r.rows.length≤100000000)(hv:-4000000000000000000≤r.val∧r.val≤4000000000000000000):CF Tryz.prog 184 #[.agg #[I4 q.kd,I4 q.tb,I4 q.cl,I4 q.lo,I4 q.hi,I4 q.bq,I4 q.ot],.agg #[rv,I4 r.val,.bool r.fnd],.agg #[I4 c.t,I4 c.k,.bool c.had,I4 c.o.a,I4 c.o.b,I4 c.o.c,.bool c.has,I4 c.n.a,I4 c.n.b,I4 c.n.c]] [A] (fun w H'=>∃rv' s',w= .tuple #[.agg #[rv',I4 (Ct q c r).1.val,.bool (Ct q c r).1.fnd],.bool (Ct q c r).2]∧BV 5 113 rv' (Ct q c r).1.rows.length (Ac (Ct q c r).1.rows) s'∧H'=[s',A]):=by
 have hml:=mL;obtain ⟨pv,cv,rfl,_⟩:=id hr;refine Se func184 ntmps184 [0,1,2] ?_;intro u R;refine Zq<|Zg<|Ze (Bx #[I4 q.kd,I4 q.tb,I4 q.cl,I4 q.lo,I4 q.hi,I4 q.bq,I4 q.ot]) ?_;rintro _ _ ⟨bq,rfl,rfl⟩;refine Ze (Bx #[.slice pv r.rows.length cv,I4 r.val,.bool r.fnd]) ?_;rintro _ _ ⟨br,rfl,rfl⟩;refine Ze (Bx #[I4 c.t,I4 c.k,.bool c.had,I4 c.o.a,I4 c.o.b,I4 c.o.c,.bool c.has,I4 c.n.a,I4 c.n.b,I4 c.n.c]) ?_;rintro _ _ ⟨bc,rfl,rfl⟩;refine Ze (Al zeroValue51 #[_,_,_]) ?_;rintro _ _ ⟨bo,rfl,rfl⟩;refine Za Y<|Z0<|Zx<|Zq<|Zg<|Zh 0 underlying51 rfl rfl sizeOf45 Y<|Zl isAgg45 Y ?_;refine Zc [_] Y call94 Y rfl (He hr (by omega)) ?_;rintro _ _ ⟨_,⟨s1,h1,rfl⟩,rfl⟩;obtain ⟨g1,c1,rfl⟩:=h1.form;refine Zh 0 underlying51 rfl rfl sizeOf45 Y<|Xe (Zs sizeOf45 Y Y rfl (hi:=by first|omega|decide|(simp;done))) ?_;refine Z0<|Zx<|Zq<|Zq<|Zg<|Zo Wh (Pa #[_,_,_,_,_,_,_] isAgg30 sizeOf30 Y) ?_;refine Zo Wh (Pa #[_,_,_,_,_,_,_,_,_,_] isAgg77 sizeOf77 Y) ?_;refine Xr [_,_] Y call30 Y rfl (Mw q c) ?_;rw [show(decide (BN q)&&(decide c.ok&&Dv q c))=El q c by rw [decide_eq_true hq];rfl];refine Zv (CZ Y)<|Z0<|Zn [3,4,5,6,17] ?_;refine Zx ?_;refine Af Y (fun ht=>?_) (fun ht=>?_)
 ·
  have ht9:El q c=false:=by simpa using ht
  refine Zq<|Zg<|Zo Wh (Pa #[_,_,_] isAgg51 sizeOf51 Y) ?_;refine Xe (Xw sizeOf51 _) ?_;refine Za Y<|Z0<|Zx<|A9<|Zt ?_;refine Bb rfl results184 Y Wh (Ah isAgg51 sizeOf51 Wn (rfl)) Y (by
   have e9:Ct q c r=(r,true):=by unfold Ct;rw [ht9];rfl
   exact ⟨.slice g1 r.rows.length c1,s1,by rw [e9];rfl,by rw [e9];exact h1,rfl⟩)
 have ht9:El q c=true:=by simpa using ht
 have hco:c.ok:=by unfold El at ht9;rw [uE]at ht9;exact of_decide_eq_true ht9.1
 refine AB<|Zx<|Zb [3,4,5,6] ?_;refine CU (e0:=[(3,_),(4,_),(5,_)]) (H0:=[s1]) (fun e H=>∃(b8:Nat) (g3:Option Addr) (c3:Nat) (s3:List AR),(BV 5 113 (.slice g3 (Bq q c r).1.rows.length c3) (Bq q c r).1.rows.length (Ac (Bq q c r).1.rows) s3)∧e=[(8,I5 b8),(9,.bool (Bq q c r).2)]∧H=[[(b8,.cells #[.slice g3 (Bq q c r).1.rows.length c3,I4 (Bq q c r).1.val,.bool (Bq q c r).1.fnd] 51 (0,0))],s3]) Wp ?hx_2 ?hy_2
 case hx_2=>
  refine BJ (n:=16) (0::0::2::7::15::0::0::97::0::511::1023::2047::2047::0::12287::32767::[]) 25217 (by kernel_rfl) (by kernel_rfl) rfl ?_;refine Zi 2 1 rfl (AX (off:=0) underlying30 rfl rfl sizeOf3 Y)<|Zj 6 2 rfl isAgg3 Y ?_;refine DU (D':=38) 5 rfl rfl rfl Wh (Pa #[_,_,_,_,_,_,_] isAgg30 sizeOf30 Y) ?_;refine DU (D':=102) 6 rfl rfl rfl Wh (Pa #[_,_,_,_,_,_,_,_,_,_] isAgg77 sizeOf77 Y) ?_;refine DU (D':=358) 8 rfl rfl rfl Wh (Pa #[_,_,_] isAgg51 sizeOf51 Y) ?_;refine Zz (l:=[0,13]) ?_;refine Zy 0 359 [8,6,5,2] [true,true,true,true] [(8,(_,_)),(6,(_,_)),(5,(_,_)),(2,(_,_))] rfl Y rfl rfl rfl rfl (Zw [] Y call86 Y rfl (Ma)) ?hk_3 Ck ?hl_3
  case hk_3=>
   rintro _ _ ⟨_,⟨mb,es,ck,lm,b5,b6,rfl,hm,hp,rfl⟩,rfl⟩;refine ⟨Zk (Zk (Zk (Zk (Ad)))),?_⟩;have hget:=TZ hp hm.keys hq.kind
   refine DU (D':=367) 3 rfl rfl rfl Wh (OM Gn underlying147 zeroValue146 hm (fun _ _=>trivial) (trivial) ((by rw [hget];exact rfl:_=Value.agg #[.func (.func (Ga q.kd)) #[] #[],.func (.func (Fq q.kd)) #[] (IA b5 b6 q.kd).toArray])) Y Y) ?_;refine Zi 383 4 rfl (UT underlying146 rfl isAgg144 Y rfl)<|Zz (l:=[7,13]) ?_;refine Zy 97 511 [3,8,6,5,2] [true,true,false,false,true] [(3,(_,_)),(8,(_,_)),(2,(_,_))] rfl Y rfl rfl rfl rfl (Zw [_,_] Y call87 Y rfl (JM q hq.2.1 (by have:=hq.2.2.2;omega) c)) ?hk_4 Ck ?hl_4
   case hk_4=>
    rintro _ _ ⟨_,⟨p1,p2,s21,s22,rfl,hP1,hP2,rfl⟩,rfl⟩;refine ⟨Zk (Zk (Zk (Ad))),?_⟩;refine Zz (l:=[9,13]) ?_;refine Zy 511 1023 [3,8,2] [false,false,false] [] rfl Y rfl rfl rfl rfl (Zw [_,_] Y (KE hq.kind) Y rfl (KL q c hq (jP q hco) hP1 hP2 b5 b6 r g1 c1 s1 h1 hn hv)) ?hk_5 Ck ?hl_5
    case hk_5=>
     rintro _ _ ⟨_,⟨rv2,s3,rfl,h3,rfl⟩,rfl⟩;refine ⟨Ad,?_⟩;obtain ⟨g3,c3,rfl⟩:=h3.form;refine Zi 2047 10 rfl (AJ Y)<|Zi 4095 11 rfl (CP Y rfl)<|Zi 8191 12 rfl (CP Y rfl)<|Zz (l:=[13]) ?_;refine Zy 0 16383 [] [] [] rfl Y rfl rfl rfl rfl (Al zeroValue51 #[_,_,_]) ?hk_6 (fun _ _ h=>h.elim) ?hl_6
     case hk_6=>
      rintro _ _ ⟨b8,rfl,rfl⟩;refine ⟨Ad,?_⟩;refine Yw 14 32767 rfl (Xw sizeOf51 #[.slice g3 (Bq q c r).1.rows.length c3,I4 (Bq q c r).1.val,.bool (Bq q c r).1.fnd]) ?_;rintro _ _ ⟨rfl,rfl⟩;refine Zi 65535 15 rfl (Ay Y)<|Am ?_;refine Zn [8,9,6] ?_;refine BA (e':=[(8,_),(9,_)]) (by exact ⟨b8,g3,c3,s3,h3,rfl,rfl⟩)
     exact Ar
    refine Zy 0 8703 [3,8,2] [true,true,true] [(3,(_,_)),(8,(_,_)),(2,(_,_))] rfl Y rfl rfl rfl rfl (Al zeroValue51 #[_,_,_]) ?hk_9 (fun _ _ h=>h.elim) ?hl_9
    case hk_9=>
     rintro _ _ ⟨b8,rfl,rfl⟩;refine ⟨Zk (Zk (Zk (Ad))),?_⟩;refine Zz (l:=[9]) ?_;refine Zy 511 9215 [3,8,2] [false,false,false] [] rfl Y rfl rfl rfl rfl (Zw [_,_] Y (KE hq.kind) Y rfl (KL q c hq (jP q hco) hP1 hP2 b5 b6 r g1 c1 s1 h1 hn hv)) ?hk_10 Ck ?hl_10
     case hk_10=>
      rintro _ _ ⟨_,⟨rv2,s3,rfl,h3,rfl⟩,rfl⟩;refine ⟨Ad,?_⟩;obtain ⟨g3,c3,rfl⟩:=h3.form;refine Zi 10239 10 rfl (AJ Y)<|Zi 12287 11 rfl (CP Y rfl)<|Zi 16383 12 rfl (CP Y rfl)<|Zz (l:=[14]) ?_;refine Zy 12287 32767 [] [] [] rfl Y rfl rfl rfl rfl (Xw sizeOf51 #[.slice g3 (Bq q c r).1.rows.length c3,I4 (Bq q c r).1.val,.bool (Bq q c r).1.fnd]) ?hk_11 (fun _ _ h=>h.elim) ?hl_11
      case hk_11=>
       rintro _ _ ⟨rfl,rfl⟩;refine ⟨Ad,?_⟩;refine Zi 65535 15 rfl (Ay Y)<|Am ?_;refine Zn [8,9,6] ?_;refine BA (e':=[(8,_),(9,_)]) (by exact ⟨b8,g3,c3,s3,h3,rfl,rfl⟩)
      exact Ar
     exact Ar
    exact Ar
   refine Zy 0 8575 [3,8,6,5,2] [true,true,true,true,true] [(3,(_,_)),(8,(_,_)),(6,(_,_)),(5,(_,_)),(2,(_,_))] rfl Y rfl rfl rfl rfl (Al zeroValue51 #[_,_,_]) ?hk_13 (fun _ _ h=>h.elim) ?hl_13
   case hk_13=>
    rintro _ _ ⟨b8,rfl,rfl⟩;refine ⟨Zk (Zk (Zk (Zk (Zk (Ad))))),?_⟩;refine Zz (l:=[7]) ?_;refine Zy 97 8703 [3,8,6,5,2] [true,true,false,false,true] [(3,(_,_)),(8,(_,_)),(2,(_,_))] rfl Y rfl rfl rfl rfl (Zw [_,_] Y call87 Y rfl (JM q hq.2.1 (by have:=hq.2.2.2;omega) c)) ?hk_14 Ck ?hl_14
    case hk_14=>
     rintro _ _ ⟨_,⟨p1,p2,s21,s22,rfl,hP1,hP2,rfl⟩,rfl⟩;refine ⟨Zk (Zk (Zk (Ad))),?_⟩;refine Zz (l:=[9]) ?_;refine Zy 511 9215 [3,8,2] [false,false,false] [] rfl Y rfl rfl rfl rfl (Zw [_,_] Y (KE hq.kind) Y rfl (KL q c hq (jP q hco) hP1 hP2 b5 b6 r g1 c1 s1 h1 hn hv)) ?hk_15 Ck ?hl_15
     case hk_15=>
      rintro _ _ ⟨_,⟨rv2,s3,rfl,h3,rfl⟩,rfl⟩;refine ⟨Ad,?_⟩;obtain ⟨g3,c3,rfl⟩:=h3.form;refine Zi 10239 10 rfl (AJ Y)<|Zi 12287 11 rfl (CP Y rfl)<|Zi 16383 12 rfl (CP Y rfl)<|Zz (l:=[14]) ?_;refine Zy 12287 32767 [] [] [] rfl Y rfl rfl rfl rfl (Xw sizeOf51 #[.slice g3 (Bq q c r).1.rows.length c3,I4 (Bq q c r).1.val,.bool (Bq q c r).1.fnd]) ?hk_16 (fun _ _ h=>h.elim) ?hl_16
      case hk_16=>
       rintro _ _ ⟨rfl,rfl⟩;refine ⟨Ad,?_⟩;refine Zi 65535 15 rfl (Ay Y)<|Am ?_;refine Zn [8,9,6] ?_;refine BA (e':=[(8,_),(9,_)]) (by exact ⟨b8,g3,c3,s3,h3,rfl,rfl⟩)
      exact Ar
     exact Ar
    exact Ar
   exact Ar
  refine Zy 0 8550 [8,6,5,2] [true,true,true,true] [(8,(_,_)),(6,(_,_)),(5,(_,_)),(2,(_,_))] rfl Y rfl rfl rfl rfl (Al zeroValue51 #[_,_,_]) ?hk_18 (fun _ _ h=>h.elim) ?hl_18
  case hk_18=>
   rintro _ _ ⟨b8,rfl,rfl⟩;refine ⟨Zk (Zk (Zk (Zk (Ad)))),?_⟩;refine Zz (l:=[0]) ?_;refine Zy 0 8551 [8,6,5,2] [true,true,true,true] [(8,(_,_)),(6,(_,_)),(5,(_,_)),(2,(_,_))] rfl Y rfl rfl rfl rfl (Zw [] Y call86 Y rfl (Ma)) ?hk_19 Ck ?hl_19
   case hk_19=>
    rintro _ _ ⟨_,⟨mb,es,ck,lm,b5,b6,rfl,hm,hp,rfl⟩,rfl⟩;refine ⟨Zk (Zk (Zk (Zk (Ad)))),?_⟩;have hget:=TZ hp hm.keys hq.kind
    refine DU (D':=8559) 3 rfl rfl rfl Wh (OM Gn underlying147 zeroValue146 hm (fun _ _=>trivial) (trivial) ((by rw [hget];exact rfl:_=Value.agg #[.func (.func (Ga q.kd)) #[] #[],.func (.func (Fq q.kd)) #[] (IA b5 b6 q.kd).toArray])) Y Y) ?_;refine Zi 8575 4 rfl (UT underlying146 rfl isAgg144 Y rfl)<|Zz (l:=[7]) ?_;refine Zy 97 8703 [3,8,6,5,2] [true,true,false,false,true] [(3,(_,_)),(8,(_,_)),(2,(_,_))] rfl Y rfl rfl rfl rfl (Zw [_,_] Y call87 Y rfl (JM q hq.2.1 (by have:=hq.2.2.2;omega) c)) ?hk_20 Ck ?hl_20
    case hk_20=>
     rintro _ _ ⟨_,⟨p1,p2,s21,s22,rfl,hP1,hP2,rfl⟩,rfl⟩;refine ⟨Zk (Zk (Zk (Ad))),?_⟩;refine Zz (l:=[9]) ?_;refine Zy 511 9215 [3,8,2] [false,false,false] [] rfl Y rfl rfl rfl rfl (Zw [_,_] Y (KE hq.kind) Y rfl (KL q c hq (jP q hco) hP1 hP2 b5 b6 r g1 c1 s1 h1 hn hv)) ?hk_21 Ck ?hl_21
     case hk_21=>
      rintro _ _ ⟨_,⟨rv2,s3,rfl,h3,rfl⟩,rfl⟩;refine ⟨Ad,?_⟩;obtain ⟨g3,c3,rfl⟩:=h3.form;refine Zi 10239 10 rfl (AJ Y)<|Zi 12287 11 rfl (CP Y rfl)<|Zi 16383 12 rfl (CP Y rfl)<|Zz (l:=[14]) ?_;refine Zy 12287 32767 [] [] [] rfl Y rfl rfl rfl rfl (Xw sizeOf51 #[.slice g3 (Bq q c r).1.rows.length c3,I4 (Bq q c r).1.val,.bool (Bq q c r).1.fnd]) ?hk_22 (fun _ _ h=>h.elim) ?hl_22
      case hk_22=>
       rintro _ _ ⟨rfl,rfl⟩;refine ⟨Ad,?_⟩;refine Zi 65535 15 rfl (Ay Y)<|Am ?_;refine Zn [8,9,6] ?_;refine BA (e':=[(8,_),(9,_)]) (by exact ⟨b8,g3,c3,s3,h3,rfl,rfl⟩)
      exact Ar
     exact Ar
    exact Ar
   exact Ar
  exact Ar
 rintro _ _ ⟨b8,g3,c3,s3,h3,rfl,rfl⟩;refine Zq<|Zq<|Zg<|Zm Y<|Zv (CZ Y)<|Z0<|Zx ?_;refine Af Y (fun hk=>?_) (fun hk=>?_)
 ·
  have hk9:(Bq q c r).2=false:=by simpa using hk
  refine Zq<|Bd ?_;refine Zg<|Zv (BK (vs:=[]) (cs:=#[_,_,_]) Y (Aa (pl:=#[(0,1),(1,1),(2,1)]) zeroValue51 underlying51 (fun _=>by kernel_rfl) rfl)) ?_;refine Xe (Xw sizeOf51 _) ?_;refine Za Y<|Z0<|Zx<|A9<|Zt ?_;refine Bb rfl results184 Y Wh (Ah isAgg51 sizeOf51 Wn (rfl)) Y (by
   have e9:Ct q c r=(CO.none,false):=by unfold Ct;rw [ht9,if_pos rfl,hk9];rfl
   exact ⟨.slice none 0 0,[],by rw [e9];rfl,by rw [e9];exact BX 5 _,rfl⟩)
 have hk9:(Bq q c r).2=true:=by simpa using hk
 refine AB<|Zx<|Zq<|Zg<|Zo Wh (Pa #[_,_,_] isAgg51 sizeOf51 Y) ?_;refine Xe (Xw sizeOf51 _) ?_;refine Za Y<|Z0<|Zx<|A9 ?_;refine Bb rfl results184 Y Wh (Ah isAgg51 sizeOf51 Wn (rfl)) Y (by
  have e9:Ct q c r=((Bq q c r).1,true):=by unfold Ct;rw [ht9,if_pos rfl,hk9];rfl
  exact ⟨.slice g3 _ c3,s3,by rw [e9];rfl,by rw [e9];exact h3,rfl⟩)
set_option maxHeartbeats 1000000 in
theorem Yq(q:QM)(hq:BN q)(p:Int)(qa:Option Addr)(cap:Nat)(cs:List Chg){MC:List AR}(hC:Dj MC (.slice qa cs.length cap) cs)(hcl:cs.length≤1000){r:CO}{rv:Value}{A:List AR}(hr:Dn A rv r.rows)(hn:r.rows.length≤10000000)(hv:-2000000000000000000≤r.val∧r.val≤2000000000000000000):CF Tryz.prog 95 #[.agg #[I4 q.kd,I4 q.tb,I4 q.cl,I4 q.lo,I4 q.hi,I4 q.bq,I4 q.ot],.agg #[rv,I4 r.val,.bool r.fnd],.agg #[I4 p,.slice qa cs.length cap]] [A,MC] (fun w H'=>∃rv' s',w= .tuple #[.agg #[rv',I4 (DI q r cs).1.val,.bool (DI q r cs).1.fnd],.bool (DI q r cs).2.1,.bool (DI q r cs).2.2]∧BV 5 113 rv' (DI q r cs).1.rows.length (Ac (DI q r cs).1.rows) s'∧H'=[s',A,MC]):=by
 have hml:=mL;obtain ⟨pv,cv,rfl,_⟩:=id hr;obtain ⟨pc,capc,hvc,hcm,hgc⟩:=id hC;injection hvc with hv1 hv2 hv3
 subst hv1 hv3;refine Se func95 ntmps95 [0,1,2] ?_;intro u R;refine Zq<|Zg<|Ze (Bx #[I4 q.kd,I4 q.tb,I4 q.cl,I4 q.lo,I4 q.hi,I4 q.bq,I4 q.ot]) ?_;rintro _ _ ⟨bq,rfl,rfl⟩;refine Ze (Bx #[.slice pv r.rows.length cv,I4 r.val,.bool r.fnd]) ?_;rintro _ _ ⟨br,rfl,rfl⟩;refine Ze (Bx #[I4 p,.slice qa cs.length cap]) ?_;rintro _ _ ⟨bc,rfl,rfl⟩;refine Ze (Al zeroValue51 #[_,_,_]) ?_;rintro _ _ ⟨bo,rfl,rfl⟩;refine Za Y<|Za Y<|Z0<|Zx<|Zq<|Zg<|Za Y<|Z0<|Zx<|Zq<|Zg<|Zh 0 underlying51 rfl rfl sizeOf45 Y<|Zl isAgg45 Y ?_;refine Zc [_] Y call94 Y rfl (He hr (by omega)) ?_;rintro _ _ ⟨_,⟨s1,h1,rfl⟩,rfl⟩;obtain ⟨g1,c1,rfl⟩:=h1.form;refine Zh 0 underlying51 rfl rfl sizeOf45 Y<|Xe (Zs sizeOf45 Y Y rfl (hi:=by first|omega|decide|(simp;done))) ?_;refine Z0<|Zx<|Zq<|Zq<|Zg<|Zh 1 underlying73 rfl rfl sizeOf71 Y<|Zl isAgg71 Y ?_;refine Zv (AU underlying71 Y)<|Zm Y<|Z0<|Zn [3,4,6,9,18,19,20] ?_;refine Zx<|AQ<|Zb [9,20,3,4,6,18,19] ?_;refine Az (e0:=[(9,_),(20,_)]) (fun m e H=>∃(k:Nat) (rk:CO) (gk:Option Addr) (ck:Nat) (sk:List AR),m=cs.length -k∧(k≤cs.length∧I8 q r (cs.take k)=some rk∧BV 5 113 (.slice gk rk.rows.length ck) rk.rows.length (Ac rk.rows) sk)∧e=[(9,.bool ((cs.take k).any (El q))),(20,I4 (k:Int))]∧H=[[(br,.cells #[.slice gk rk.rows.length ck,I4 rk.val,.bool rk.fnd] 51 (0,0))],sk]) (by exact ⟨0,r,g1,c1,s1,rfl,⟨tY _,by rw [uo];rfl,h1⟩,rfl,rfl⟩) Wp ?_;rintro _ _ _ ⟨k,rk,gk,ck,sk,rfl,⟨hk,hrk,hsk⟩,rfl,rfl⟩;obtain ⟨hkv,hkn⟩:=UD (cs.take k) r rk 2000000000000000000 10000000 hrk hv (by omega) hn;have hkl:(cs.take k).length=k:=by rw [tL];omega
 rw [hkl]at hkv hkn;have hUk:=D5 hsk (by omega)
 refine Zq<|Zg<|Zv (Aq Y Y)<|Z0<|Zx<|Zq ?_;refine Ao Y (fun hlt=>?_) (fun hlt=>?_)
 ·
  obtain ⟨y,hy⟩:∃y,cs[k]?=some y:=⟨_,tF hlt⟩;obtain ⟨g2,off2,cur2,T2,zz2,rfl,hm2,hsz2,hex2⟩:=hgc k y hy;refine AB<|Zx<|Zq<|AQ<|Zq<|Zg ?_;refine BM (AZ underlying71 sizeOf77 Y Y (by first|omega|decide|(simp;done))) ?_;refine Cf (cs:=[(g2,.cells cur2 T2 zz2)]) (by simp [hm2]) (AY (cs:=#[I4 y.t,I4 y.k,.bool y.had,I4 y.o.a,I4 y.o.b,I4 y.o.c,.bool y.has,I4 y.n.a,I4 y.n.b,I4 y.n.c]) isAgg77 sizeOf77 Y (by omega) hex2) rfl rfl ?_;refine Ze (Al zeroValue77 #[_,_,_,_,_,_,_,_,_,_]) ?_;rintro _ _ ⟨bx,rfl,rfl⟩;refine Xe (Xw sizeOf77 #[I4 y.t,I4 y.k,.bool y.had,I4 y.o.a,I4 y.o.b,I4 y.o.c,.bool y.has,I4 y.n.a,I4 y.n.b,I4 y.n.c]) ?_;refine Z0<|Zx<|Zq<|Zg<|Zm Y<|Zm Y ?_;refine Ak (t:=25) Y rfl (fun h1t=>?_) (fun h1t=>?_)
  ·
   have e9:(cs.take (k+1)).any (El q)=true:=by rw [Tx _ hy,h1t];rfl
   refine A7 Y rfl<|A7 Y rfl<|A7 Y rfl<|Zv (AL Y Y)<|Za Y<|Z0<|Zx<|Zq<|Zg<|Za Y<|Z0<|Zn [3,4,6,9,11,18,19,20] ?_;refine Zx<|Zq<|Zg<|Zo Wh (Pa #[_,_,_,_,_,_,_] isAgg30 sizeOf30 Y) ?_;refine Zo Wh (Pa #[_,_,_] isAgg51 sizeOf51 Y) ?_;refine Zo Wh (Pa #[_,_,_,_,_,_,_,_,_,_] isAgg77 sizeOf77 Y) ?_;refine Zc [_,_,_] Y call184 Y rfl (QP q hq y hUk (by omega) (by omega)) ?_;rintro _ _ ⟨_,⟨rv3,s3,rfl,h3,rfl⟩,rfl⟩;obtain ⟨g3,c3,rfl⟩:=h3.form;refine Zm Y<|Zd Y rfl<|Zd Y rfl<|Xe (Xw sizeOf51 #[.slice g3 (Ct q y rk).1.rows.length c3,I4 (Ct q y rk).1.val,.bool (Ct q y rk).1.fnd]) ?_;refine Za Y<|Z0<|Zx<|Zq<|Zg<|Zm Y<|Zv (CZ Y)<|Z0<|Zx ?_;refine Af Y (fun hok=>?_) (fun hok=>?_)
   ·
    have hk9:(Ct q y rk).2=false:=by simpa using hok
    have e8:DI q r cs=(CO.none,true,false):=by unfold DI;rw [O1 (k:=k+1) (by rw [Jc hrk hy,hk9];rfl)]
    refine Zq<|Bd ?_;refine Zg<|Zv (BK (vs:=[]) (cs:=#[_,_,_]) Y (Aa (pl:=#[(0,1),(1,1),(2,1)]) zeroValue51 underlying51 (fun _=>by kernel_rfl) rfl)) ?_;refine Xe (Xw sizeOf51 _) ?_;refine Za Y<|Za Y<|Z0<|Zn [6,7,8] ?_;refine Zx<|A9<|AV<|Zt<|Zt<|AV<|Zt ?_;refine Gm rfl results95 Y Wh (Ah isAgg51 sizeOf51 Wn (rfl)) Y Y (by exact ⟨.slice none 0 0,[],by rw [e8];rfl,by rw [e8];exact BX 5 _,rfl⟩)
   have hk9:(Ct q y rk).2=true:=by simpa using hok
   refine AB<|A8<|Zx<|Zg<|Ya (n:=1) Y Y<|Zm Y<|Z0<|Zn [9,20,3,4,6,18,19] ?_;refine Ab (e':=[(9,_),(20,_)]) (by exact ⟨k+1,(Ct q y rk).1,g3,c3,s3,rfl,⟨by omega,by rw [Jc hrk hy,if_pos hk9],h3⟩,by rw [e9],rfl⟩)
  have e9:(cs.take (k+1)).any (El q)=El q y:=by rw [Tx _ hy,h1t];rfl
  refine DC Y Wh (Pa #[_,_,_,_,_,_,_] isAgg30 sizeOf30 Y) rfl rfl ?_;refine DC Y Wh (Pa #[_,_,_,_,_,_,_,_,_,_] isAgg77 sizeOf77 Y) rfl rfl ?_;refine Xr [_,_] Y call30 Y rfl (Mw q y) ?_;rw [show(decide (BN q)&&(decide y.ok&&Dv q y))=El q y by rw [decide_eq_true hq];rfl];refine Zv (AA Y Y)<|Za Y<|Z0<|Zx<|Zq<|Zg<|Za Y<|Z0<|Zn [3,4,6,9,11,18,19,20] ?_;refine Zx<|Zq<|Zg<|Zo Wh (Pa #[_,_,_,_,_,_,_] isAgg30 sizeOf30 Y) ?_;refine Zo Wh (Pa #[_,_,_] isAgg51 sizeOf51 Y) ?_;refine Zo Wh (Pa #[_,_,_,_,_,_,_,_,_,_] isAgg77 sizeOf77 Y) ?_;refine Zc [_,_,_] Y call184 Y rfl (QP q hq y hUk (by omega) (by omega)) ?_;rintro _ _ ⟨_,⟨rv3,s3,rfl,h3,rfl⟩,rfl⟩;obtain ⟨g3,c3,rfl⟩:=h3.form;refine Zm Y<|Zd Y rfl<|Zd Y rfl<|Xe (Xw sizeOf51 #[.slice g3 (Ct q y rk).1.rows.length c3,I4 (Ct q y rk).1.val,.bool (Ct q y rk).1.fnd]) ?_;refine Za Y<|Z0<|Zx<|Zq<|Zg<|Zm Y<|Zv (CZ Y)<|Z0<|Zx ?_;refine Af Y (fun hok=>?_) (fun hok=>?_)
  ·
   have hk9:(Ct q y rk).2=false:=by simpa using hok
   have e8:DI q r cs=(CO.none,true,false):=by unfold DI;rw [O1 (k:=k+1) (by rw [Jc hrk hy,hk9];rfl)]
   refine Zq<|Bd ?_;refine Zg<|Zv (BK (vs:=[]) (cs:=#[_,_,_]) Y (Aa (pl:=#[(0,1),(1,1),(2,1)]) zeroValue51 underlying51 (fun _=>by kernel_rfl) rfl)) ?_;refine Xe (Xw sizeOf51 _) ?_;refine Za Y<|Za Y<|Z0<|Zn [6,7,8] ?_;refine Zx<|A9<|AV<|Zt<|Zt<|AV<|Zt ?_;refine Gm rfl results95 Y Wh (Ah isAgg51 sizeOf51 Wn (rfl)) Y Y (by exact ⟨.slice none 0 0,[],by rw [e8];rfl,by rw [e8];exact BX 5 _,rfl⟩)
  have hk9:(Ct q y rk).2=true:=by simpa using hok
  refine AB<|A8<|Zx<|Zg<|Ya (n:=1) Y Y<|Zm Y<|Z0<|Zn [9,20,3,4,6,18,19] ?_;refine Ab (e':=[(9,_),(20,_)]) (by exact ⟨k+1,(Ct q y rk).1,g3,c3,s3,rfl,⟨by omega,by rw [Jc hrk hy,if_pos hk9],h3⟩,by rw [e9],rfl⟩)
 have ek:k=cs.length:=by omega
 subst ek;rw [uQ]at hrk⊢;have e8:DI q r cs=(rk,cs.any (El q),true):=by unfold DI;rw [hrk]
 refine Au<|Zt<|Zt<|AO<|Zx<|Zq<|Zg<|Zo Wh (Pa #[_,_,_] isAgg51 sizeOf51 Y) ?_;refine Zm Y<|Xe (Xw sizeOf51 _) ?_;refine Za Y<|Za Y<|Z0<|Zx<|A9 ?_;refine Gm rfl results95 Y Wh (Ah isAgg51 sizeOf51 Wn (rfl)) Y Y (by exact ⟨.slice gk _ ck,sk,by rw [e8];rfl,by rw [e8];exact hsk,rfl⟩)
end Go.Proofs.YtkdgffcfmgmemaaGreatDoor
