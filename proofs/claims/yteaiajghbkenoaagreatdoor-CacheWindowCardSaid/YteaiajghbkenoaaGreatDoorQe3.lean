/- query.Valid. -/
/- predicate.effectOf, kinds, Touches. -/
import Derived.Test.YteaiajghbkenoaaGreatDoorEz
import Derived.Test.YteaiajghbkenoaaGreatDoorQe1
import Derived.Test.YteaiajghbkenoaaGreatDoorEx36
set_option linter.unusedVariables false
set_option linter.unusedSimpArgs false
namespace Go.Proofs.YteaiajghbkenoaaGreatDoor
open Go.Proofs.Tryz
open Go Go.RowKit Gw
set_option maxRecDepth 100000
attribute [local irreducible] Gw.At Gw.Nx Gw.Ops
def Er(q:QM):Prop:=(0<=q.tb/\q.tb<=3)/\(0<=q.cl/\q.cl<=3)/\(-1000000000<=q.lo/\q.lo<=q.hi/\q.hi<=1000000000)
instance(q:QM):Decidable (Er q):=by unfold Er;infer_instance
def Ol(q:QM):Prop:=1<=q.bq/\q.bq<=3
instance(q:QM):Decidable (Ol q):=by unfold Ol;infer_instance
variable{q:QM}
theorem xG(h:q.kd=1):BH q↔Er q/\q.cl=0/\q.lo=q.hi/\(1<=q.lo/\q.lo<=1000000)/\q.bq=0/\q.ot=0:=by unfold BH Er;omega
theorem xE(h:q.kd=2\/q.kd=3):BH q↔Er q/\q.bq=0/\q.ot=0:=by unfold BH Er;omega
theorem xD(h:q.kd=4\/q.kd=5\/q.kd=6):BH q↔Er q/\Ol q/\q.ot=0:=by unfold BH Er Ol;omega
theorem xC(h:q.kd=7):BH q↔Er q/\(0<=q.ot/\q.ot<=3)/\Ol q:=by unfold BH Er Ol;omega
theorem Uz(h:q.kd=1):decide (BH q)=decide (Er q/\q.cl=0/\q.lo=q.hi/\(1<=q.lo/\q.lo<=1000000)/\q.bq=0/\q.ot=0):=decide_eq_decide.2 (xG h)
theorem yD(h:q.kd=2\/q.kd=3):decide (BH q)=decide (Er q/\q.bq=0/\q.ot=0):=decide_eq_decide.2 (xE h)
theorem yC(h:q.kd=4\/q.kd=5\/q.kd=6):decide (BH q)=decide (Er q/\Ol q/\q.ot=0):=decide_eq_decide.2 (xD h)
theorem vM(h:q.kd=7):decide (BH q)=decide (Er q/\(0<=q.ot/\q.ot<=3)/\Ol q):=decide_eq_decide.2 (xC h)
theorem U5(h:¬q.kd=1)(h7:¬q.kd=7)(h4:¬q.kd=4)(h5:¬q.kd=5)(h6:¬q.kd=6)(h2:¬q.kd=2)(h3:¬q.kd=3):¬BH q:=by unfold BH;omega
variable{b0:Bool}
theorem wR(h:q.kd=4\/q.kd=5\/q.kd=6)(hb0:b0=decide (Er q)):((b0&&decide (Ol q))&&decide (q.ot=0))=decide (BH q):=by
 rw [yC h,hb0];simp [Bool.and_assoc]
theorem jQ(h:q.kd=2\/q.kd=3)(hb0:b0=decide (Er q)):((b0&&decide (q.bq=0))&&decide (q.ot=0))=decide (BH q):=by
 rw [yD h,hb0];simp [Bool.and_assoc]
theorem xq(h:q.kd=7)(hb0:b0=decide (Er q))(e0:b0=true):((decide (0<=q.ot/\q.ot<=3)&&decide (Ol q))&&decide ((0:Int)=0))=decide (BH q):=by
 have hB:Er q:=An1 (hb0.symm.trans e0);rw [vM h];simp [hB]
theorem xu{x y:Bool}(h:q.kd=7)(hb0:b0=decide (Er q))(e0:b0=false):((false&&x)&&y)=decide (BH q):=by
 have hB:¬Er q:=An3 (hb0.symm.trans e0);rw [vM h];simp [hB]
variable{b:Bool}
theorem yj{z:Int}(hb:((b&&decide (Ol q))&&decide (z=0))=decide (BH q))(e:b=true):((decide (1<=q.bq/\q.bq<=3)&&decide ((0:Int)=0))&&decide (z=0))=decide (BH q):=by
 rw [<-hb,e,show decide (Ol q)=decide (1<=q.bq/\q.bq<=3) from decide_eq_decide.2 Iff.rfl];simp only [AJ1,decide_true,Bool.and_true]
theorem yl{x y:Bool}{z:Int}(hb:((b&&decide (Ol q))&&decide (z=0))=decide (BH q))(e:b=false):((false&&x)&&y)=decide (BH q):=by
 rw [<-hb,e];simp
theorem Jj(n lo hi:Int):BJ Tryz.prog 81 #[I4 n,I4 lo,I4 hi] [] (.bool (decide (lo<=n/\n<=hi))):=by
 refine Se func81 ntmps81 [0,1,2] ?_;intro u R;refine Zq<|Zg<|Za Y<|Z0<|Zx<|Zq<|Zg<|Zm Y<|Zm Y<|Zv (Iq Y Y)<|Zm Y<|Ak (t:=10) Y V (fun h1=>?_) (fun h1=>?_)
 ·
  refine Zf Y Y<|Zf Y Y<|Yg (OD Y Y)<|Zv (AZ Y Y)<|Za Y<|Z0<|Zx<|AC<|AL V results81 Y (by exact ⟨by simp [h1],V⟩)
 refine A7 Y V<|A7 Y V<|A7 Y V<|Zv (AU Y Y)<|Za Y<|Z0<|Zx<|AC<|AL V results81 Y (by exact ⟨by simp [h1],V⟩)
theorem JJ(q:QM):BJ Tryz.prog 34 #[.agg #[I4 q.kd,I4 q.tb,I4 q.cl,I4 q.lo,I4 q.hi,I4 q.bq,I4 q.ot]] [] (.bool (decide (BH q))):=by
 refine Se func34 ntmps34 [0] ?_;intro u R;refine Zq<|Zg<|Ze (Bx #[_,_,_,_,_,_,_]) ?_;rintro _ _ ⟨pb,rfl,rfl⟩;refine Za Y<|Z0<|Zx<|Zb [1] ?_;refine Ea (e0:=[]) (H0:=[]) (fun e H=>∃(b0:Bool),(b0=decide (Er q))/\e=[(3,.bool b0)]/\H=[]) Wp ?hx_1 ?hy_1
 case hx_1=>
  refine Zg<|Zh 1 AU9 V rfl AU1 Y<|Zl AU2 Y ?_;refine Xr [_,_,_] Y call81 Y V (Jj _ _ _) ?_;refine Zm Y<|Ak (t:=7) Y V (fun a1=>?_) (fun a1=>?_)
  ·
   refine Yf 2 AU9 V rfl AU1 Y<|Yl AU2 Y ?_;refine Xr [_,_,_] Y call81 Y V (Jj _ _ _) ?_;refine Zv (AZ Y Y)<|Zm Y<|Ak (t:=12) Y V (fun a2=>?_) (fun a2=>?_)
   ·
    refine Yf 3 AU9 V rfl AU1 Y<|Yl AU2 Y ?_;refine Yf 4 AU9 V rfl AU1 Y<|Yl AU2 Y ?_;refine Xr [_,_,_] Y call81 Y V (Jj _ _ _) ?_;refine Zv (AZ Y Y)<|Zm Y<|Ak (t:=19) Y V (fun a3=>?_) (fun a3=>?_)
    ·
     refine Yf 4 AU9 V rfl AU1 Y<|Yl AU2 Y ?_;refine Yg (OD Y Y)<|Zv (AZ Y Y)<|Za Y<|Z0<|Zn [3,1] ?_;refine Bi (e':=[(3,_)]) (by exact ⟨_,by unfold Er;exact decide_eq_decide.2 Ao7,V,V⟩)
    refine A7 Y V<|A7 Y V<|A7 Y V<|Zv (AU Y Y)<|Za Y<|Z0<|Zn [3,1] ?_;refine Bi (e':=[(3,_)]) (by exact ⟨_,by unfold Er;exact (Am5 Ao7).symm,V,V⟩)
   refine A7 Y V<|A7 Y V<|A7 Y V<|A7 Y V<|A7 Y V<|Zv (AU Y Y)<|Zm Y<|A7 Y V<|A7 Y V<|A7 Y V<|Zv (AU Y Y)<|Za Y<|Z0<|Zn [3,1] ?_;refine Bi (e':=[(3,_)]) (by exact ⟨_,by unfold Er;exact (Am5 Ao7).symm,V,V⟩)
  refine A7 Y V<|A7 Y V<|A7 Y V<|Zv (AU Y Y)<|Zm Y<|A7 Y V<|A7 Y V<|A7 Y V<|A7 Y V<|A7 Y V<|Zv (AU Y Y)<|Zm Y<|A7 Y V<|A7 Y V<|A7 Y V<|Zv (AU Y Y)<|Za Y<|Z0<|Zn [3,1] ?_;refine Bi (e':=[(3,_)]) (by exact ⟨_,by unfold Er;exact (Am5 Ao7).symm,V,V⟩)
 rintro _ _ ⟨b0,hb0,rfl,rfl⟩;refine Zq<|Zq<|Zg<|Zh 0 AU9 V rfl AU1 Y<|Zl AU2 Y ?_;refine Z0<|Zx<|AO<|Zb [3,25,1] ?_;refine Ea (e0:=[(3,_),(25,_)]) (H0:=[[(pb,_)]]) (fun e H=>∃(b:Bool) (y z:Int),(((b&&decide (y=0))&&decide (z=0))=decide (BH q))/\e=[(3,.bool b)]/\H=[[(pb,.cells #[I4 q.kd,I4 q.tb,I4 q.cl,I4 q.lo,I4 q.hi,I4 y,I4 z] 28 (0,0))]]) Wp ?hx_6 ?hy_6
 case hx_6=>
  refine AO<|Zb [3,25,1] ?_;refine Ea (e0:=[(3,_),(25,_)]) (H0:=[[(pb,_)]]) (fun e H=>∃(b:Bool) (z:Int),(((b&&decide (Ol q))&&decide (z=0))=decide (BH q))/\e=[(3,.bool b)]/\H=[[(pb,.cells #[I4 q.kd,I4 q.tb,I4 q.cl,I4 q.lo,I4 q.hi,I4 q.bq,I4 z] 28 (0,0))]]) Wp ?hx_7 ?hy_7
  case hx_7=>
   refine AO<|Zq<|AO<|Zq<|AO<|Zq<|Zq<|Zq<|Zg<|Zv (CL Y Y)<|Za Y<|Z0<|Zx<|Aw Y (fun k1=>?_) (fun k1=>?_)
   ·
    refine BG<|Zt<|Zt<|AX<|Zx<|Zq<|Zq<|Zg<|Zm Y<|Zm Y<|Aj (t:=38) Y V (fun c0=>?_) (fun c0=>?_)
    ·
     have hB:Er q:=An1 (hb0.symm.trans c0);refine Yf 2 AU9 V rfl AU1 Y<|Yl AU2 Y ?_;refine Yg (CL Y Y)<|Zv (AZ Y Y)<|Zm Y<|Ak (t:=43) Y V (fun c1=>?_) (fun c1=>?_)
     ·
      refine Yf 3 AU9 V rfl AU1 Y<|Yl AU2 Y ?_;refine Yf 4 AU9 V rfl AU1 Y<|Yl AU2 Y ?_;refine Yg (CL Y Y)<|Zv (AZ Y Y)<|Zm Y<|Ak (t:=50) Y V (fun c2=>?_) (fun c2=>?_)
      ·
       refine Yf 3 AU9 V rfl AU1 Y<|Yl AU2 Y ?_;refine Xr [_,_,_] Y call81 Y V (Jj _ _ _) ?_;refine Zv (AZ Y Y)<|Zm Y<|Ak (t:=55) Y V (fun c3=>?_) (fun c3=>?_)
       ·
        refine Yf 5 AU9 V rfl AU1 Y<|Yl AU2 Y ?_;refine Yg (CL Y Y)<|Zv (AZ Y Y)<|Zm Y<|Ak (t:=60) Y V (fun c4=>?_) (fun c4=>?_)
        ·
         refine Yf 6 AU9 V rfl AU1 Y<|Yl AU2 Y ?_;refine Yg (CL Y Y)<|Zv (AZ Y Y)<|Za Y<|Z0<|Zn [2] ?_;refine Zx<|AC<|Zt<|Ab<|Zt<|Ab<|Zt<|Ab<|Zt<|Ab<|Zt<|AL rfl Ad0 Y (by exact ⟨by rw [Uz k1];exact congrArg Value.bool (decide_eq_decide.2 ⟨fun h=>⟨hB,by omega⟩,fun h=>by omega⟩),rfl⟩)
        refine A7 Y V<|A7 Y V<|A7 Y V<|Zv (AU Y Y)<|Za Y<|Z0<|Zn [2] ?_;refine Zx<|AC<|Zt<|Ab<|Zt<|Ab<|Zt<|Ab<|Zt<|Ab<|Zt<|AL rfl Ad0 Y (by exact ⟨by rw [Uz k1];exact congrArg Value.bool (Am5 (fun h=>by first|exact hB h.1|omega)).symm,rfl⟩)
       refine A7 Y V<|A7 Y V<|A7 Y V<|Zv (AU Y Y)<|Zm Y<|A7 Y V<|A7 Y V<|A7 Y V<|Zv (AU Y Y)<|Za Y<|Z0<|Zn [2] ?_;refine Zx<|AC<|Zt<|Ab<|Zt<|Ab<|Zt<|Ab<|Zt<|Ab<|Zt<|AL rfl Ad0 Y (by exact ⟨by rw [Uz k1];exact congrArg Value.bool (Am5 (fun h=>by first|exact hB h.1|omega)).symm,rfl⟩)
      refine A7 Y V<|A7 Y V<|A7 Y V<|Zv (AU Y Y)<|Zm Y<|A7 Y V<|A7 Y V<|A7 Y V<|Zv (AU Y Y)<|Zm Y<|A7 Y V<|A7 Y V<|A7 Y V<|Zv (AU Y Y)<|Za Y<|Z0<|Zn [2] ?_;refine Zx<|AC<|Zt<|Ab<|Zt<|Ab<|Zt<|Ab<|Zt<|Ab<|Zt<|AL rfl Ad0 Y (by exact ⟨by rw [Uz k1];exact congrArg Value.bool (Am5 (fun h=>by first|exact hB h.1|omega)).symm,rfl⟩)
     refine A7 Y V<|A7 Y V<|A7 Y V<|A7 Y V<|A7 Y V<|Zv (AU Y Y)<|Zm Y<|A7 Y V<|A7 Y V<|A7 Y V<|Zv (AU Y Y)<|Zm Y<|A7 Y V<|A7 Y V<|A7 Y V<|Zv (AU Y Y)<|Zm Y<|A7 Y V<|A7 Y V<|A7 Y V<|Zv (AU Y Y)<|Za Y<|Z0<|Zn [2] ?_;refine Zx<|AC<|Zt<|Ab<|Zt<|Ab<|Zt<|Ab<|Zt<|Ab<|Zt<|AL rfl Ad0 Y (by exact ⟨by rw [Uz k1];exact congrArg Value.bool (Am5 (fun h=>by first|exact hB h.1|omega)).symm,rfl⟩)
    have hB:¬Er q:=An3 (hb0.symm.trans c0);refine A7 Y V<|A7 Y V<|A7 Y V<|Zv (AU Y Y)<|Zm Y<|A7 Y V<|A7 Y V<|A7 Y V<|A7 Y V<|A7 Y V<|Zv (AU Y Y)<|Zm Y<|A7 Y V<|A7 Y V<|A7 Y V<|Zv (AU Y Y)<|Zm Y<|A7 Y V<|A7 Y V<|A7 Y V<|Zv (AU Y Y)<|Zm Y<|A7 Y V<|A7 Y V<|A7 Y V<|Zv (AU Y Y)<|Za Y<|Z0<|Zn [2] ?_;refine Zx<|AC<|Zt<|Ab<|Zt<|Ab<|Zt<|Ab<|Zt<|Ab<|Zt<|AL rfl Ad0 Y (by exact ⟨by rw [Uz k1];exact congrArg Value.bool (Am5 (fun h=>by first|exact hB h.1|omega)).symm,rfl⟩)
   refine AJ<|Zx<|Zq<|Zq<|Zg<|Zv (CL Y Y)<|Za Y<|Z0<|Zx<|Aw Y (fun k7=>?_) (fun k7=>?_)
   ·
    refine BG<|Zt<|Zt<|Ao V<|Zt<|AX<|Zx<|Zq<|Zg<|Zm Y<|Zm Y<|Aj (t:=66) Y V (fun e0=>?_) (fun e0=>?_)
    ·
     refine Yf 6 AU9 V rfl AU1 Y<|Yl AU2 Y ?_;refine Xr [_,_,_] Y call81 Y V (Jj _ _ _) ?_;refine Zv (AZ Y Y)<|Za Y<|Z0<|Zx<|Zg<|Zh 6 AU9 V rfl AU1 Y<|Xe (Zs AU1 Y Y V) ?_;refine Z0<|Zn [1,3] ?_;refine A9<|Zn [3,1] ?_;refine Bi (e':=[(3,_)]) (by exact ⟨_,_,xq k7 hb0 e0,V,V⟩)
    refine A7 Y V<|A7 Y V<|A7 Y V<|Zv (AU Y Y)<|Za Y<|Z0<|Zx<|Zg<|Zh 6 AU9 V rfl AU1 Y<|Xe (Zs AU1 Y Y V) ?_;refine Z0<|Zn [1,3] ?_;refine A9<|Zn [3,1] ?_;refine Bi (e':=[(3,_)]) (by exact ⟨_,0,xu k7 hb0 e0,V,V⟩)
   refine AJ<|Zx<|Zq<|Zq<|Zq<|Zg<|Zv (CL Y Y)<|Za Y<|Z0<|Zx<|Aw Y (fun k4=>?_) (fun k4=>?_)
   ·
    refine AJ<|Zx<|Aw Y (fun k4=>?_) (fun k4=>?_)
    ·
     refine BG<|Zt<|Zt<|Ao V<|Zt<|Ao V<|Zt<|AX<|Zn [3,1] ?_;refine Bi (e':=[(3,_)]) (by exact ⟨_,_,wR Ao7 hb0,V,V⟩)
    refine AJ<|Zx<|Zq<|Zq<|Zg<|Zv (CL Y Y)<|Za Y<|Z0<|Zx<|Aw Y (fun k2=>?_) (fun k2=>?_)
    ·
     refine AJ<|Zx<|Aw Y (fun k2=>?_) (fun k2=>?_)
     ·
      refine BG<|Zt<|Ao V<|Zt<|Ao V<|Zt<|Ao V<|Zt<|AX<|Zn [3,1] ?_;refine Bi (e':=[(3,_)]) (by exact ⟨_,_,_,jQ Ao7 hb0,V,V⟩)
     refine AJ<|Zx<|BG<|Ao V<|Zt<|Ao V<|Zt<|Ao V<|Zt<|Ao V<|Zt<|AX<|Zx<|Zq<|Zg<|Za Y<|Z0<|Zx<|AC<|AL V Ad0 Y (by exact ⟨congrArg Value.bool (Am5 (U5 k1 k7 Ao7 Ao7 Ao7 Ao7 Ao7)).symm,V⟩)
    refine Zg<|Zv (CL Y Y)<|Za Y<|Z0<|Zx<|Aw Y (fun k2=>?_) (fun k2=>?_)
    ·
     refine BG<|Zt<|Ao V<|Zt<|Ao V<|Zt<|Ao V<|Zt<|AX<|Zn [3,1] ?_;refine Bi (e':=[(3,_)]) (by exact ⟨_,_,_,jQ Ao7 hb0,V,V⟩)
    refine AJ<|Zx<|BG<|Ao V<|Zt<|Ao V<|Zt<|Ao V<|Zt<|Ao V<|Zt<|AX<|Zx<|Zq<|Zg<|Za Y<|Z0<|Zx<|AC<|AL V Ad0 Y (by exact ⟨congrArg Value.bool (Am5 (U5 k1 k7 Ao7 Ao7 Ao7 Ao7 Ao7)).symm,V⟩)
   refine Zq<|Zg<|Zv (CL Y Y)<|Za Y<|Z0<|Zx<|Aw Y (fun k4=>?_) (fun k4=>?_)
   ·
    refine AJ<|Zx<|Aw Y (fun k4=>?_) (fun k4=>?_)
    ·
     refine BG<|Zt<|Zt<|Ao V<|Zt<|Ao V<|Zt<|AX<|Zn [3,1] ?_;refine Bi (e':=[(3,_)]) (by exact ⟨_,_,wR Ao7 hb0,V,V⟩)
    refine AJ<|Zx<|Zq<|Zq<|Zg<|Zv (CL Y Y)<|Za Y<|Z0<|Zx<|Aw Y (fun k2=>?_) (fun k2=>?_)
    ·
     refine AJ<|Zx<|Aw Y (fun k2=>?_) (fun k2=>?_)
     ·
      refine BG<|Zt<|Ao V<|Zt<|Ao V<|Zt<|Ao V<|Zt<|AX<|Zn [3,1] ?_;refine Bi (e':=[(3,_)]) (by exact ⟨_,_,_,jQ Ao7 hb0,V,V⟩)
     refine AJ<|Zx<|BG<|Ao V<|Zt<|Ao V<|Zt<|Ao V<|Zt<|Ao V<|Zt<|AX<|Zx<|Zq<|Zg<|Za Y<|Z0<|Zx<|AC<|AL V Ad0 Y (by exact ⟨congrArg Value.bool (Am5 (U5 k1 k7 Ao7 Ao7 Ao7 Ao7 Ao7)).symm,V⟩)
    refine Zg<|Zv (CL Y Y)<|Za Y<|Z0<|Zx<|Aw Y (fun k2=>?_) (fun k2=>?_)
    ·
     refine BG<|Zt<|Ao V<|Zt<|Ao V<|Zt<|Ao V<|Zt<|AX<|Zn [3,1] ?_;refine Bi (e':=[(3,_)]) (by exact ⟨_,_,_,jQ Ao7 hb0,V,V⟩)
    refine AJ<|Zx<|BG<|Ao V<|Zt<|Ao V<|Zt<|Ao V<|Zt<|Ao V<|Zt<|AX<|Zx<|Zq<|Zg<|Za Y<|Z0<|Zn [2] ?_;refine Zx<|AC<|AL V Ad0 Y (by exact ⟨congrArg Value.bool (Am5 (U5 k1 k7 Ao7 Ao7 Ao7 Ao7 Ao7)).symm,V⟩)
   refine Zg<|Zv (CL Y Y)<|Za Y<|Z0<|Zx<|Aw Y (fun k4=>?_) (fun k4=>?_)
   ·
    refine BG<|Zt<|Zt<|Ao V<|Zt<|Ao V<|Zt<|AX<|Zn [3,1] ?_;refine Bi (e':=[(3,_)]) (by exact ⟨_,_,wR Ao7 hb0,V,V⟩)
   refine AJ<|Zx<|Zq<|Zq<|Zg<|Zv (CL Y Y)<|Za Y<|Z0<|Zx<|Aw Y (fun k2=>?_) (fun k2=>?_)
   ·
    refine AJ<|Zx<|Aw Y (fun k2=>?_) (fun k2=>?_)
    ·
     refine BG<|Zt<|Ao V<|Zt<|Ao V<|Zt<|Ao V<|Zt<|AX<|Zn [3,1] ?_;refine Bi (e':=[(3,_)]) (by exact ⟨_,_,_,jQ Ao7 hb0,V,V⟩)
    refine AJ<|Zx<|BG<|Ao V<|Zt<|Ao V<|Zt<|Ao V<|Zt<|Ao V<|Zt<|AX<|Zx<|Zq<|Zg<|Za Y<|Z0<|Zn [2] ?_;refine Zx<|AC<|AL V Ad0 Y (by exact ⟨congrArg Value.bool (Am5 (U5 k1 k7 Ao7 Ao7 Ao7 Ao7 Ao7)).symm,V⟩)
   refine Zg<|Zv (CL Y Y)<|Za Y<|Z0<|Zn [1,3,34] ?_;refine Zx<|Aw Y (fun k2=>?_) (fun k2=>?_)
   ·
    refine BG<|Zt<|Ao V<|Zt<|Ao V<|Zt<|Ao V<|Zt<|AX<|Zn [3,1] ?_;refine Bi (e':=[(3,_)]) (by exact ⟨_,_,_,jQ Ao7 hb0,V,V⟩)
   refine AJ<|Zx<|BG<|Ao V<|Zt<|Ao V<|Zt<|Ao V<|Zt<|Ao V<|Zt<|AX<|Zx<|Zq<|Zg<|Za Y<|Z0<|Zx<|AC<|AL V Ad0 Y (by exact ⟨congrArg Value.bool (Am5 (U5 k1 k7 Ao7 Ao7 Ao7 Ao7 Ao7)).symm,V⟩)
  rintro _ _ ⟨b,z,hb,rfl,rfl⟩;refine Zq<|Zg<|Zm Y<|Zm Y<|Aj (t:=73) Y V (fun f0=>?_) (fun f0=>?_)
  ·
   refine Yf 5 AU9 V rfl AU1 Y<|Yl AU2 Y ?_;refine Xr [_,_,_] Y call81 Y V (Jj _ _ _) ?_;refine Zv (AZ Y Y)<|Za Y<|Z0<|Zx<|Zg<|Zh 5 AU9 V rfl AU1 Y<|Xe (Zs AU1 Y Y V) ?_;refine Z0<|A9<|Zn [3,1] ?_;refine Bi (e':=[(3,_)]) (by exact ⟨_,_,_,yj hb f0,V,V⟩)
  refine A7 Y V<|A7 Y V<|A7 Y V<|Zv (AU Y Y)<|Za Y<|Z0<|Zx<|Zg<|Zh 5 AU9 V rfl AU1 Y<|Xe (Zs AU1 Y Y V) ?_;refine Z0<|A9<|Zn [3,1] ?_;refine Bi (e':=[(3,_)]) (by exact ⟨_,0,z,yl hb f0,V,V⟩)
 rintro _ _ ⟨b,y,z,hb,rfl,rfl⟩;refine Zq<|Zq<|Zg<|Zm Y<|Zm Y<|Aj (t:=80) Y V (fun g0=>?_) (fun g0=>?_)
 ·
  refine Yf 5 AU9 V rfl AU1 Y<|Yl AU2 Y ?_;refine Yg (CL Y Y)<|Zv (AZ Y Y)<|Zm Y<|Ak (t:=85) Y V (fun g1=>?_) (fun g1=>?_)
  ·
   refine Yf 6 AU9 V rfl AU1 Y<|Yl AU2 Y ?_;refine Yg (CL Y Y)<|Zv (AZ Y Y)<|Za Y<|Z0<|Zx<|AC<|Zt<|Ab<|Zt<|AL rfl Ad0 Y (by exact ⟨by rw [<-hb];simp [*],rfl⟩)
  refine A7 Y rfl<|A7 Y rfl<|A7 Y rfl<|Zv (AU Y Y)<|Za Y<|Z0<|Zx<|AC<|Zt<|Ab<|Zt<|AL rfl Ad0 Y (by exact ⟨by rw [<-hb];simp [*],rfl⟩)
 refine A7 Y rfl<|A7 Y rfl<|A7 Y rfl<|Zv (AU Y Y)<|Zm Y<|A7 Y rfl<|A7 Y rfl<|A7 Y rfl<|Zv (AU Y Y)<|Za Y<|Z0<|Zx<|AC<|Zt<|Ab<|Zt<|AL rfl Ad0 Y (by exact ⟨by rw [<-hb];simp [*],rfl⟩)
def II(p:Option Addr)(o:Option AQ)(s:List A8):Prop:=match o with
 |none=>p=none/\s=[]
 |some r=>∃b,p=some ⟨b,0,none⟩/\s=[(b,.cells #[I4 r.t,I4 r.k,I4 r.v.a,I4 r.v.b,I4 r.v.c] 83 (0,0))]
theorem II.some_{p:Option Addr}{o:Option AQ}{s:List A8}(h:II p o s):p.isSome=o.isSome:=by
 cases o with
 |none=>rw [h.1];rfl
 |some r=>obtain ⟨b,rfl,_⟩:=h;rfl
theorem YG(q:QM)(c:Chg)(th:Bool)(v:V3):Gx q th (Dt c th v)=Gx q th ⟨c.t,c.k,v⟩:=by
 cases th with
 |false=>rfl
 |true=>rfl
theorem Vj{r:AQ}(h:b=false\/¬(r.t=q.tb/\q.lo<=Be r q.cl/\Be r q.cl<=q.hi)):Gx q b r=none:=by
 unfold Gx inQ;rcases h with h|h
 · rw [h];rfl
 · rw [Am5 h,Bool.and_false];rfl
theorem sV{r:AQ}(h:b=true)(h2:r.t=q.tb/\q.lo<=Be r q.cl/\Be r q.cl<=q.hi):Gx q b r=some r:=by
 unfold Gx inQ;rw [h,Am8 h2];rfl
theorem Gz:FU Tryz.prog 3 (fun k:Int=>I4 k) (fun _=>True):=CO AV3
theorem Nw(q:QM)(hcl:0<=q.cl/\q.cl<=3)(hbq:0<=q.bq/\q.bq<=3)(bq:Nat)(r:AQ)(b:Bool):BR Tryz.prog 139 #[.agg #[I4 r.t,I4 r.k,I4 r.v.a,I4 r.v.b,I4 r.v.c],.bool b,I5 bq] [[(bq,.cells #[I4 q.kd,I4 q.tb,I4 q.cl,I4 q.lo,I4 q.hi,I4 q.bq,I4 q.ot] 28 (0,0))]] (fun v H'=>∃p s,v= .tuple #[.pointer p,I4 (mQ q (Gx q b r))]/\II p (Gx q b r) s/\H'=[s,[(bq,.cells #[I4 q.kd,I4 q.tb,I4 q.cl,I4 q.lo,I4 q.hi,I4 q.bq,I4 q.ot] 28 (0,0))]]):=by
 refine Se func139 ntmps139 [0,1,2] ?_;intro u R;refine Zq<|Zg<|Ze (Bx #[_,_,_,_,_]) ?_;rintro _ _ ⟨bx,rfl,rfl⟩;refine Za Y<|Za Y<|Z0<|Zx<|Zq<|Zg<|Zo Wh (AA (cs:=#[_,_,_,_,_]) AX3 AU5 Y (by(simp;done)) Ap1) ?_;refine Zh 2 AU9 V rfl AU1 Y<|Zl AU2 Y ?_;refine Xr [_,_] Y Ah3 Y V (FW r q.cl hcl) ?_;refine Za Y<|Z0<|Zx<|Zq<|Zq<|Zg<|Zm Y<|Zv (Br Y)<|Zm Y<|Aj (t:=14) Y V (fun h1=>?_) (fun h1=>?_)
 ·
  refine A7 Y V<|A7 Y V<|A7 Y V<|A7 Y V<|A7 Y V<|Zv (AZ Y Y)<|Zm Y<|A7 Y V<|A7 Y V<|A7 Y V<|A7 Y V<|Zv (AZ Y Y)<|Zm Y<|A7 Y V<|A7 Y V<|A7 Y V<|A7 Y V<|Zv (AZ Y Y)<|Z0<|Zn [2,3,32] ?_;refine Zx<|DV Y<|Zq<|BV<|Zg<|Za Y<|Za Y<|Z0<|Zx<|AC<|Zt<|Ci V Am0 Y Y (by
   have e9:Gx q b r=none:=Vj (by exact .inl (by simpa using h1));exact ⟨none,[],by rw [e9];rfl,by rw [e9];exact ⟨rfl,rfl⟩,rfl⟩)
 refine Yf 0 AX4 V rfl AU1 Y<|Yl AU2 Y ?_;refine Yf 1 AU9 V rfl AU1 Y<|Yl AU2 Y ?_;refine Yg (JN Y Y)<|Zv (AU Y Y)<|Zm Y<|Ak (t:=21) Y V (fun h2=>?_) (fun h2=>?_)
 ·
  refine A7 Y V<|A7 Y V<|A7 Y V<|A7 Y V<|Zv (AZ Y Y)<|Zm Y<|A7 Y V<|A7 Y V<|A7 Y V<|A7 Y V<|Zv (AZ Y Y)<|Z0<|Zn [2,3,32] ?_;refine Zx<|DV Y<|Zq<|BV<|Zg<|Za Y<|Za Y<|Z0<|Zx<|AC<|Zt<|Ci V Am0 Y Y (by
   have e9:Gx q b r=none:=Vj (by exact .inr Ao7);exact ⟨none,[],by rw [e9];rfl,by rw [e9];exact ⟨rfl,rfl⟩,rfl⟩)
 refine Zf Y Y<|Yf 3 AU9 V rfl AU1 Y<|Yl AU2 Y ?_;refine Yg (Dq Y Y)<|Zv (AU Y Y)<|Zm Y<|Ak (t:=27) Y V (fun h3=>?_) (fun h3=>?_)
 ·
  refine A7 Y V<|A7 Y V<|A7 Y V<|A7 Y V<|Zv (AZ Y Y)<|Z0<|Zn [2,3,32] ?_;refine Zx<|DV Y<|Zq<|BV<|Zg<|Za Y<|Za Y<|Z0<|Zx<|AC<|Zt<|Ci V Am0 Y Y (by
   have e9:Gx q b r=none:=Vj (by exact .inr Ao7);exact ⟨none,[],by rw [e9];rfl,by rw [e9];exact ⟨rfl,rfl⟩,rfl⟩)
 refine Zf Y Y<|Yf 4 AU9 V rfl AU1 Y<|Yl AU2 Y ?_;refine Yg (FI Y Y)<|Zv (AU Y Y)<|Z0<|Zn [2,3,32] ?_;refine Zx<|Aw Y (fun h4=>?_) (fun h4=>?_)
 ·
  refine Zq<|BV<|Zg<|Za Y<|Za Y<|Z0<|Zx<|AC<|Zt<|Ci V Am0 Y Y (by
   have e9:Gx q b r=none:=Vj (by exact .inr Ao7);exact ⟨none,[],by rw [e9];rfl,by rw [e9];exact ⟨rfl,rfl⟩,rfl⟩)
 refine AJ<|Zx<|Zq<|Zg<|Zo Wh (AA (cs:=#[_,_,_,_,_]) AX3 AU5 Y (by(simp;done)) Ap1) ?_;refine Zh 5 AU9 V rfl AU1 Y<|Zl AU2 Y ?_;refine Xr [_,_] Y Ah3 Y V (FW r q.bq hbq) ?_;refine Za Y<|Za Y<|Z0<|Zx<|AC<|Ci V Am0 Y Y (by
  have e9:Gx q b r=some r:=sV (by simpa using h1) Ao7;exact ⟨_,_,by rw [e9];rfl,by rw [e9];exact ⟨bx,rfl,rfl⟩,rfl⟩)
theorem UD(c:Chg):BJ Tryz.prog 141 #[.agg #[I4 c.t,I4 c.k,.bool c.had,I4 c.o.a,I4 c.o.b,I4 c.o.c,.bool c.has,I4 c.n.a,I4 c.n.b,I4 c.n.c]] [] (.tuple #[.agg #[I4 (Dt c c.had c.o).t,I4 (Dt c c.had c.o).k,I4 (Dt c c.had c.o).v.a,I4 (Dt c c.had c.o).v.b,I4 (Dt c c.had c.o).v.c],.bool c.had]):=by
 refine Se func141 ntmps141 [0] ?_;intro u R;refine Zq<|Zg<|Ze (Bx #[_,_,_,_,_,_,_,_,_,_]) ?_;rintro _ _ ⟨b1,rfl,rfl⟩;refine Ze (Al AW7 #[_,_,_,_,_]) ?_;rintro _ _ ⟨b2,rfl,rfl⟩;refine Za Y<|Z0<|Zx<|Zq<|Zg<|Zo Wh (AA (cs:=#[_,_,_,_,_,_,_,_,_,_]) Aa3 AW4 Y (by(simp;done)) Ap1) ?_;refine Zh 2 AV4 V rfl AX8 Y<|Zl Ab8 Y ?_;refine Zh 3 AV4 V rfl AZ5 Y<|Zo Wh (AA (cs:=#[_,_,_]) Ag4 AZ5 Y (by(simp;done)) Ap1) ?_;refine Xr [_,_,_] Y call202 Y V (VU c c.had c.o) ?_;refine Zd Y V<|Zd Y V<|Xe (Xw AU5 _) ?_;refine Za Y<|Z0<|Zn [2,3] ?_;refine Zx<|AC<|Bu V results141 Y Wh (Ap AX3 AU5 Wn (V)) Y (by exact ⟨V,V⟩)
set_option maxHeartbeats 1000000 in
theorem JR(q:QM)(hcl:0<=q.cl/\q.cl<=3)(hbq:0<=q.bq/\q.bq<=3)(c:Chg):BR Tryz.prog 69 #[.agg #[I4 q.kd,I4 q.tb,I4 q.cl,I4 q.lo,I4 q.hi,I4 q.bq,I4 q.ot],.agg #[I4 c.t,I4 c.k,.bool c.had,I4 c.o.a,I4 c.o.b,I4 c.o.c,.bool c.has,I4 c.n.a,I4 c.n.b,I4 c.n.c]] [] (fun v H'=>∃p1 p2 s1 s2,v= .agg #[I4 q.kd,I4 q.tb,I4 q.cl,I4 q.lo,I4 q.hi,I4 q.bq,I4 q.ot,I4 c.t,I4 c.k,.bool c.had,I4 c.o.a,I4 c.o.b,I4 c.o.c,.bool c.has,I4 c.n.a,I4 c.n.b,I4 c.n.c,.pointer p1,.pointer p2,I4 (mQ q (bfQ q c)),I4 (mQ q (afQ q c))]/\II p1 (bfQ q c) s1/\II p2 (afQ q c) s2/\H'=[s1,s2]):=by
 refine Se func69 ntmps69 [0,1] ?_;intro u R;refine Zq<|Zg<|Ze (Bx #[_,_,_,_,_,_,_]) ?_;rintro _ _ ⟨bq,rfl,rfl⟩;refine Ze (Bx #[_,_,_,_,_,_,_,_,_,_]) ?_;rintro _ _ ⟨bc,rfl,rfl⟩;refine Ze (EB zeroValue167 (cs:=#[I4 0,I4 0,I4 0,I4 0,I4 0,I4 0,I4 0,I4 0,I4 0,.bool false,I4 0,I4 0,I4 0,.bool false,I4 0,I4 0,I4 0,.pointer none,.pointer none,I4 0,I4 0]) Ao8) ?_;rintro _ _ ⟨rb,rfl,rfl⟩;refine Z0<|Zx<|Zq<|Zg<|Zo Wh (AA (cs:=#[_,_,_,_,_,_,_]) AX9 AV8 Y (by(simp;done)) Ap1) ?_;refine Zo Wh (AA (cs:=#[_,_,_,_,_,_,_,_,_,_]) Aa3 AW4 Y (by(simp;done)) Ap1) ?_;refine Zv (BL (vs:=[(0,.agg #[I4 q.kd,I4 q.tb,I4 q.cl,I4 q.lo,I4 q.hi,I4 q.bq,I4 q.ot]),(1,.agg #[I4 c.t,I4 c.k,.bool c.had,I4 c.o.a,I4 c.o.b,I4 c.o.c,.bool c.has,I4 c.n.a,I4 c.n.b,I4 c.n.c])]) (cs:=#[I4 q.kd,I4 q.tb,I4 q.cl,I4 q.lo,I4 q.hi,I4 q.bq,I4 q.ot,I4 c.t,I4 c.k,.bool c.had,I4 c.o.a,I4 c.o.b,I4 c.o.c,.bool c.has,I4 c.n.a,I4 c.n.b,I4 c.n.c,.pointer none,.pointer none,I4 0,I4 0]) Y (AY (pl:=#[(0,7),(7,10),(17,1),(18,1),(19,1),(20,1)]) zeroValue167 AU7 (fun _=>by kernel_rfl) Ao8))<|Ze (EB zeroValue167 (cs:=#[I4 0,I4 0,I4 0,I4 0,I4 0,I4 0,I4 0,I4 0,I4 0,.bool false,I4 0,I4 0,I4 0,.bool false,I4 0,I4 0,I4 0,.pointer none,.pointer none,I4 0,I4 0]) Ao8) ?_;rintro _ _ ⟨be,rfl,rfl⟩;refine Xe (BK Af7 Y Y Ap6 Wu (by exact Dr rfl) Ap3 Ao9 (by exact BF _)) ?_;refine Z0<|Zx<|Zq<|Zg<|Zv (Bb (vs:=[]) (us:=[_]) Y Y)<|Za Y<|Z0<|Zx<|Zq<|Zg<|Zm Y<|Zo Wh (AA (cs:=#[_,_,_,_,_,_,_,_,_,_]) Aa3 AW4 Y (by(simp;done)) Ap1) ?_;refine Xr [_] Y call141 Y V (UD c) ?_;refine Zd Y V<|Zd Y V<|Zc [_,_] Y call139 Y V (Nw q hcl hbq bq (Dt c c.had c.o) c.had) ?_;rintro _ _ ⟨_,⟨p1,s1,rfl,hP1,rfl⟩,rfl⟩;have e91:Gx q c.had (Dt c c.had c.o)=bfQ q c:=YG q c c.had c.o
 rw [e91]at hP1⊢;refine Zm Y<|Zd Y V<|Zd Y V<|Zh 17 AU7 V rfl Aa4 Y<|Xe (Zs Aa4 Y Y V (hi:=by(simp;done))) ?_;refine Zh 19 AU7 V rfl AU1 Y<|Xe (Zs AU1 Y Y V (hi:=by(simp;done))) ?_;refine Z0<|Zn [3,4,5,6] ?_;refine Zx<|Zq<|Zg<|Zm Y<|Zo Wh (AA (cs:=#[_,_,_,_,_,_,_,_,_,_]) Aa3 AW4 Y (by(simp;done)) Ap1) ?_;refine Xr [_] Y call142 Y V (O0 c) ?_;refine Zd Y V<|Zd Y V<|Zc [_,_] Y call139 Y V (Nw q hcl hbq bq (Dt c c.has c.n) c.has) ?_;rintro _ _ ⟨_,⟨p2,s2,rfl,hP2,rfl⟩,rfl⟩;have e92:Gx q c.has (Dt c c.has c.n)=afQ q c:=YG q c c.has c.n
 rw [e92]at hP2⊢;refine Zm Y<|Zd Y V<|Zd Y V<|Zh 18 AU7 V rfl Aa4 Y<|Xe (Zs Aa4 Y Y V (hi:=by(simp;done))) ?_;refine Zh 20 AU7 V rfl AU1 Y<|Xe (Zs AU1 Y Y V (hi:=by(simp;done))) ?_;refine Z0<|Zn [4,5] ?_;refine Zx<|Zq<|Zg<|Zo Wh (AA Ak0 Af7 Y (by(simp;done)) (by exact BD V)) ?_;refine Xe (BK Af7 Y Y Ap6 Wu (by exact Dr rfl) Ap3 Ao9 (by exact BF _)) ?_;refine Z0<|Zx<|AC<|Cy V results69 Y Wh (Ap Ak0 Af7 Wn (BD V)) (by exact ⟨p1,p2,s1,s2,V,hP1,hP2,V⟩)
theorem Fe(q:QM)(c:Chg)(p1 p2:Option Addr)(o n:Int):(Value.agg #[I4 q.kd,I4 q.tb,I4 q.cl,I4 q.lo,I4 q.hi,I4 q.bq,I4 q.ot,I4 c.t,I4 c.k,.bool c.had,I4 c.o.a,I4 c.o.b,I4 c.o.c,.bool c.has,I4 c.n.a,I4 c.n.b,I4 c.n.c,.pointer p1,.pointer p2,I4 o,I4 n]).cells=#[I4 q.kd,I4 q.tb,I4 q.cl,I4 q.lo,I4 q.hi,I4 q.bq,I4 q.ot,I4 c.t,I4 c.k,.bool c.had,I4 c.o.a,I4 c.o.b,I4 c.o.c,.bool c.has,I4 c.n.a,I4 c.n.b,I4 c.n.c,.pointer p1,.pointer p2,I4 o,I4 n]:=by simp [Value.cells]
theorem Z6(q:QM)(c:Chg)(p1 p2:Option Addr)(o n:Int):BJ Tryz.prog 126 #[.agg #[I4 q.kd,I4 q.tb,I4 q.cl,I4 q.lo,I4 q.hi,I4 q.bq,I4 q.ot,I4 c.t,I4 c.k,.bool c.had,I4 c.o.a,I4 c.o.b,I4 c.o.c,.bool c.has,I4 c.n.a,I4 c.n.b,I4 c.n.c,.pointer p1,.pointer p2,I4 o,I4 n]] [] (.bool (p1.isSome||p2.isSome)):=by
 refine Se func126 ntmps126 [0] ?_;intro u R;refine Zq<|Zg<|Ze (EX Y (cs:=#[I4 q.kd,I4 q.tb,I4 q.cl,I4 q.lo,I4 q.hi,I4 q.bq,I4 q.ot,I4 c.t,I4 c.k,.bool c.had,I4 c.o.a,I4 c.o.b,I4 c.o.c,.bool c.has,I4 c.n.a,I4 c.n.b,I4 c.n.c,.pointer p1,.pointer p2,I4 o,I4 n]) (Fe q c p1 p2 o n)) ?_;rintro _ _ ⟨be,rfl,rfl⟩;refine Za Y<|Z0<|Zx<|Zq<|Zg<|Zh 17 AU7 V rfl Aa4 Y<|Zl Ae0 Y ?_;refine Zv (ET Aa2 Y Y)<|Zm Y<|Aj (t:=6) Y V (fun h1=>?_) (fun h1=>?_)
 ·
  refine A7 Y rfl<|A7 Y rfl<|A7 Y rfl<|Zv (AZ Y Y)<|Za Y<|Z0<|Zx<|AC<|AL rfl results126 Y (by exact ⟨by first|rfl|simp [h1],rfl⟩)
 refine Yf 18 AU7 V rfl Aa4 Y<|Yl Ae0 Y ?_;refine Yg (ET Aa2 Y Y)<|Zv (AU Y Y)<|Za Y<|Z0<|Zx<|AC<|AL rfl results126 Y (by exact ⟨by first|rfl|simp [h1],rfl⟩)
theorem SA(q:QM)(c:Chg)(p1 p2:Option Addr)(o n:Int):BJ Tryz.prog 128 #[.agg #[I4 q.kd,I4 q.tb,I4 q.cl,I4 q.lo,I4 q.hi,I4 q.bq,I4 q.ot,I4 c.t,I4 c.k,.bool c.had,I4 c.o.a,I4 c.o.b,I4 c.o.c,.bool c.has,I4 c.n.a,I4 c.n.b,I4 c.n.c,.pointer p1,.pointer p2,I4 o,I4 n]] [] (.bool (p1.isSome !=p2.isSome)):=by
 refine Se func128 ntmps128 [0] ?_;intro u R;refine Zq<|Zg<|Ze (EX Y (cs:=#[I4 q.kd,I4 q.tb,I4 q.cl,I4 q.lo,I4 q.hi,I4 q.bq,I4 q.ot,I4 c.t,I4 c.k,.bool c.had,I4 c.o.a,I4 c.o.b,I4 c.o.c,.bool c.has,I4 c.n.a,I4 c.n.b,I4 c.n.c,.pointer p1,.pointer p2,I4 o,I4 n]) (Fe q c p1 p2 o n)) ?_;rintro _ _ ⟨be,rfl,rfl⟩;refine Za Y<|Z0<|Zx<|Zq<|Zg<|Zh 17 AU7 V rfl Aa4 Y<|Zl Ae0 Y ?_;refine Zv (NF Aa2 Y Y)<|Zh 18 AU7 V rfl Aa4 Y<|Zl Ae0 Y ?_;refine Zv (NF Aa2 Y Y)<|Zv (Ip AZ3 Y Y)<|Za Y<|Z0<|Zx<|AC<|AL V results128 Y (by exact ⟨by cases p1<;>cases p2<;>rfl,V⟩)
theorem u6(q:QM)(c:Chg)(p1 p2:Option Addr)(o n:Int):BJ Tryz.prog 130 #[.agg #[I4 q.kd,I4 q.tb,I4 q.cl,I4 q.lo,I4 q.hi,I4 q.bq,I4 q.ot,I4 c.t,I4 c.k,.bool c.had,I4 c.o.a,I4 c.o.b,I4 c.o.c,.bool c.has,I4 c.n.a,I4 c.n.b,I4 c.n.c,.pointer p1,.pointer p2,I4 o,I4 n]] [] (.bool (decide (o≠n))):=by
 refine Se func130 ntmps130 [0] ?_;intro u R;refine Zq<|Zg<|Ze (EX Y (cs:=#[I4 q.kd,I4 q.tb,I4 q.cl,I4 q.lo,I4 q.hi,I4 q.bq,I4 q.ot,I4 c.t,I4 c.k,.bool c.had,I4 c.o.a,I4 c.o.b,I4 c.o.c,.bool c.has,I4 c.n.a,I4 c.n.b,I4 c.n.c,.pointer p1,.pointer p2,I4 o,I4 n]) (Fe q c p1 p2 o n)) ?_;rintro _ _ ⟨be,rfl,rfl⟩;refine Za Y<|Z0<|Zx<|Zq<|Zg<|Zh 19 AU7 V rfl AU1 Y<|Zl AU2 Y ?_;refine Zh 20 AU7 V rfl AU1 Y<|Zl AU2 Y ?_;refine Zv (JN Y Y)<|Za Y<|Z0<|Zx<|AC<|AL rfl results130 Y (by exact ⟨by first|rfl|simp,rfl⟩)
theorem tu(q:QM)(c:Chg)(p1 p2:Option Addr)(o n:Int):BJ Tryz.prog 132 #[.agg #[I4 q.kd,I4 q.tb,I4 q.cl,I4 q.lo,I4 q.hi,I4 q.bq,I4 q.ot,I4 c.t,I4 c.k,.bool c.had,I4 c.o.a,I4 c.o.b,I4 c.o.c,.bool c.has,I4 c.n.a,I4 c.n.b,I4 c.n.c,.pointer p1,.pointer p2,I4 o,I4 n]] [] (.bool ((p1.isSome !=p2.isSome)||decide (o≠n))):=by
 refine Se func132 ntmps132 [0] ?_;intro u R;refine Zq<|Zg<|Ze (EX Y (cs:=#[I4 q.kd,I4 q.tb,I4 q.cl,I4 q.lo,I4 q.hi,I4 q.bq,I4 q.ot,I4 c.t,I4 c.k,.bool c.had,I4 c.o.a,I4 c.o.b,I4 c.o.c,.bool c.has,I4 c.n.a,I4 c.n.b,I4 c.n.c,.pointer p1,.pointer p2,I4 o,I4 n]) (Fe q c p1 p2 o n)) ?_;rintro _ _ ⟨be,rfl,rfl⟩;refine Za Y<|Z0<|Zx<|Zq<|Zg<|Zo Wh (AA Ak0 Af7 Y (by(simp;done)) (by exact BD V)) ?_;refine Xr [_] Y call128 Y V (SA q c p1 p2 o n) ?_;refine Zm Y<|Aj (t:=5) Y V (fun h1=>?_) (fun h1=>?_)
 ·
  refine A7 Y V<|A7 Y V<|A7 Y V<|A7 Y V<|A7 Y V<|Zv (AZ Y Y)<|Za Y<|Z0<|Zx<|AC<|AL V results132 Y (by exact ⟨by simp [h1],V⟩)
 refine Yf 19 AU7 V rfl AU1 Y<|Yl AU2 Y ?_;refine Yf 20 AU7 V rfl AU1 Y<|Yl AU2 Y ?_;refine Yg (JN Y Y)<|Zv (AU Y Y)<|Za Y<|Z0<|Zx<|AC<|AL V results132 Y (by exact ⟨by simp [h1],V⟩)
theorem tq(q:QM)(c:Chg)(p1 p2:Option Addr)(o n:Int):BJ Tryz.prog 135 #[.agg #[I4 q.kd,I4 q.tb,I4 q.cl,I4 q.lo,I4 q.hi,I4 q.bq,I4 q.ot,I4 c.t,I4 c.k,.bool c.had,I4 c.o.a,I4 c.o.b,I4 c.o.c,.bool c.has,I4 c.n.a,I4 c.n.b,I4 c.n.c,.pointer p1,.pointer p2,I4 o,I4 n]] [] (.bool ((p1.isSome !=p2.isSome)||decide (o≠n))):=by
 refine Se func135 ntmps135 [0] ?_;intro u R;refine Zq<|Zg<|Ze (EX Y (cs:=#[I4 q.kd,I4 q.tb,I4 q.cl,I4 q.lo,I4 q.hi,I4 q.bq,I4 q.ot,I4 c.t,I4 c.k,.bool c.had,I4 c.o.a,I4 c.o.b,I4 c.o.c,.bool c.has,I4 c.n.a,I4 c.n.b,I4 c.n.c,.pointer p1,.pointer p2,I4 o,I4 n]) (Fe q c p1 p2 o n)) ?_;rintro _ _ ⟨be,rfl,rfl⟩;refine Za Y<|Z0<|Zx<|Zq<|Zg<|Zo Wh (AA Ak0 Af7 Y (by(simp;done)) (by exact BD V)) ?_;refine Xr [_] Y call128 Y V (SA q c p1 p2 o n) ?_;refine Zm Y<|Aj (t:=5) Y V (fun h1=>?_) (fun h1=>?_)
 ·
  refine A7 Y V<|A7 Y V<|A7 Y V<|A7 Y V<|A7 Y V<|Zv (AZ Y Y)<|Za Y<|Z0<|Zx<|AC<|AL V results135 Y (by exact ⟨by simp [h1],V⟩)
 refine Yf 19 AU7 V rfl AU1 Y<|Yl AU2 Y ?_;refine Yf 20 AU7 V rfl AU1 Y<|Yl AU2 Y ?_;refine Yg (JN Y Y)<|Zv (AU Y Y)<|Za Y<|Z0<|Zx<|AC<|AL V results135 Y (by exact ⟨by simp [h1],V⟩)
theorem tZ(q:QM)(c:Chg)(p1 p2:Option Addr)(o n:Int):BJ Tryz.prog 137 #[.agg #[I4 q.kd,I4 q.tb,I4 q.cl,I4 q.lo,I4 q.hi,I4 q.bq,I4 q.ot,I4 c.t,I4 c.k,.bool c.had,I4 c.o.a,I4 c.o.b,I4 c.o.c,.bool c.has,I4 c.n.a,I4 c.n.b,I4 c.n.c,.pointer p1,.pointer p2,I4 o,I4 n]] [] (.bool ((p1.isSome||p2.isSome)||decide (c.t=q.ot))):=by
 refine Se func137 ntmps137 [0] ?_;intro u R;refine Zq<|Zg<|Ze (EX Y (cs:=#[I4 q.kd,I4 q.tb,I4 q.cl,I4 q.lo,I4 q.hi,I4 q.bq,I4 q.ot,I4 c.t,I4 c.k,.bool c.had,I4 c.o.a,I4 c.o.b,I4 c.o.c,.bool c.has,I4 c.n.a,I4 c.n.b,I4 c.n.c,.pointer p1,.pointer p2,I4 o,I4 n]) (Fe q c p1 p2 o n)) ?_;rintro _ _ ⟨be,rfl,rfl⟩;refine Za Y<|Z0<|Zx<|Zq<|Zg<|Zo Wh (AA Ak0 Af7 Y (by(simp;done)) (by exact BD V)) ?_;refine Xr [_] Y call126 Y V (Z6 q c p1 p2 o n) ?_;refine Zm Y<|Aj (t:=5) Y V (fun h1=>?_) (fun h1=>?_)
 ·
  refine A7 Y V<|A7 Y V<|A7 Y V<|A7 Y V<|A7 Y V<|A7 Y V<|A7 Y V<|Zv (AZ Y Y)<|Za Y<|Z0<|Zn [2] ?_;refine Zx<|AC<|AL V results137 Y (by exact ⟨by simp [h1],V⟩)
 refine Yf 7 AU7 V rfl AW4 Y<|Yg (Ar (off:=0) AV4 V rfl AU1 Y)<|Yl AU2 Y ?_;refine Yf 0 AU7 V rfl AV8 Y<|Yg (Ar (off:=6) AU9 V rfl AU1 Y)<|Yl AU2 Y ?_;refine Yg (CL Y Y)<|Zv (AU Y Y)<|Za Y<|Z0<|Zn [2] ?_;refine Zx<|AC<|AL V results137 Y (by exact ⟨by simp [h1],V⟩)
end Go.Proofs.YteaiajghbkenoaaGreatDoor
