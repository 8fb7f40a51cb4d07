/- query.Valid. -/
import Derived.Test.YtfhjaegddfehhaaGreatDoorQe1
set_option linter.unusedVariables false
set_option linter.unusedSimpArgs false
namespace Go.Proofs.YtfhjaegddfehhaaGreatDoor
open Go.Proofs.Tryz
open Go Go.RowKit Gw
set_option maxRecDepth 100000
attribute [local irreducible] Gw.At Gw.Nx Gw.Ops
def FD(q:QM):Prop:=(0<=q.tb/\q.tb<=3)/\(0<=q.cl/\q.cl<=3)/\(-1000000000<=q.lo/\q.lo<=q.hi/\q.hi<=1000000000)
instance(q:QM):Decidable (FD q):=by unfold FD;infer_instance
def PZ(q:QM):Prop:=1<=q.bq/\q.bq<=3
instance(q:QM):Decidable (PZ q):=by unfold PZ;infer_instance
variable{q:QM}
theorem sy(h:q.kd=1):BJ q↔FD q/\q.cl=0/\q.lo=q.hi/\(1<=q.lo/\q.lo<=1000000)/\q.bq=0/\q.ot=0:=by unfold BJ FD;omega
theorem sn(h:q.kd=2\/q.kd=3):BJ q↔FD q/\q.bq=0/\q.ot=0:=by unfold BJ FD;omega
theorem sY(h:q.kd=4\/q.kd=5\/q.kd=6):BJ q↔FD q/\PZ q/\q.ot=0:=by unfold BJ FD PZ;omega
theorem sX(h:q.kd=7):BJ q↔FD q/\(0<=q.ot/\q.ot<=3)/\PZ q:=by unfold BJ FD PZ;omega
theorem WE(h:q.kd=1):decide (BJ q)=decide (FD q/\q.cl=0/\q.lo=q.hi/\(1<=q.lo/\q.lo<=1000000)/\q.bq=0/\q.ot=0):=decide_eq_decide.2 (sy h)
theorem tx(h:q.kd=2\/q.kd=3):decide (BJ q)=decide (FD q/\q.bq=0/\q.ot=0):=decide_eq_decide.2 (sn h)
theorem tw(h:q.kd=4\/q.kd=5\/q.kd=6):decide (BJ q)=decide (FD q/\PZ q/\q.ot=0):=decide_eq_decide.2 (sY h)
theorem yj(h:q.kd=7):decide (BJ q)=decide (FD q/\(0<=q.ot/\q.ot<=3)/\PZ q):=decide_eq_decide.2 (sX h)
theorem Ut(h:¬q.kd=1)(I:¬q.kd=7)(m:¬q.kd=4)(B:¬q.kd=5)(G:¬q.kd=6)(h2:¬q.kd=2)(g:¬q.kd=3):¬BJ q:=by unfold BJ;omega
variable{b0:Bool}
theorem zx(h:q.kd=4\/q.kd=5\/q.kd=6)(g:b0=decide (FD q)):((b0&&decide (PZ q))&&decide (q.ot=0))=decide (BJ q):=by
 rw [tw h,g];simp [Bool.and_assoc]
theorem mM(h:q.kd=2\/q.kd=3)(g:b0=decide (FD q)):((b0&&decide (q.bq=0))&&decide (q.ot=0))=decide (BJ q):=by
 rw [tx h,g];simp [Bool.and_assoc]
theorem ts(h:q.kd=7)(g:b0=decide (FD q))(e0:b0=true):((decide (0<=q.ot/\q.ot<=3)&&decide (PZ q))&&decide ((0:Int)=0))=decide (BJ q):=by
 have m:FD q:=Hb (g.symm.trans e0);rw [yj h];simp [m]
theorem tt{x y:Bool}(h:q.kd=7)(g:b0=decide (FD q))(e0:b0=false):((false&&x)&&y)=decide (BJ q):=by
 have m:¬FD q:=aw (g.symm.trans e0);rw [yj h];simp [m]
variable{b:Bool}
theorem vu{z:Int}(g:((b&&decide (PZ q))&&decide (z=0))=decide (BJ q))(e:b=true):((decide (1<=q.bq/\q.bq<=3)&&decide ((0:Int)=0))&&decide (z=0))=decide (BJ q):=by
 rw [<-g,e,show decide (PZ q)=decide (1<=q.bq/\q.bq<=3) from decide_eq_decide.2 Iff.rfl];simp only [Tr,decide_true,iz]
theorem vy{x y:Bool}{z:Int}(g:((b&&decide (PZ q))&&decide (z=0))=decide (BJ q))(e:b=false):((false&&x)&&y)=decide (BJ q):=by
 rw [<-g,e];simp
theorem K8(n lo hi:Int):BH prog 60 #[I4 n,I4 lo,I4 hi] [] (.bool (decide (lo<=n/\n<=hi))):=by
 refine Se func60 ntmps60 [0,1,2] ?_;intro u R;refine A0<|A3 Y<|A0<|Zm Y<|Zm Y<|Zv (Ha Y Y)<|Zm Y<|Aj (t:=10) Y V (fun g=>?_) (fun g=>?_);·
  refine Zf Y Y<|Zf Y Y<|Yg (NM Y Y)<|Zv (AQ Y Y)<|A3 Y<|AJ<|AO V results60 Y (by exact ⟨by simp [g],V⟩)
 refine A7 Y V<|A7 Y V<|A7 Y V<|Zv (AL Y Y)<|A3 Y<|AJ<|AO V results60 Y (by exact ⟨by simp [g],V⟩)
theorem Jd(q:QM):BH prog 22 #[.agg q.A59] [] (.bool (decide (BJ q))):=by
 refine Se func22 ntmps22 [0] ?_;intro u R;refine A0<|Ze (Bx #[_,_,_,_,_,_,_])<|AE fun O=>A3 Y<|Zb [1] ?_;refine DJ (e0:=[]) (H0:=[]) (fun e H=>∃(b0:Bool),(b0=decide (FD q))/\e=[(3,.bool b0)]/\H=[]) Wp ?hx_1 ?hy_1
 case hx_1=>
  refine Zg<|Zh 1 CC V rfl A4 Y<|Zl AD Y ?_;refine Xr [_,_,_] Y call60 Y V (K8 _ _ _) ?_;refine Zm Y<|Aj (t:=7) Y V (fun X=>?_) (fun X=>?_);·
   refine Yf 2 CC V rfl A4 Y<|Yl AD Y ?_;refine Xr [_,_,_] Y call60 Y V (K8 _ _ _) ?_;refine Zv (AQ Y Y)<|Zm Y<|Aj (t:=12) Y V (fun Z=>?_) (fun Z=>?_);·
    refine Yf 3 CC V rfl A4 Y<|Yl AD Y ?_;refine Yf 4 CC V rfl A4 Y<|Yl AD Y ?_;refine Xr [_,_,_] Y call60 Y V (K8 _ _ _) ?_;refine Zv (AQ Y Y)<|Zm Y<|Aj (t:=19) Y V (fun a3=>?_) (fun a3=>?_);·
     refine Yf 4 CC V rfl A4 Y<|Yl AD Y ?_;refine Yg (NM Y Y)<|Zv (AQ Y Y)<|AG Y<|Zn [3,1] ?_;refine BO (e':=[(3,_)]) (by exact ⟨_,by unfold FD;exact decide_eq_decide.2 A1,V,V⟩)
    refine A7 Y V<|A7 Y V<|A7 Y V<|Zv (AL Y Y)<|AG Y<|Zn [3,1] ?_;refine BO (e':=[(3,_)]) (by exact ⟨_,by unfold FD;exact (CN A1).symm,V,V⟩)
   refine A7 Y V<|A7 Y V<|A7 Y V<|A7 Y V<|A7 Y V<|Zv (AL Y Y)<|Zm Y<|A7 Y V<|A7 Y V<|A7 Y V<|Zv (AL Y Y)<|AG Y<|Zn [3,1] ?_;refine BO (e':=[(3,_)]) (by exact ⟨_,by unfold FD;exact (CN A1).symm,V,V⟩)
  refine A7 Y V<|A7 Y V<|A7 Y V<|Zv (AL Y Y)<|Zm Y<|A7 Y V<|A7 Y V<|A7 Y V<|A7 Y V<|A7 Y V<|Zv (AL Y Y)<|Zm Y<|A7 Y V<|A7 Y V<|A7 Y V<|Zv (AL Y Y)<|AG Y<|Zn [3,1] ?_;refine BO (e':=[(3,_)]) (by exact ⟨_,by unfold FD;exact (CN A1).symm,V,V⟩)
 rintro _ _ ⟨b0,g,rfl,rfl⟩;refine Zq<|A0<|Zh 0 CC V rfl A4 Y<|Zl AD Y ?_;refine A5<|AR<|Zb [3,25,1] ?_;refine DJ (e0:=[(3,_),(25,_)]) (H0:=[[(O,_)]]) (fun e H=>∃(b:Bool) (y z:Int),(((b&&decide (y=0))&&decide (z=0))=decide (BJ q))/\e=[(3,.bool b)]/\H=[[(O,.cells #[I4 q.kd,I4 q.tb,I4 q.cl,I4 q.lo,I4 q.hi,I4 y,I4 z] 28 (0,0))]]) Wp ?hx_6 ?hy_6
 case hx_6=>
  refine AR<|Zb [3,25,1] ?_;refine DJ (e0:=[(3,_),(25,_)]) (H0:=[[(O,_)]]) (fun e H=>∃(b:Bool) (z:Int),(((b&&decide (PZ q))&&decide (z=0))=decide (BJ q))/\e=[(3,.bool b)]/\H=[[(O,.cells #[I4 q.kd,I4 q.tb,I4 q.cl,I4 q.lo,I4 q.hi,I4 q.bq,I4 z] 28 (0,0))]]) Wp ?hx_7 ?hy_7
  case hx_7=>
   refine AR<|Zq<|AR<|Zq<|AR<|Zq<|Zq<|A0<|Zv (CP Y Y)<|A3 Y<|Aq Y (fun B=>?_) (fun B=>?_);·
    refine Ay<|Zt<|Zt<|AU<|Zx<|Zq<|A0<|Zm Y<|Zm Y<|Af (t:=38) Y V (fun U=>?_) (fun U=>?_);·
     have J:FD q:=Hb (g.symm.trans U);refine Yf 2 CC V rfl A4 Y<|Yl AD Y ?_;refine Yg (CP Y Y)<|Zv (AQ Y Y)<|Zm Y<|Aj (t:=43) Y V (fun c1=>?_) (fun c1=>?_);·
      refine Yf 3 CC V rfl A4 Y<|Yl AD Y ?_;refine Yf 4 CC V rfl A4 Y<|Yl AD Y ?_;refine Yg (CP Y Y)<|Zv (AQ Y Y)<|Zm Y<|Aj (t:=50) Y V (fun c2=>?_) (fun c2=>?_);·
       refine Yf 3 CC V rfl A4 Y<|Yl AD Y ?_;refine Xr [_,_,_] Y call60 Y V (K8 _ _ _) ?_;refine Zv (AQ Y Y)<|Zm Y<|Aj (t:=55) Y V (fun c3=>?_) (fun c3=>?_);·
        refine Yf 5 CC V rfl A4 Y<|Yl AD Y ?_;refine Yg (CP Y Y)<|Zv (AQ Y Y)<|Zm Y<|Aj (t:=60) Y V (fun c4=>?_) (fun c4=>?_);·
         refine Yf 6 CC V rfl A4 Y<|Yl AD Y ?_;refine Yg (CP Y Y)<|Zv (AQ Y Y)<|AG Y<|Zn [2] ?_;refine Zx<|AJ<|Zt<|Ad<|Zt<|Ad<|Zt<|Ad<|Zt<|Ad<|Zt<|AO rfl OK Y (by exact ⟨by rw [WE B];exact congrArg Value.bool (decide_eq_decide.2 ⟨fun h=>⟨J,by omega⟩,fun h=>by omega⟩),rfl⟩)
        refine A7 Y V<|A7 Y V<|A7 Y V<|Zv (AL Y Y)<|AG Y<|Zn [2] ?_;refine Zx<|AJ<|Zt<|Ad<|Zt<|Ad<|Zt<|Ad<|Zt<|Ad<|Zt<|AO rfl OK Y (by exact ⟨by rw [WE B];exact congrArg Value.bool (CN (fun h=>by first|exact J h.1|omega)).symm,rfl⟩)
       refine A7 Y V<|A7 Y V<|A7 Y V<|Zv (AL Y Y)<|Zm Y<|A7 Y V<|A7 Y V<|A7 Y V<|Zv (AL Y Y)<|AG Y<|Zn [2] ?_;refine Zx<|AJ<|Zt<|Ad<|Zt<|Ad<|Zt<|Ad<|Zt<|Ad<|Zt<|AO rfl OK Y (by exact ⟨by rw [WE B];exact congrArg Value.bool (CN (fun h=>by first|exact J h.1|omega)).symm,rfl⟩)
      refine A7 Y V<|A7 Y V<|A7 Y V<|Zv (AL Y Y)<|Zm Y<|A7 Y V<|A7 Y V<|A7 Y V<|Zv (AL Y Y)<|Zm Y<|A7 Y V<|A7 Y V<|A7 Y V<|Zv (AL Y Y)<|AG Y<|Zn [2] ?_;refine Zx<|AJ<|Zt<|Ad<|Zt<|Ad<|Zt<|Ad<|Zt<|Ad<|Zt<|AO rfl OK Y (by exact ⟨by rw [WE B];exact congrArg Value.bool (CN (fun h=>by first|exact J h.1|omega)).symm,rfl⟩)
     refine A7 Y V<|A7 Y V<|A7 Y V<|A7 Y V<|A7 Y V<|Zv (AL Y Y)<|Zm Y<|A7 Y V<|A7 Y V<|A7 Y V<|Zv (AL Y Y)<|Zm Y<|A7 Y V<|A7 Y V<|A7 Y V<|Zv (AL Y Y)<|Zm Y<|A7 Y V<|A7 Y V<|A7 Y V<|Zv (AL Y Y)<|AG Y<|Zn [2] ?_;refine Zx<|AJ<|Zt<|Ad<|Zt<|Ad<|Zt<|Ad<|Zt<|Ad<|Zt<|AO rfl OK Y (by exact ⟨by rw [WE B];exact congrArg Value.bool (CN (fun h=>by first|exact J h.1|omega)).symm,rfl⟩)
    have J:¬FD q:=aw (g.symm.trans U);refine A7 Y V<|A7 Y V<|A7 Y V<|Zv (AL Y Y)<|Zm Y<|A7 Y V<|A7 Y V<|A7 Y V<|A7 Y V<|A7 Y V<|Zv (AL Y Y)<|Zm Y<|A7 Y V<|A7 Y V<|A7 Y V<|Zv (AL Y Y)<|Zm Y<|A7 Y V<|A7 Y V<|A7 Y V<|Zv (AL Y Y)<|Zm Y<|A7 Y V<|A7 Y V<|A7 Y V<|Zv (AL Y Y)<|AG Y<|Zn [2] ?_;refine Zx<|AJ<|Zt<|Ad<|Zt<|Ad<|Zt<|Ad<|Zt<|Ad<|Zt<|AO rfl OK Y (by exact ⟨by rw [WE B];exact congrArg Value.bool (CN (fun h=>by first|exact J h.1|omega)).symm,rfl⟩)
   refine AC<|Zx<|Zq<|A0<|Zv (CP Y Y)<|A3 Y<|Aq Y (fun I=>?_) (fun I=>?_);·
    refine Ay<|Zt<|Zt<|Aw V<|Zt<|AU<|Zx<|A0<|Zm Y<|Zm Y<|Af (t:=66) Y V (fun e0=>?_) (fun e0=>?_);·
     refine Yf 6 CC V rfl A4 Y<|Yl AD Y ?_;refine Xr [_,_,_] Y call60 Y V (K8 _ _ _) ?_;refine Zv (AQ Y Y)<|A3 Y<|Zg<|Zh 6 CC V rfl A4 Y<|Xe (Zs A4 Y Y V) ?_;refine Z0<|Zn [1,3] ?_;refine A8<|Zn [3,1] ?_;refine BO (e':=[(3,_)]) (by exact ⟨_,_,ts I g e0,V,V⟩)
    refine A7 Y V<|A7 Y V<|A7 Y V<|Zv (AL Y Y)<|A3 Y<|Zg<|Zh 6 CC V rfl A4 Y<|Xe (Zs A4 Y Y V) ?_;refine Z0<|Zn [1,3] ?_;refine A8<|Zn [3,1] ?_;refine BO (e':=[(3,_)]) (by exact ⟨_,0,tt I g e0,V,V⟩)
   refine AC<|Zx<|Zq<|Zq<|A0<|Zv (CP Y Y)<|A3 Y<|Aq Y (fun G=>?_) (fun G=>?_);·
    refine AC<|Zx<|Aq Y (fun G=>?_) (fun G=>?_);·
     refine Ay<|Zt<|Zt<|Aw V<|Zt<|Aw V<|Zt<|AU<|Zn [3,1] ?_;refine BO (e':=[(3,_)]) (by exact ⟨_,_,zx A1 g,V,V⟩)
    refine AC<|Zx<|Zq<|A0<|Zv (CP Y Y)<|A3 Y<|Aq Y (fun m=>?_) (fun m=>?_);·
     refine AC<|Zx<|Aq Y (fun m=>?_) (fun m=>?_);·
      refine Ay<|Zt<|Aw V<|Zt<|Aw V<|Zt<|Aw V<|Zt<|AU<|Zn [3,1] ?_;refine BO (e':=[(3,_)]) (by exact ⟨_,_,_,mM A1 g,V,V⟩)
     refine AC<|Zx<|Ay<|Aw V<|Zt<|Aw V<|Zt<|Aw V<|Zt<|Aw V<|Zt<|AU<|Zx<|A0<|A3 Y<|AJ<|AO V OK Y (by exact ⟨congrArg Value.bool (CN (Ut B I A1 A1 A1 A1 A1)).symm,V⟩)
    refine Zg<|Zv (CP Y Y)<|A3 Y<|Aq Y (fun m=>?_) (fun m=>?_);·
     refine Ay<|Zt<|Aw V<|Zt<|Aw V<|Zt<|Aw V<|Zt<|AU<|Zn [3,1] ?_;refine BO (e':=[(3,_)]) (by exact ⟨_,_,_,mM A1 g,V,V⟩)
    refine AC<|Zx<|Ay<|Aw V<|Zt<|Aw V<|Zt<|Aw V<|Zt<|Aw V<|Zt<|AU<|Zx<|A0<|A3 Y<|AJ<|AO V OK Y (by exact ⟨congrArg Value.bool (CN (Ut B I A1 A1 A1 A1 A1)).symm,V⟩)
   refine A0<|Zv (CP Y Y)<|A3 Y<|Aq Y (fun G=>?_) (fun G=>?_);·
    refine AC<|Zx<|Aq Y (fun G=>?_) (fun G=>?_);·
     refine Ay<|Zt<|Zt<|Aw V<|Zt<|Aw V<|Zt<|AU<|Zn [3,1] ?_;refine BO (e':=[(3,_)]) (by exact ⟨_,_,zx A1 g,V,V⟩)
    refine AC<|Zx<|Zq<|A0<|Zv (CP Y Y)<|A3 Y<|Aq Y (fun m=>?_) (fun m=>?_);·
     refine AC<|Zx<|Aq Y (fun m=>?_) (fun m=>?_);·
      refine Ay<|Zt<|Aw V<|Zt<|Aw V<|Zt<|Aw V<|Zt<|AU<|Zn [3,1] ?_;refine BO (e':=[(3,_)]) (by exact ⟨_,_,_,mM A1 g,V,V⟩)
     refine AC<|Zx<|Ay<|Aw V<|Zt<|Aw V<|Zt<|Aw V<|Zt<|Aw V<|Zt<|AU<|Zx<|A0<|A3 Y<|AJ<|AO V OK Y (by exact ⟨congrArg Value.bool (CN (Ut B I A1 A1 A1 A1 A1)).symm,V⟩)
    refine Zg<|Zv (CP Y Y)<|A3 Y<|Aq Y (fun m=>?_) (fun m=>?_);·
     refine Ay<|Zt<|Aw V<|Zt<|Aw V<|Zt<|Aw V<|Zt<|AU<|Zn [3,1] ?_;refine BO (e':=[(3,_)]) (by exact ⟨_,_,_,mM A1 g,V,V⟩)
    refine AC<|Zx<|Ay<|Aw V<|Zt<|Aw V<|Zt<|Aw V<|Zt<|Aw V<|Zt<|AU<|Zx<|A0<|AG Y<|Zn [2] ?_;refine Zx<|AJ<|AO V OK Y (by exact ⟨congrArg Value.bool (CN (Ut B I A1 A1 A1 A1 A1)).symm,V⟩)
   refine Zg<|Zv (CP Y Y)<|A3 Y<|Aq Y (fun G=>?_) (fun G=>?_);·
    refine Ay<|Zt<|Zt<|Aw V<|Zt<|Aw V<|Zt<|AU<|Zn [3,1] ?_;refine BO (e':=[(3,_)]) (by exact ⟨_,_,zx A1 g,V,V⟩)
   refine AC<|Zx<|Zq<|A0<|Zv (CP Y Y)<|A3 Y<|Aq Y (fun m=>?_) (fun m=>?_);·
    refine AC<|Zx<|Aq Y (fun m=>?_) (fun m=>?_);·
     refine Ay<|Zt<|Aw V<|Zt<|Aw V<|Zt<|Aw V<|Zt<|AU<|Zn [3,1] ?_;refine BO (e':=[(3,_)]) (by exact ⟨_,_,_,mM A1 g,V,V⟩)
    refine AC<|Zx<|Ay<|Aw V<|Zt<|Aw V<|Zt<|Aw V<|Zt<|Aw V<|Zt<|AU<|Zx<|A0<|AG Y<|Zn [2] ?_;refine Zx<|AJ<|AO V OK Y (by exact ⟨congrArg Value.bool (CN (Ut B I A1 A1 A1 A1 A1)).symm,V⟩)
   refine Zg<|Zv (CP Y Y)<|AG Y<|Zn [1,3,34] ?_;refine Zx<|Aq Y (fun m=>?_) (fun m=>?_);·
    refine Ay<|Zt<|Aw V<|Zt<|Aw V<|Zt<|Aw V<|Zt<|AU<|Zn [3,1] ?_;refine BO (e':=[(3,_)]) (by exact ⟨_,_,_,mM A1 g,V,V⟩)
   refine AC<|Zx<|Ay<|Aw V<|Zt<|Aw V<|Zt<|Aw V<|Zt<|Aw V<|Zt<|AU<|Zx<|A0<|A3 Y<|AJ<|AO V OK Y (by exact ⟨congrArg Value.bool (CN (Ut B I A1 A1 A1 A1 A1)).symm,V⟩)
  rintro _ _ ⟨b,z,K,rfl,rfl⟩;refine A0<|Zm Y<|Zm Y<|Af (t:=73) Y V (fun W=>?_) (fun W=>?_);·
   refine Yf 5 CC V rfl A4 Y<|Yl AD Y ?_;refine Xr [_,_,_] Y call60 Y V (K8 _ _ _) ?_;refine Zv (AQ Y Y)<|A3 Y<|Zg<|Zh 5 CC V rfl A4 Y<|Xe (Zs A4 Y Y V) ?_;refine Z0<|A8<|Zn [3,1] ?_;refine BO (e':=[(3,_)]) (by exact ⟨_,_,_,vu K W,V,V⟩)
  refine A7 Y V<|A7 Y V<|A7 Y V<|Zv (AL Y Y)<|A3 Y<|Zg<|Zh 5 CC V rfl A4 Y<|Xe (Zs A4 Y Y V) ?_;refine Z0<|A8<|Zn [3,1] ?_;refine BO (e':=[(3,_)]) (by exact ⟨_,0,z,vy K W,V,V⟩)
 rintro _ _ ⟨b,y,z,K,rfl,rfl⟩;refine Zq<|A0<|Zm Y<|Zm Y<|Af (t:=80) Y V (fun g0=>?_) (fun g0=>?_);·
  refine Yf 5 CC V rfl A4 Y<|Yl AD Y ?_;refine Yg (CP Y Y)<|Zv (AQ Y Y)<|Zm Y<|Aj (t:=85) Y V (fun g1=>?_) (fun g1=>?_);·
   refine Yf 6 CC V rfl A4 Y<|Yl AD Y ?_;refine Yg (CP Y Y)<|Zv (AQ Y Y)<|A3 Y<|AJ<|Zt<|Ad<|Zt<|AO rfl OK Y (by exact ⟨by rw [<-K];simp [*],rfl⟩)
  refine A7 Y rfl<|A7 Y rfl<|A7 Y rfl<|Zv (AL Y Y)<|A3 Y<|AJ<|Zt<|Ad<|Zt<|AO rfl OK Y (by exact ⟨by rw [<-K];simp [*],rfl⟩)
 refine A7 Y rfl<|A7 Y rfl<|A7 Y rfl<|Zv (AL Y Y)<|Zm Y<|A7 Y rfl<|A7 Y rfl<|A7 Y rfl<|Zv (AL Y Y)<|A3 Y<|AJ<|Zt<|Ad<|Zt<|AO rfl OK Y (by exact ⟨by rw [<-K];simp [*],rfl⟩)
def Il(p:Option Addr)(o:Option AV)(s:List AA):Prop:=match o with
 |none=>p=none/\s=[]
 |some r=>∃b,p=some ⟨b,0,none⟩/\s=[(b,.cells r.A58 71 (0,0))]
theorem Il.some_{p:Option Addr}{o:Option AV}{s:List AA}(h:Il p o s):p.isSome=o.isSome:=by
 cases o with
 |none=>rw [h.1];rfl
 |some r=>obtain ⟨b,rfl,_⟩:=h;rfl
theorem ZZ(q:QM)(c:Chg)(g:Bool)(v:V3):Hy q g (EM c g v)=Hy q g ⟨c.t,c.k,v⟩:=by
 cases g with
 |false=>rfl
 |true=>rfl
theorem XE{r:AV}(h:b=false\/¬(r.t=q.tb/\q.lo<=Bn r q.cl/\Bn r q.cl<=q.hi)):Hy q b r=none:=by
 unfold Hy inQ;rcases h with h|h
 · rw [h];rfl
 · rw [CN h,Bool.and_false];rfl
theorem wh{r:AV}(h:b=true)(h2:r.t=q.tb/\q.lo<=Bn r q.cl/\Bn r q.cl<=q.hi):Hy q b r=some r:=by
 unfold Hy inQ;rw [h,Cp h2];rfl
theorem I7:Fv prog 3 (fun k:Int=>I4 k) (fun _=>True):=Cc C5
theorem OY(q:QM)(G:0<=q.cl/\q.cl<=3)(B:0<=q.bq/\q.bq<=3)(bq:Nat)(r:AV)(b:Bool):Ba prog 209 #[.agg r.A58,.bool b,I5 bq] [[(bq,.cells q.A59 28 (0,0))]] (fun v H'=>∃p s,v= .tuple #[.pointer p,I4 (mQ q (Hy q b r))]/\Il p (Hy q b r) s/\H'=[s,[(bq,.cells q.A59 28 (0,0))]]):=by
 refine Se func209 ntmps209 [0,1,2] ?_;intro u R;refine A0<|Ze (Bx #[_,_,_,_,_])<|AE fun I=>Za Y<|A3 Y<|A0<|Zo Wh (A9 (cs:=#[_,_,_,_,_]) CI AW Y As AN)<|Zh 2 CC V rfl A4 Y<|Zl AD Y<|Xr [_,_] Y SD Y V (Fy r q.cl G)<|A3 Y<|Zq<|A0<|Zm Y<|Zv (Br Y)<|Zm Y<|Af (t:=14) Y V (fun m=>?_) (fun m=>?_);·
  refine A7 Y V<|A7 Y V<|A7 Y V<|A7 Y V<|A7 Y V<|Zv (AQ Y Y)<|Zm Y<|A7 Y V<|A7 Y V<|A7 Y V<|A7 Y V<|Zv (AQ Y Y)<|Zm Y<|A7 Y V<|A7 Y V<|A7 Y V<|A7 Y V<|Zv (AQ Y Y)<|Z0<|Zn [2,3,32] ?_;refine Zx<|CW Y<|Zq<|BU<|Zg<|Za Y<|A3 Y<|AJ<|Zt<|Cv V fx Y Y (by
   have g:Hy q b r=none:=XE (by exact .inl (by simpa using m));exact ⟨none,[],by rw [g];rfl,by rw [g];exact ⟨rfl,rfl⟩,rfl⟩)
 refine Yf 0 FF V rfl A4 Y<|Yl AD Y<|Yf 1 CC V rfl A4 Y<|Yl AD Y<|Yg (GG Y Y)<|Zv (AL Y Y)<|Zm Y<|Aj (t:=21) Y V (fun h2=>?_) (fun h2=>?_);·
  refine A7 Y V<|A7 Y V<|A7 Y V<|A7 Y V<|Zv (AQ Y Y)<|Zm Y<|A7 Y V<|A7 Y V<|A7 Y V<|A7 Y V<|Zv (AQ Y Y)<|Z0<|Zn [2,3,32] ?_;refine Zx<|CW Y<|Zq<|BU<|Zg<|Za Y<|A3 Y<|AJ<|Zt<|Cv V fx Y Y (by
   have g:Hy q b r=none:=XE (by exact .inr A1);exact ⟨none,[],by rw [g];rfl,by rw [g];exact ⟨rfl,rfl⟩,rfl⟩)
 refine Zf Y Y<|Yf 3 CC V rfl A4 Y<|Yl AD Y<|Yg (Dv Y Y)<|Zv (AL Y Y)<|Zm Y<|Aj (t:=27) Y V (fun J=>?_) (fun J=>?_);·
  refine A7 Y V<|A7 Y V<|A7 Y V<|A7 Y V<|Zv (AQ Y Y)<|Z0<|Zn [2,3,32] ?_;refine Zx<|CW Y<|Zq<|BU<|Zg<|Za Y<|A3 Y<|AJ<|Zt<|Cv V fx Y Y (by
   have g:Hy q b r=none:=XE (by exact .inr A1);exact ⟨none,[],by rw [g];rfl,by rw [g];exact ⟨rfl,rfl⟩,rfl⟩)
 refine Zf Y Y<|Yf 4 CC V rfl A4 Y<|Yl AD Y<|Yg (Ev Y Y)<|Zv (AL Y Y)<|Z0<|Zn [2,3,32] ?_;refine Zx<|Aq Y (fun K=>?_) (fun K=>?_);·
  refine Zq<|BU<|Zg<|Za Y<|A3 Y<|AJ<|Zt<|Cv V fx Y Y (by
   have g:Hy q b r=none:=XE (by exact .inr A1);exact ⟨none,[],by rw [g];rfl,by rw [g];exact ⟨rfl,rfl⟩,rfl⟩)
 refine AC<|Zx<|A0<|Zo Wh (A9 (cs:=#[_,_,_,_,_]) CI AW Y As AN)<|Zh 5 CC V rfl A4 Y<|Zl AD Y<|Xr [_,_] Y SD Y V (Fy r q.bq B)<|Za Y<|A3 Y<|AJ<|Cv V fx Y Y (by
  have g:Hy q b r=some r:=wh (by simpa using m) A1;exact ⟨_,_,by rw [g];rfl,by rw [g];exact ⟨I,rfl,rfl⟩,rfl⟩)
theorem VA(c:Chg):BH prog 210 #[.agg c.A57] [] (.tuple #[.agg #[I4 (EM c c.had c.o).t,I4 (EM c c.had c.o).k,I4 (EM c c.had c.o).v.a,I4 (EM c c.had c.o).v.b,I4 (EM c c.had c.o).v.c],.bool c.had]):=by
 refine Se func210 ntmps210 [0] ?_;intro u R;refine A0<|Ze (Bx #[_,_,_,_,_,_,_,_,_,_])<|AE fun g=>Ze (Al DS #[_,_,_,_,_])<|AE fun m=>A3 Y<|A0<|Zo Wh (A9 (cs:=#[_,_,_,_,_,_,_,_,_,_]) Fk C1 Y As AN)<|Zh 2 B8 V rfl CH Y<|Zl DM Y<|Zh 3 B8 V rfl D3 Y<|Zo Wh (A9 (cs:=#[_,_,_]) GS D3 Y As AN)<|Xr [_,_,_] Y call183 Y V (Wt c c.had c.o)<|Zd Y V<|Zd Y V<|Xe (Xw AW _)<|AG Y<|Zn [2,3] ?_;refine Zx<|AJ<|Bj V results210 Y Wh (Am CI AW Wn (V)) Y (by exact ⟨V,V⟩)
set_option maxHeartbeats 1000000 in
theorem Jk(q:QM)(G:0<=q.cl/\q.cl<=3)(B:0<=q.bq/\q.bq<=3)(c:Chg):Ba prog 144 #[.agg q.A59,.agg c.A57] [] (fun v H'=>∃I J s1 s2,v= .agg (q.G4 c I J (mQ q (bfQ q c)) (mQ q (afQ q c)))/\Il I (bfQ q c) s1/\Il J (afQ q c) s2/\H'=[s1,s2]):=by
 refine Se func144 ntmps144 [0,1] ?_;intro u R;refine A0<|Ze (Bx #[_,_,_,_,_,_,_])<|AE fun bq=>Ze (Bx #[_,_,_,_,_,_,_,_,_,_])<|AE fun U=>Ze (Ea zeroValue257 (cs:=#[I4 0,I4 0,I4 0,I4 0,I4 0,I4 0,I4 0,I4 0,I4 0,.bool false,I4 0,I4 0,I4 0,.bool false,I4 0,I4 0,I4 0,.pointer none,.pointer none,I4 0,I4 0]) A6)<|AE fun X=>A5<|A0<|Zo Wh (A9 (cs:=#[_,_,_,_,_,_,_]) Dd C7 Y As AN) ?_;refine Zo Wh (A9 (cs:=#[_,_,_,_,_,_,_,_,_,_]) Fk C1 Y As AN) ?_;refine Zv (BM (vs:=[(0,.agg q.A59),(1,.agg c.A57)]) (cs:=(q.G4 c none none 0 0)) Y (AZ (pl:=#[(0,7),(7,10),(17,1),(18,1),(19,1),(20,1)]) zeroValue257 DA (fun _=>by kernel_rfl) A6))<|Ze (Ea zeroValue257 (cs:=#[I4 0,I4 0,I4 0,I4 0,I4 0,I4 0,I4 0,I4 0,I4 0,.bool false,I4 0,I4 0,I4 0,.bool false,I4 0,I4 0,I4 0,.pointer none,.pointer none,I4 0,I4 0]) A6)<|AE fun W=>Xe (BL Wf Y Y bj Wu (by exact Dw rfl) E6 AH (by exact BB _)) ?_;refine A5<|A0<|Zv (Bg (vs:=[]) (us:=[_]) Y Y)<|A3 Y<|A0<|Zm Y<|Zo Wh (A9 (cs:=#[_,_,_,_,_,_,_,_,_,_]) Fk C1 Y As AN) ?_;refine Xr [_] Y call210 Y V (VA c) ?_;refine Zd Y V<|Zd Y V<|Zc [_,_] Y call209 Y V (OY q G B bq (EM c c.had c.o) c.had) ?_;rintro _ _ ⟨_,⟨I,s1,rfl,g,rfl⟩,rfl⟩;have K:Hy q c.had (EM c c.had c.o)=bfQ q c:=ZZ q c c.had c.o
 rw [K]at g⊢;refine Zm Y<|Zd Y V<|Zd Y V<|Zh 17 DA V rfl JT Y<|Xe (Zs JT Y Y V (hi:=by(simp;done))) ?_;refine Zh 19 DA V rfl A4 Y<|Xe (Zs A4 Y Y V (hi:=by(simp;done))) ?_;refine Z0<|Zn [3,4,5,6] ?_;refine Zx<|A0<|Zm Y<|Zo Wh (A9 (cs:=#[_,_,_,_,_,_,_,_,_,_]) Fk C1 Y As AN) ?_;refine Xr [_] Y call126 Y V (Ob c) ?_;refine Zd Y V<|Zd Y V<|Zc [_,_] Y call209 Y V (OY q G B bq (EM c c.has c.n) c.has) ?_;rintro _ _ ⟨_,⟨J,s2,rfl,m,rfl⟩,rfl⟩;have O:Hy q c.has (EM c c.has c.n)=afQ q c:=ZZ q c c.has c.n
 rw [O]at m⊢;refine Zm Y<|Zd Y V<|Zd Y V<|Zh 18 DA V rfl JT Y<|Xe (Zs JT Y Y V (hi:=by(simp;done))) ?_;refine Zh 20 DA V rfl A4 Y<|Xe (Zs A4 Y Y V (hi:=by(simp;done))) ?_;refine Z0<|Zn [4,5] ?_;refine Zx<|A0<|Zo Wh (A9 cP Wf Y As (by exact BK V)) ?_;refine Xe (BL Wf Y Y bj Wu (by exact Dw rfl) E6 AH (by exact BB _)) ?_;refine A5<|AJ<|Cu V results144 Y Wh (Am cP Wf Wn (BK V)) (by exact ⟨I,J,s1,s2,V,g,m,V⟩)
theorem GA(q:QM)(c:Chg)(g m:Option Addr)(o n:Int):(Value.agg (q.G4 c g m o n)).cells=(q.G4 c g m o n):=by simp [Value.cells]
theorem bC(q:QM)(c:Chg)(g m:Option Addr)(o n:Int):BH prog 196 #[.agg (q.G4 c g m o n)] [] (.bool (g.isSome||m.isSome)):=by
 refine Se func196 ntmps196 [0] ?_;intro u R;refine A0<|Ze (Eu Y (cs:=(q.G4 c g m o n)) (GA q c g m o n))<|AE fun G=>A3 Y<|A0<|Zh 17 DA V rfl JT Y<|Zl Mp Y ?_;refine Zv (Er S4 Y Y)<|Zm Y<|Af (t:=6) Y V (fun B=>?_) (fun B=>?_);·
  refine A7 Y rfl<|A7 Y rfl<|A7 Y rfl<|Zv (AQ Y Y)<|A3 Y<|AJ<|AO rfl results196 Y (by exact ⟨by first|rfl|simp [B],rfl⟩)
 refine Yf 18 DA V rfl JT Y<|Yl Mp Y ?_;refine Yg (Er S4 Y Y)<|Zv (AL Y Y)<|A3 Y<|AJ<|AO rfl results196 Y (by exact ⟨by first|rfl|simp [B],rfl⟩)
theorem TI(q:QM)(c:Chg)(g m:Option Addr)(o n:Int):BH prog 198 #[.agg (q.G4 c g m o n)] [] (.bool (g.isSome !=m.isSome)):=by
 refine Se func198 ntmps198 [0] ?_;intro u R;refine A0<|Ze (Eu Y (cs:=(q.G4 c g m o n)) (GA q c g m o n))<|AE fun B=>A3 Y<|A0<|Zh 17 DA V rfl JT Y<|Zl Mp Y ?_;refine Zv (Nl S4 Y Y)<|Zh 18 DA V rfl JT Y<|Zl Mp Y ?_;refine Zv (Nl S4 Y Y)<|Zv (Ki Lk Y Y)<|A3 Y<|AJ<|AO V results198 Y (by exact ⟨by cases g<;>cases m<;>rfl,V⟩)
theorem xQ(q:QM)(c:Chg)(g m:Option Addr)(o n:Int):BH prog 200 #[.agg (q.G4 c g m o n)] [] (.bool (decide (o≠n))):=by
 refine Se func200 ntmps200 [0] ?_;intro u R;refine A0<|Ze (Eu Y (cs:=(q.G4 c g m o n)) (GA q c g m o n))<|AE fun B=>A3 Y<|A0<|Zh 19 DA rfl rfl A4 Y<|Zl AD Y<|Zh 20 DA rfl rfl A4 Y<|Zl AD Y<|Zv (GG Y Y)<|A3 Y<|AJ<|AO rfl results200 Y (by exact ⟨by first|rfl|simp,rfl⟩)
theorem xP(q:QM)(c:Chg)(g m:Option Addr)(o n:Int):BH prog 202 #[.agg (q.G4 c g m o n)] [] (.bool ((g.isSome !=m.isSome)||decide (o≠n))):=by
 refine Se func202 ntmps202 [0] ?_;intro u R;refine A0<|Ze (Eu Y (cs:=(q.G4 c g m o n)) (GA q c g m o n))<|AE fun G=>A3 Y<|A0<|Zo Wh (A9 cP Wf Y As (BK V)) ?_;refine Xr [_] Y call198 Y V (TI q c g m o n) ?_;refine Zm Y<|Af (t:=5) Y V (fun B=>?_) (fun B=>?_);·
  refine A7 Y V<|A7 Y V<|A7 Y V<|A7 Y V<|A7 Y V<|Zv (AQ Y Y)<|A3 Y<|AJ<|AO V results202 Y (by exact ⟨by simp [B],V⟩)
 refine Yf 19 DA V rfl A4 Y<|Yl AD Y ?_;refine Yf 20 DA V rfl A4 Y<|Yl AD Y ?_;refine Yg (GG Y Y)<|Zv (AL Y Y)<|A3 Y<|AJ<|AO V results202 Y (by exact ⟨by simp [B],V⟩)
theorem xO(q:QM)(c:Chg)(g m:Option Addr)(o n:Int):BH prog 205 #[.agg (q.G4 c g m o n)] [] (.bool ((g.isSome !=m.isSome)||decide (o≠n))):=by
 refine Se func205 ntmps205 [0] ?_;intro u R;refine A0<|Ze (Eu Y (cs:=(q.G4 c g m o n)) (GA q c g m o n))<|AE fun G=>A3 Y<|A0<|Zo Wh (A9 cP Wf Y As (BK V)) ?_;refine Xr [_] Y call198 Y V (TI q c g m o n) ?_;refine Zm Y<|Af (t:=5) Y V (fun B=>?_) (fun B=>?_);·
  refine A7 Y V<|A7 Y V<|A7 Y V<|A7 Y V<|A7 Y V<|Zv (AQ Y Y)<|A3 Y<|AJ<|AO V results205 Y (by exact ⟨by simp [B],V⟩)
 refine Yf 19 DA V rfl A4 Y<|Yl AD Y ?_;refine Yf 20 DA V rfl A4 Y<|Yl AD Y ?_;refine Yg (GG Y Y)<|Zv (AL Y Y)<|A3 Y<|AJ<|AO V results205 Y (by exact ⟨by simp [B],V⟩)
theorem xN(q:QM)(c:Chg)(g m:Option Addr)(o n:Int):BH prog 207 #[.agg (q.G4 c g m o n)] [] (.bool ((g.isSome||m.isSome)||decide (c.t=q.ot))):=by
 refine Se func207 ntmps207 [0] ?_;intro u R;refine A0<|Ze (Eu Y (cs:=(q.G4 c g m o n)) (GA q c g m o n))<|AE fun G=>A3 Y<|A0<|Zo Wh (A9 cP Wf Y As (BK V))<|Xr [_] Y call196 Y V (bC q c g m o n)<|Zm Y<|Af (t:=5) Y V (fun B=>?_) (fun B=>?_);·
  refine A7 Y V<|A7 Y V<|A7 Y V<|A7 Y V<|A7 Y V<|A7 Y V<|A7 Y V<|Zv (AQ Y Y)<|AG Y<|Zn [2] ?_;refine Zx<|AJ<|AO V results207 Y (by exact ⟨by simp [B],V⟩)
 refine Yf 7 DA V rfl C1 Y<|Yg (Ar (off:=0) B8 V rfl A4 Y)<|Yl AD Y<|Yf 0 DA V rfl C7 Y<|Yg (Ar (off:=6) CC V rfl A4 Y)<|Yl AD Y<|Yg (CP Y Y)<|Zv (AL Y Y)<|AG Y<|Zn [2] ?_;refine Zx<|AJ<|AO V results207 Y (by exact ⟨by simp [B],V⟩)
end Go.Proofs.YtfhjaegddfehhaaGreatDoor
