/- query.Valid. -/
/- predicate.effectOf, kinds, Touches. -/
import Derived.Test.YteaiajghbkenoaaGreatDoorEz
import Derived.Test.YteaiajghbkenoaaGreatDoorQe1
import Derived.Test.YteaiajghbkenoaaGreatDoorEx36
set_option linter.unusedVariables false
set_option linter.unusedSimpArgs false
namespace Go.Proofs.YteaiajghbkenoaaGreatDoor
open Go.Proofs.Tryz
open Go Go.RowKit Gw
set_option maxRecDepth 100000
attribute [local irreducible] Gw.At Gw.Nx Gw.Ops
def F8(q:QM):Prop:=(0<=q.tb/\q.tb<=3)/\(0<=q.cl/\q.cl<=3)/\(-1000000000<=q.lo/\q.lo<=q.hi/\q.hi<=1000000000)
instance(q:QM):Decidable (F8 q):=by unfold F8;infer_instance
def PV(q:QM):Prop:=1<=q.bq/\q.bq<=3
instance(q:QM):Decidable (PV q):=by unfold PV;infer_instance
variable{q:QM}
theorem ph(h:q.kd=1):BJ q↔F8 q/\q.cl=0/\q.lo=q.hi/\(1<=q.lo/\q.lo<=1000000)/\q.bq=0/\q.ot=0:=by unfold BJ F8;omega
theorem pZ(h:q.kd=2\/q.kd=3):BJ q↔F8 q/\q.bq=0/\q.ot=0:=by unfold BJ F8;omega
theorem pT(h:q.kd=4\/q.kd=5\/q.kd=6):BJ q↔F8 q/\PV q/\q.ot=0:=by unfold BJ F8 PV;omega
theorem pS(h:q.kd=7):BJ q↔F8 q/\(0<=q.ot/\q.ot<=3)/\PV q:=by unfold BJ F8 PV;omega
theorem WA(h:q.kd=1):decide (BJ q)=decide (F8 q/\q.cl=0/\q.lo=q.hi/\(1<=q.lo/\q.lo<=1000000)/\q.bq=0/\q.ot=0):=decide_eq_decide.2 (ph h)
theorem ra(h:q.kd=2\/q.kd=3):decide (BJ q)=decide (F8 q/\q.bq=0/\q.ot=0):=decide_eq_decide.2 (pZ h)
theorem rS(h:q.kd=4\/q.kd=5\/q.kd=6):decide (BJ q)=decide (F8 q/\PV q/\q.ot=0):=decide_eq_decide.2 (pT h)
theorem yM(h:q.kd=7):decide (BJ q)=decide (F8 q/\(0<=q.ot/\q.ot<=3)/\PV q):=decide_eq_decide.2 (pS h)
theorem Ur(h:¬q.kd=1)(I:¬q.kd=7)(m:¬q.kd=4)(B:¬q.kd=5)(G:¬q.kd=6)(h2:¬q.kd=2)(g:¬q.kd=3):¬BJ q:=by unfold BJ;omega
variable{b0:Bool}
theorem zK(h:q.kd=4\/q.kd=5\/q.kd=6)(g:b0=decide (F8 q)):((b0&&decide (PV q))&&decide (q.ot=0))=decide (BJ q):=by
 rw [rS h,g];simp [Bool.and_assoc]
theorem ll(h:q.kd=2\/q.kd=3)(g:b0=decide (F8 q)):((b0&&decide (q.bq=0))&&decide (q.ot=0))=decide (BJ q):=by
 rw [ra h,g];simp [Bool.and_assoc]
theorem rL(h:q.kd=7)(g:b0=decide (F8 q))(e0:b0=true):((decide (0<=q.ot/\q.ot<=3)&&decide (PV q))&&decide ((0:Int)=0))=decide (BJ q):=by
 have m:F8 q:=HX (g.symm.trans e0);rw [yM h];simp [m]
theorem rN{x y:Bool}(h:q.kd=7)(g:b0=decide (F8 q))(e0:b0=false):((false&&x)&&y)=decide (BJ q):=by
 have m:¬F8 q:=cL (g.symm.trans e0);rw [yM h];simp [m]
variable{b:Bool}
theorem tP{z:Int}(g:((b&&decide (PV q))&&decide (z=0))=decide (BJ q))(e:b=true):((decide (1<=q.bq/\q.bq<=3)&&decide ((0:Int)=0))&&decide (z=0))=decide (BJ q):=by
 rw [<-g,e,show decide (PV q)=decide (1<=q.bq/\q.bq<=3) from decide_eq_decide.2 Iff.rfl];simp only [Th,decide_true,Bool.and_true]
theorem tU{x y:Bool}{z:Int}(g:((b&&decide (PV q))&&decide (z=0))=decide (BJ q))(e:b=false):((false&&x)&&y)=decide (BJ q):=by
 rw [<-g,e];simp
theorem K4(n lo hi:Int):BI prog 81 #[I4 n,I4 lo,I4 hi] [] (.bool (decide (lo<=n/\n<=hi))):=by
 refine Se func81 ntmps81 [0,1,2] ?_;intro u R;refine A0<|A3 Y<|A0<|Zm Y<|Zm Y<|Zv (H9 Y Y)<|Zm Y<|Am (t:=10) Y V (fun g=>?_) (fun g=>?_)
 ·
  refine Zf Y Y<|Zf Y Y<|Yg (NC Y Y)<|Zv (AV Y Y)<|A3 Y<|AJ<|AP V results81 Y (by exact ⟨by simp [g],V⟩)
 refine A7 Y V<|A7 Y V<|A7 Y V<|Zv (AL Y Y)<|A3 Y<|AJ<|AP V results81 Y (by exact ⟨by simp [g],V⟩)
theorem JY(q:QM):BI prog 34 #[.agg q.A30] [] (.bool (decide (BJ q))):=by
 refine Se func34 ntmps34 [0] ?_;intro u R;refine A0<|Ze (Bx #[_,_,_,_,_,_,_])<|AD fun O=>A3 Y<|Zb [1] ?_;refine DK (e0:=[]) (H0:=[]) (fun e H=>∃(b0:Bool),(b0=decide (F8 q))/\e=[(3,.bool b0)]/\H=[]) Wp ?hx_1 ?hy_1
 case hx_1=>
  refine Zg<|Zh 1 CA V rfl A5 Y<|Zl AE Y ?_;refine Xr [_,_,_] Y call81 Y V (K4 _ _ _) ?_;refine Zm Y<|Am (t:=7) Y V (fun X=>?_) (fun X=>?_)
  ·
   refine Yf 2 CA V rfl A5 Y<|Yl AE Y ?_;refine Xr [_,_,_] Y call81 Y V (K4 _ _ _) ?_;refine Zv (AV Y Y)<|Zm Y<|Am (t:=12) Y V (fun Z=>?_) (fun Z=>?_)
   ·
    refine Yf 3 CA V rfl A5 Y<|Yl AE Y ?_;refine Yf 4 CA V rfl A5 Y<|Yl AE Y ?_;refine Xr [_,_,_] Y call81 Y V (K4 _ _ _) ?_;refine Zv (AV Y Y)<|Zm Y<|Am (t:=19) Y V (fun a3=>?_) (fun a3=>?_)
    ·
     refine Yf 4 CA V rfl A5 Y<|Yl AE Y ?_;refine Yg (NC Y Y)<|Zv (AV Y Y)<|AG Y<|Zn [3,1] ?_;refine BN (e':=[(3,_)]) (by exact ⟨_,by unfold F8;exact decide_eq_decide.2 A1,V,V⟩)
    refine A7 Y V<|A7 Y V<|A7 Y V<|Zv (AL Y Y)<|AG Y<|Zn [3,1] ?_;refine BN (e':=[(3,_)]) (by exact ⟨_,by unfold F8;exact (C4 A1).symm,V,V⟩)
   repeat first|refine A7 Y rfl ?_|refine Zv (AL Y Y)<|Zm Y ?_
   refine Zv (AL Y Y)<|AG Y<|Zn [3,1] ?_;refine BN (e':=[(3,_)]) (by exact ⟨_,by unfold F8;exact (C4 A1).symm,V,V⟩)
  repeat first|refine A7 Y rfl ?_|refine Zv (AL Y Y)<|Zm Y ?_
  refine Zv (AL Y Y)<|AG Y<|Zn [3,1] ?_;refine BN (e':=[(3,_)]) (by exact ⟨_,by unfold F8;exact (C4 A1).symm,V,V⟩)
 rintro _ _ ⟨b0,g,rfl,rfl⟩;refine Zq<|A0<|Zh 0 CA V rfl A5 Y<|Zl AE Y ?_;refine A4<|AQ<|Zb [3,25,1] ?_;refine DK (e0:=[(3,_),(25,_)]) (H0:=[[(O,_)]]) (fun e H=>∃(b:Bool) (y z:Int),(((b&&decide (y=0))&&decide (z=0))=decide (BJ q))/\e=[(3,.bool b)]/\H=[[(O,.cells #[I4 q.kd,I4 q.tb,I4 q.cl,I4 q.lo,I4 q.hi,I4 y,I4 z] 28 (0,0))]]) Wp ?hx_6 ?hy_6
 case hx_6=>
  refine AQ<|Zb [3,25,1] ?_;refine DK (e0:=[(3,_),(25,_)]) (H0:=[[(O,_)]]) (fun e H=>∃(b:Bool) (z:Int),(((b&&decide (PV q))&&decide (z=0))=decide (BJ q))/\e=[(3,.bool b)]/\H=[[(O,.cells #[I4 q.kd,I4 q.tb,I4 q.cl,I4 q.lo,I4 q.hi,I4 q.bq,I4 z] 28 (0,0))]]) Wp ?hx_7 ?hy_7
  case hx_7=>
   refine AQ<|Zq<|AQ<|Zq<|AQ<|Zq<|Zq<|A0<|Zv (CP Y Y)<|A3 Y<|Au Y (fun B=>?_) (fun B=>?_)
   ·
    refine Ay<|Zt<|Zt<|AR<|Zx<|Zq<|A0<|Zm Y<|Zm Y<|Ag (t:=38) Y V (fun U=>?_) (fun U=>?_)
    ·
     have J:F8 q:=HX (g.symm.trans U);refine Yf 2 CA V rfl A5 Y<|Yl AE Y ?_;refine Yg (CP Y Y)<|Zv (AV Y Y)<|Zm Y<|Am (t:=43) Y V (fun c1=>?_) (fun c1=>?_)
     ·
      refine Yf 3 CA V rfl A5 Y<|Yl AE Y ?_;refine Yf 4 CA V rfl A5 Y<|Yl AE Y ?_;refine Yg (CP Y Y)<|Zv (AV Y Y)<|Zm Y<|Am (t:=50) Y V (fun c2=>?_) (fun c2=>?_)
      ·
       refine Yf 3 CA V rfl A5 Y<|Yl AE Y ?_;refine Xr [_,_,_] Y call81 Y V (K4 _ _ _) ?_;refine Zv (AV Y Y)<|Zm Y<|Am (t:=55) Y V (fun c3=>?_) (fun c3=>?_)
       ·
        refine Yf 5 CA V rfl A5 Y<|Yl AE Y ?_;refine Yg (CP Y Y)<|Zv (AV Y Y)<|Zm Y<|Am (t:=60) Y V (fun c4=>?_) (fun c4=>?_)
        ·
         refine Yf 6 CA V rfl A5 Y<|Yl AE Y ?_;refine Yg (CP Y Y)<|Zv (AV Y Y)<|AG Y<|Zn [2] ?_;refine Zx<|AJ<|Zt<|Ae<|Zt<|Ae<|Zt<|Ae<|Zt<|Ae<|Zt<|AP rfl NX Y (by exact ⟨by rw [WA B];exact congrArg Value.bool (decide_eq_decide.2 ⟨fun h=>⟨J,by omega⟩,fun h=>by omega⟩),rfl⟩)
        refine A7 Y V<|A7 Y V<|A7 Y V<|Zv (AL Y Y)<|AG Y<|Zn [2] ?_;refine Zx<|AJ<|Zt<|Ae<|Zt<|Ae<|Zt<|Ae<|Zt<|Ae<|Zt<|AP rfl NX Y (by exact ⟨by rw [WA B];exact congrArg Value.bool (C4 (fun h=>by first|exact J h.1|omega)).symm,rfl⟩)
       repeat first|refine A7 Y rfl ?_|refine Zv (AL Y Y)<|Zm Y ?_
       refine Zv (AL Y Y)<|AG Y<|Zn [2] ?_;refine Zx<|AJ<|Zt<|Ae<|Zt<|Ae<|Zt<|Ae<|Zt<|Ae<|Zt<|AP rfl NX Y (by exact ⟨by rw [WA B];exact congrArg Value.bool (C4 (fun h=>by first|exact J h.1|omega)).symm,rfl⟩)
      repeat first|refine A7 Y rfl ?_|refine Zv (AL Y Y)<|Zm Y ?_
      refine Zv (AL Y Y)<|AG Y<|Zn [2] ?_;refine Zx<|AJ<|Zt<|Ae<|Zt<|Ae<|Zt<|Ae<|Zt<|Ae<|Zt<|AP rfl NX Y (by exact ⟨by rw [WA B];exact congrArg Value.bool (C4 (fun h=>by first|exact J h.1|omega)).symm,rfl⟩)
     repeat first|refine A7 Y rfl ?_|refine Zv (AL Y Y)<|Zm Y ?_
     refine Zv (AL Y Y)<|AG Y<|Zn [2] ?_;refine Zx<|AJ<|Zt<|Ae<|Zt<|Ae<|Zt<|Ae<|Zt<|Ae<|Zt<|AP rfl NX Y (by exact ⟨by rw [WA B];exact congrArg Value.bool (C4 (fun h=>by first|exact J h.1|omega)).symm,rfl⟩)
    have J:¬F8 q:=cL (g.symm.trans U);repeat first|refine A7 Y rfl ?_|refine Zv (AL Y Y)<|Zm Y ?_
    refine Zv (AL Y Y)<|AG Y<|Zn [2] ?_;refine Zx<|AJ<|Zt<|Ae<|Zt<|Ae<|Zt<|Ae<|Zt<|Ae<|Zt<|AP rfl NX Y (by exact ⟨by rw [WA B];exact congrArg Value.bool (C4 (fun h=>by first|exact J h.1|omega)).symm,rfl⟩)
   refine AC<|Zx<|Zq<|A0<|Zv (CP Y Y)<|A3 Y<|Au Y (fun I=>?_) (fun I=>?_)
   ·
    refine Ay<|Zt<|Zt<|Ar V<|Zt<|AR<|Zx<|A0<|Zm Y<|Zm Y<|Ag (t:=66) Y V (fun e0=>?_) (fun e0=>?_)
    ·
     refine Yf 6 CA V rfl A5 Y<|Yl AE Y ?_;refine Xr [_,_,_] Y call81 Y V (K4 _ _ _) ?_;refine Zv (AV Y Y)<|A3 Y<|Zg<|Zh 6 CA V rfl A5 Y<|Xe (Zs A5 Y Y V) ?_;refine Z0<|Zn [1,3] ?_;refine A8<|Zn [3,1] ?_;refine BN (e':=[(3,_)]) (by exact ⟨_,_,rL I g e0,V,V⟩)
    refine A7 Y V<|A7 Y V<|A7 Y V<|Zv (AL Y Y)<|A3 Y<|Zg<|Zh 6 CA V rfl A5 Y<|Xe (Zs A5 Y Y V) ?_;refine Z0<|Zn [1,3] ?_;refine A8<|Zn [3,1] ?_;refine BN (e':=[(3,_)]) (by exact ⟨_,0,rN I g e0,V,V⟩)
   refine AC<|Zx<|Zq<|Zq<|A0<|Zv (CP Y Y)<|A3 Y<|Au Y (fun G=>?_) (fun G=>?_)
   ·
    refine AC<|Zx<|Au Y (fun G=>?_) (fun G=>?_)
    ·
     refine Ay<|Zt<|Zt<|Ar V<|Zt<|Ar V<|Zt<|AR<|Zn [3,1] ?_;refine BN (e':=[(3,_)]) (by exact ⟨_,_,zK A1 g,V,V⟩)
    refine AC<|Zx<|Zq<|A0<|Zv (CP Y Y)<|A3 Y<|Au Y (fun m=>?_) (fun m=>?_)
    ·
     refine AC<|Zx<|Au Y (fun m=>?_) (fun m=>?_)
     ·
      refine Ay<|Zt<|Ar V<|Zt<|Ar V<|Zt<|Ar V<|Zt<|AR<|Zn [3,1] ?_;refine BN (e':=[(3,_)]) (by exact ⟨_,_,_,ll A1 g,V,V⟩)
     refine AC<|Zx<|Ay<|Ar V<|Zt<|Ar V<|Zt<|Ar V<|Zt<|Ar V<|Zt<|AR<|Zx<|A0<|A3 Y<|AJ<|AP V NX Y (by exact ⟨congrArg Value.bool (C4 (Ur B I A1 A1 A1 A1 A1)).symm,V⟩)
    refine Zg<|Zv (CP Y Y)<|A3 Y<|Au Y (fun m=>?_) (fun m=>?_)
    ·
     refine Ay<|Zt<|Ar V<|Zt<|Ar V<|Zt<|Ar V<|Zt<|AR<|Zn [3,1] ?_;refine BN (e':=[(3,_)]) (by exact ⟨_,_,_,ll A1 g,V,V⟩)
    refine AC<|Zx<|Ay<|Ar V<|Zt<|Ar V<|Zt<|Ar V<|Zt<|Ar V<|Zt<|AR<|Zx<|A0<|A3 Y<|AJ<|AP V NX Y (by exact ⟨congrArg Value.bool (C4 (Ur B I A1 A1 A1 A1 A1)).symm,V⟩)
   refine A0<|Zv (CP Y Y)<|A3 Y<|Au Y (fun G=>?_) (fun G=>?_)
   ·
    refine AC<|Zx<|Au Y (fun G=>?_) (fun G=>?_)
    ·
     refine Ay<|Zt<|Zt<|Ar V<|Zt<|Ar V<|Zt<|AR<|Zn [3,1] ?_;refine BN (e':=[(3,_)]) (by exact ⟨_,_,zK A1 g,V,V⟩)
    refine AC<|Zx<|Zq<|A0<|Zv (CP Y Y)<|A3 Y<|Au Y (fun m=>?_) (fun m=>?_)
    ·
     refine AC<|Zx<|Au Y (fun m=>?_) (fun m=>?_)
     ·
      refine Ay<|Zt<|Ar V<|Zt<|Ar V<|Zt<|Ar V<|Zt<|AR<|Zn [3,1] ?_;refine BN (e':=[(3,_)]) (by exact ⟨_,_,_,ll A1 g,V,V⟩)
     refine AC<|Zx<|Ay<|Ar V<|Zt<|Ar V<|Zt<|Ar V<|Zt<|Ar V<|Zt<|AR<|Zx<|A0<|A3 Y<|AJ<|AP V NX Y (by exact ⟨congrArg Value.bool (C4 (Ur B I A1 A1 A1 A1 A1)).symm,V⟩)
    refine Zg<|Zv (CP Y Y)<|A3 Y<|Au Y (fun m=>?_) (fun m=>?_)
    ·
     refine Ay<|Zt<|Ar V<|Zt<|Ar V<|Zt<|Ar V<|Zt<|AR<|Zn [3,1] ?_;refine BN (e':=[(3,_)]) (by exact ⟨_,_,_,ll A1 g,V,V⟩)
    refine AC<|Zx<|Ay<|Ar V<|Zt<|Ar V<|Zt<|Ar V<|Zt<|Ar V<|Zt<|AR<|Zx<|A0<|AG Y<|Zn [2] ?_;refine Zx<|AJ<|AP V NX Y (by exact ⟨congrArg Value.bool (C4 (Ur B I A1 A1 A1 A1 A1)).symm,V⟩)
   refine Zg<|Zv (CP Y Y)<|A3 Y<|Au Y (fun G=>?_) (fun G=>?_)
   ·
    refine Ay<|Zt<|Zt<|Ar V<|Zt<|Ar V<|Zt<|AR<|Zn [3,1] ?_;refine BN (e':=[(3,_)]) (by exact ⟨_,_,zK A1 g,V,V⟩)
   refine AC<|Zx<|Zq<|A0<|Zv (CP Y Y)<|A3 Y<|Au Y (fun m=>?_) (fun m=>?_)
   ·
    refine AC<|Zx<|Au Y (fun m=>?_) (fun m=>?_)
    ·
     refine Ay<|Zt<|Ar V<|Zt<|Ar V<|Zt<|Ar V<|Zt<|AR<|Zn [3,1] ?_;refine BN (e':=[(3,_)]) (by exact ⟨_,_,_,ll A1 g,V,V⟩)
    refine AC<|Zx<|Ay<|Ar V<|Zt<|Ar V<|Zt<|Ar V<|Zt<|Ar V<|Zt<|AR<|Zx<|A0<|AG Y<|Zn [2] ?_;refine Zx<|AJ<|AP V NX Y (by exact ⟨congrArg Value.bool (C4 (Ur B I A1 A1 A1 A1 A1)).symm,V⟩)
   refine Zg<|Zv (CP Y Y)<|AG Y<|Zn [1,3,34] ?_;refine Zx<|Au Y (fun m=>?_) (fun m=>?_)
   ·
    refine Ay<|Zt<|Ar V<|Zt<|Ar V<|Zt<|Ar V<|Zt<|AR<|Zn [3,1] ?_;refine BN (e':=[(3,_)]) (by exact ⟨_,_,_,ll A1 g,V,V⟩)
   refine AC<|Zx<|Ay<|Ar V<|Zt<|Ar V<|Zt<|Ar V<|Zt<|Ar V<|Zt<|AR<|Zx<|A0<|A3 Y<|AJ<|AP V NX Y (by exact ⟨congrArg Value.bool (C4 (Ur B I A1 A1 A1 A1 A1)).symm,V⟩)
  rintro _ _ ⟨b,z,K,rfl,rfl⟩;refine A0<|Zm Y<|Zm Y<|Ag (t:=73) Y V (fun W=>?_) (fun W=>?_)
  ·
   refine Yf 5 CA V rfl A5 Y<|Yl AE Y ?_;refine Xr [_,_,_] Y call81 Y V (K4 _ _ _) ?_;refine Zv (AV Y Y)<|A3 Y<|Zg<|Zh 5 CA V rfl A5 Y<|Xe (Zs A5 Y Y V) ?_;refine Z0<|A8<|Zn [3,1] ?_;refine BN (e':=[(3,_)]) (by exact ⟨_,_,_,tP K W,V,V⟩)
  refine A7 Y V<|A7 Y V<|A7 Y V<|Zv (AL Y Y)<|A3 Y<|Zg<|Zh 5 CA V rfl A5 Y<|Xe (Zs A5 Y Y V) ?_;refine Z0<|A8<|Zn [3,1] ?_;refine BN (e':=[(3,_)]) (by exact ⟨_,0,z,tU K W,V,V⟩)
 rintro _ _ ⟨b,y,z,K,rfl,rfl⟩;refine Zq<|A0<|Zm Y<|Zm Y<|Ag (t:=80) Y V (fun g0=>?_) (fun g0=>?_)
 ·
  refine Yf 5 CA V rfl A5 Y<|Yl AE Y ?_;refine Yg (CP Y Y)<|Zv (AV Y Y)<|Zm Y<|Am (t:=85) Y V (fun g1=>?_) (fun g1=>?_)
  ·
   refine Yf 6 CA V rfl A5 Y<|Yl AE Y ?_;refine Yg (CP Y Y)<|Zv (AV Y Y)<|A3 Y<|AJ<|Zt<|Ae<|Zt<|AP rfl NX Y (by exact ⟨by rw [<-K];simp [*],rfl⟩)
  refine A7 Y rfl<|A7 Y rfl<|A7 Y rfl<|Zv (AL Y Y)<|A3 Y<|AJ<|Zt<|Ae<|Zt<|AP rfl NX Y (by exact ⟨by rw [<-K];simp [*],rfl⟩)
 repeat first|refine A7 Y rfl ?_|refine Zv (AL Y Y)<|Zm Y ?_
 refine Zv (AL Y Y)<|A3 Y<|AJ<|Zt<|Ae<|Zt<|AP rfl NX Y (by exact ⟨by rw [<-K];simp [*],rfl⟩)
def Ig(p:Option Addr)(o:Option AU)(s:List A9):Prop:=match o with
 |none=>p=none/\s=[]
 |some r=>∃b,p=some ⟨b,0,none⟩/\s=[(b,.cells r.A29 83 (0,0))]
theorem Ig.some_{p:Option Addr}{o:Option AU}{s:List A9}(h:Ig p o s):p.isSome=o.isSome:=by
 cases o with
 |none=>rw [h.1];rfl
 |some r=>obtain ⟨b,rfl,_⟩:=h;rfl
theorem ZX(q:QM)(c:Chg)(g:Bool)(v:V3):Ht q g (EK c g v)=Ht q g ⟨c.t,c.k,v⟩:=by
 cases g with
 |false=>rfl
 |true=>rfl
theorem X9{r:AU}(h:b=false\/¬(r.t=q.tb/\q.lo<=Bl r q.cl/\Bl r q.cl<=q.hi)):Ht q b r=none:=by
 unfold Ht inQ;rcases h with h|h
 · rw [h];rfl
 · rw [C4 h,Bool.and_false];rfl
theorem wJ{r:AU}(h:b=true)(h2:r.t=q.tb/\q.lo<=Bl r q.cl/\Bl r q.cl<=q.hi):Ht q b r=some r:=by
 unfold Ht inQ;rw [h,CM h2];rfl
theorem Hw:Fp prog 3 (fun k:Int=>I4 k) (fun _=>True):=Ca Cp
theorem OO(q:QM)(G:0<=q.cl/\q.cl<=3)(B:0<=q.bq/\q.bq<=3)(bq:Nat)(r:AU)(b:Bool):BZ prog 139 #[.agg r.A29,.bool b,I5 bq] [[(bq,.cells q.A30 28 (0,0))]] (fun v H'=>∃p s,v= .tuple #[.pointer p,I4 (mQ q (Ht q b r))]/\Ig p (Ht q b r) s/\H'=[s,[(bq,.cells q.A30 28 (0,0))]]):=by
 refine Se func139 ntmps139 [0,1,2] ?_;intro u R;refine A0<|Ze (Bx #[_,_,_,_,_])<|AD fun I=>Za Y<|A3 Y<|A0<|Zo Wh (AA (cs:=#[_,_,_,_,_]) CI An Y Ax AN) ?_;refine Zh 2 CA V rfl A5 Y<|Zl AE Y ?_;refine Xr [_,_] Y S8 Y V (Fs r q.cl G) ?_;refine A3 Y<|Zq<|A0<|Zm Y<|Zv (Bo Y)<|Zm Y<|Ag (t:=14) Y V (fun m=>?_) (fun m=>?_)
 ·
  repeat refine A7 Y rfl ?_
  refine Zv (AV Y Y)<|Zm Y<|A7 Y V<|A7 Y V<|A7 Y V<|A7 Y V<|Zv (AV Y Y)<|Zm Y<|A7 Y V<|A7 Y V<|A7 Y V<|A7 Y V<|Zv (AV Y Y)<|Z0<|Zn [2,3,32] ?_;refine Zx<|Cn Y<|Zq<|BV<|Zg<|Za Y<|A3 Y<|AJ<|Zt<|Cy V ir Y Y (by
   have g:Ht q b r=none:=X9 (by exact .inl (by simpa using m));exact ⟨none,[],by rw [g];rfl,by rw [g];exact ⟨rfl,rfl⟩,rfl⟩)
 refine Yf 0 FG V rfl A5 Y<|Yl AE Y ?_;refine Yf 1 CA V rfl A5 Y<|Yl AE Y ?_;refine Yg (J9 Y Y)<|Zv (AL Y Y)<|Zm Y<|Am (t:=21) Y V (fun h2=>?_) (fun h2=>?_)
 ·
  refine A7 Y V<|A7 Y V<|A7 Y V<|A7 Y V<|Zv (AV Y Y)<|Zm Y<|A7 Y V<|A7 Y V<|A7 Y V<|A7 Y V<|Zv (AV Y Y)<|Z0<|Zn [2,3,32] ?_;refine Zx<|Cn Y<|Zq<|BV<|Zg<|Za Y<|A3 Y<|AJ<|Zt<|Cy V ir Y Y (by
   have g:Ht q b r=none:=X9 (by exact .inr A1);exact ⟨none,[],by rw [g];rfl,by rw [g];exact ⟨rfl,rfl⟩,rfl⟩)
 refine Zf Y Y<|Yf 3 CA V rfl A5 Y<|Yl AE Y ?_;refine Yg (Dt Y Y)<|Zv (AL Y Y)<|Zm Y<|Am (t:=27) Y V (fun J=>?_) (fun J=>?_)
 ·
  refine A7 Y V<|A7 Y V<|A7 Y V<|A7 Y V<|Zv (AV Y Y)<|Z0<|Zn [2,3,32] ?_;refine Zx<|Cn Y<|Zq<|BV<|Zg<|Za Y<|A3 Y<|AJ<|Zt<|Cy V ir Y Y (by
   have g:Ht q b r=none:=X9 (by exact .inr A1);exact ⟨none,[],by rw [g];rfl,by rw [g];exact ⟨rfl,rfl⟩,rfl⟩)
 refine Zf Y Y<|Yf 4 CA V rfl A5 Y<|Yl AE Y ?_;refine Yg (Er Y Y)<|Zv (AL Y Y)<|Z0<|Zn [2,3,32] ?_;refine Zx<|Au Y (fun K=>?_) (fun K=>?_)
 ·
  refine Zq<|BV<|Zg<|Za Y<|A3 Y<|AJ<|Zt<|Cy V ir Y Y (by
   have g:Ht q b r=none:=X9 (by exact .inr A1);exact ⟨none,[],by rw [g];rfl,by rw [g];exact ⟨rfl,rfl⟩,rfl⟩)
 refine AC<|Zx<|A0<|Zo Wh (AA (cs:=#[_,_,_,_,_]) CI An Y Ax AN) ?_;refine Zh 5 CA V rfl A5 Y<|Zl AE Y ?_;refine Xr [_,_] Y S8 Y V (Fs r q.bq B) ?_;refine Za Y<|A3 Y<|AJ<|Cy V ir Y Y (by
  have g:Ht q b r=some r:=wJ (by simpa using m) A1;exact ⟨_,_,by rw [g];rfl,by rw [g];exact ⟨I,rfl,rfl⟩,rfl⟩)
theorem V7(c:Chg):BI prog 141 #[.agg c.A28] [] (.tuple #[.agg #[I4 (EK c c.had c.o).t,I4 (EK c c.had c.o).k,I4 (EK c c.had c.o).v.a,I4 (EK c c.had c.o).v.b,I4 (EK c c.had c.o).v.c],.bool c.had]):=by
 refine Se func141 ntmps141 [0] ?_;intro u R;refine A0<|Ze (Bx #[_,_,_,_,_,_,_,_,_,_])<|AD fun g=>Ze (Al DS #[_,_,_,_,_])<|AD fun m=>A3 Y<|A0<|Zo Wh (AA (cs:=#[_,_,_,_,_,_,_,_,_,_]) Ft C3 Y Ax AN) ?_;refine Zh 2 B8 V rfl CH Y<|Zl E0 Y ?_;refine Zh 3 B8 V rfl DG Y<|Zo Wh (AA (cs:=#[_,_,_]) HE DG Y Ax AN) ?_;refine Xr [_,_,_] Y call202 Y V (Wm c c.had c.o) ?_;refine Zd Y V<|Zd Y V<|Xe (Xw An _) ?_;refine AG Y<|Zn [2,3] ?_;refine Zx<|AJ<|Bi V results141 Y Wh (Ak CI An Wn (V)) Y (by exact ⟨V,V⟩)
set_option maxHeartbeats 1000000 in
theorem Jg(q:QM)(G:0<=q.cl/\q.cl<=3)(B:0<=q.bq/\q.bq<=3)(c:Chg):BZ prog 69 #[.agg q.A30,.agg c.A28] [] (fun v H'=>∃I J s1 s2,v= .agg (q.G2 c I J (mQ q (bfQ q c)) (mQ q (afQ q c)))/\Ig I (bfQ q c) s1/\Ig J (afQ q c) s2/\H'=[s1,s2]):=by
 refine Se func69 ntmps69 [0,1] ?_;intro u R;refine A0<|Ze (Bx #[_,_,_,_,_,_,_])<|AD fun bq=>Ze (Bx #[_,_,_,_,_,_,_,_,_,_])<|AD fun U=>Ze (EW zeroValue167 (cs:=#[I4 0,I4 0,I4 0,I4 0,I4 0,I4 0,I4 0,I4 0,I4 0,.bool false,I4 0,I4 0,I4 0,.bool false,I4 0,I4 0,I4 0,.pointer none,.pointer none,I4 0,I4 0]) A6)<|AD fun X=>A4<|A0<|Zo Wh (AA (cs:=#[_,_,_,_,_,_,_]) E4 CC Y Ax AN) ?_;refine Zo Wh (AA (cs:=#[_,_,_,_,_,_,_,_,_,_]) Ft C3 Y Ax AN) ?_;refine Zv (BL (vs:=[(0,.agg q.A30),(1,.agg c.A28)]) (cs:=(q.G2 c none none 0 0)) Y (AY (pl:=#[(0,7),(7,10),(17,1),(18,1),(19,1),(20,1)]) zeroValue167 D3 (fun _=>by kernel_rfl) A6))<|Ze (EW zeroValue167 (cs:=#[I4 0,I4 0,I4 0,I4 0,I4 0,I4 0,I4 0,I4 0,I4 0,.bool false,I4 0,I4 0,I4 0,.bool false,I4 0,I4 0,I4 0,.pointer none,.pointer none,I4 0,I4 0]) A6)<|AD fun W=>Xe (BK Wc Y Y a7 Wu (by exact Du rfl) E3 AW (by exact BA _)) ?_;refine A4<|A0<|Zv (Bg (vs:=[]) (us:=[_]) Y Y)<|A3 Y<|A0<|Zm Y<|Zo Wh (AA (cs:=#[_,_,_,_,_,_,_,_,_,_]) Ft C3 Y Ax AN) ?_;refine Xr [_] Y call141 Y V (V7 c) ?_;refine Zd Y V<|Zd Y V<|Zc [_,_] Y call139 Y V (OO q G B bq (EK c c.had c.o) c.had) ?_;rintro _ _ ⟨_,⟨I,s1,rfl,g,rfl⟩,rfl⟩;have K:Ht q c.had (EK c c.had c.o)=bfQ q c:=ZX q c c.had c.o
 rw [K]at g⊢;refine Zm Y<|Zd Y V<|Zd Y V<|Zh 17 D3 V rfl It Y<|Xe (Zs It Y Y V (hi:=by(simp;done))) ?_;refine Zh 19 D3 V rfl A5 Y<|Xe (Zs A5 Y Y V (hi:=by(simp;done))) ?_;refine Z0<|Zn [3,4,5,6] ?_;refine Zx<|A0<|Zm Y<|Zo Wh (AA (cs:=#[_,_,_,_,_,_,_,_,_,_]) Ft C3 Y Ax AN) ?_;refine Xr [_] Y call142 Y V (OT c) ?_;refine Zd Y V<|Zd Y V<|Zc [_,_] Y call139 Y V (OO q G B bq (EK c c.has c.n) c.has) ?_;rintro _ _ ⟨_,⟨J,s2,rfl,m,rfl⟩,rfl⟩;have O:Ht q c.has (EK c c.has c.n)=afQ q c:=ZX q c c.has c.n
 rw [O]at m⊢;refine Zm Y<|Zd Y V<|Zd Y V<|Zh 18 D3 V rfl It Y<|Xe (Zs It Y Y V (hi:=by(simp;done))) ?_;refine Zh 20 D3 V rfl A5 Y<|Xe (Zs A5 Y Y V (hi:=by(simp;done))) ?_;refine Z0<|Zn [4,5] ?_;refine Zx<|A0<|Zo Wh (AA cF Wc Y Ax (by exact BM V)) ?_;refine Xe (BK Wc Y Y a7 Wu (by exact Du rfl) E3 AW (by exact BA _)) ?_;refine A4<|AJ<|Cw V results69 Y Wh (Ak cF Wc Wn (BM V)) (by exact ⟨I,J,s1,s2,V,g,m,V⟩)
theorem G6(q:QM)(c:Chg)(g m:Option Addr)(o n:Int):(Value.agg (q.G2 c g m o n)).cells=(q.G2 c g m o n):=by simp [Value.cells]
theorem bA(q:QM)(c:Chg)(g m:Option Addr)(o n:Int):BI prog 126 #[.agg (q.G2 c g m o n)] [] (.bool (g.isSome||m.isSome)):=by
 refine Se func126 ntmps126 [0] ?_;intro u R;refine A0<|Ze (Ep Y (cs:=(q.G2 c g m o n)) (G6 q c g m o n))<|AD fun G=>A3 Y<|A0<|Zh 17 D3 V rfl It Y<|Zl Ly Y ?_;refine Zv (Em S2 Y Y)<|Zm Y<|Ag (t:=6) Y V (fun B=>?_) (fun B=>?_)
 ·
  refine A7 Y rfl<|A7 Y rfl<|A7 Y rfl<|Zv (AV Y Y)<|A3 Y<|AJ<|AP rfl results126 Y (by exact ⟨by first|rfl|simp [B],rfl⟩)
 refine Yf 18 D3 V rfl It Y<|Yl Ly Y ?_;refine Yg (Em S2 Y Y)<|Zv (AL Y Y)<|A3 Y<|AJ<|AP rfl results126 Y (by exact ⟨by first|rfl|simp [B],rfl⟩)
theorem TF(q:QM)(c:Chg)(g m:Option Addr)(o n:Int):BI prog 128 #[.agg (q.G2 c g m o n)] [] (.bool (g.isSome !=m.isSome)):=by
 refine Se func128 ntmps128 [0] ?_;intro u R;refine A0<|Ze (Ep Y (cs:=(q.G2 c g m o n)) (G6 q c g m o n))<|AD fun B=>A3 Y<|A0<|Zh 17 D3 V rfl It Y<|Zl Ly Y ?_;refine Zv (NZ S2 Y Y)<|Zh 18 D3 V rfl It Y<|Zl Ly Y ?_;refine Zv (NZ S2 Y Y)<|Zv (Kc NO Y Y)<|A3 Y<|AJ<|AP V results128 Y (by exact ⟨by cases g<;>cases m<;>rfl,V⟩)
theorem wy(q:QM)(c:Chg)(g m:Option Addr)(o n:Int):BI prog 130 #[.agg (q.G2 c g m o n)] [] (.bool (decide (o≠n))):=by
 refine Se func130 ntmps130 [0] ?_;intro u R;refine A0<|Ze (Ep Y (cs:=(q.G2 c g m o n)) (G6 q c g m o n))<|AD fun B=>A3 Y<|A0<|Zh 19 D3 V rfl A5 Y<|Zl AE Y ?_;refine Zh 20 D3 V rfl A5 Y<|Zl AE Y ?_;refine Zv (J9 Y Y)<|A3 Y<|AJ<|AP rfl results130 Y (by exact ⟨by first|rfl|simp,rfl⟩)
theorem ww(q:QM)(c:Chg)(g m:Option Addr)(o n:Int):BI prog 132 #[.agg (q.G2 c g m o n)] [] (.bool ((g.isSome !=m.isSome)||decide (o≠n))):=by
 refine Se func132 ntmps132 [0] ?_;intro u R;refine A0<|Ze (Ep Y (cs:=(q.G2 c g m o n)) (G6 q c g m o n))<|AD fun G=>A3 Y<|A0<|Zo Wh (AA cF Wc Y Ax (by exact BM V)) ?_;refine Xr [_] Y call128 Y V (TF q c g m o n) ?_;refine Zm Y<|Ag (t:=5) Y V (fun B=>?_) (fun B=>?_)
 ·
  repeat refine A7 Y rfl ?_
  refine Zv (AV Y Y)<|A3 Y<|AJ<|AP V results132 Y (by exact ⟨by simp [B],V⟩)
 refine Yf 19 D3 V rfl A5 Y<|Yl AE Y ?_;refine Yf 20 D3 V rfl A5 Y<|Yl AE Y ?_;refine Yg (J9 Y Y)<|Zv (AL Y Y)<|A3 Y<|AJ<|AP V results132 Y (by exact ⟨by simp [B],V⟩)
theorem wu(q:QM)(c:Chg)(g m:Option Addr)(o n:Int):BI prog 135 #[.agg (q.G2 c g m o n)] [] (.bool ((g.isSome !=m.isSome)||decide (o≠n))):=by
 refine Se func135 ntmps135 [0] ?_;intro u R;refine A0<|Ze (Ep Y (cs:=(q.G2 c g m o n)) (G6 q c g m o n))<|AD fun G=>A3 Y<|A0<|Zo Wh (AA cF Wc Y Ax (by exact BM V)) ?_;refine Xr [_] Y call128 Y V (TF q c g m o n) ?_;refine Zm Y<|Ag (t:=5) Y V (fun B=>?_) (fun B=>?_)
 ·
  repeat refine A7 Y rfl ?_
  refine Zv (AV Y Y)<|A3 Y<|AJ<|AP V results135 Y (by exact ⟨by simp [B],V⟩)
 refine Yf 19 D3 V rfl A5 Y<|Yl AE Y ?_;refine Yf 20 D3 V rfl A5 Y<|Yl AE Y ?_;refine Yg (J9 Y Y)<|Zv (AL Y Y)<|A3 Y<|AJ<|AP V results135 Y (by exact ⟨by simp [B],V⟩)
theorem wm(q:QM)(c:Chg)(g m:Option Addr)(o n:Int):BI prog 137 #[.agg (q.G2 c g m o n)] [] (.bool ((g.isSome||m.isSome)||decide (c.t=q.ot))):=by
 refine Se func137 ntmps137 [0] ?_;intro u R;refine A0<|Ze (Ep Y (cs:=(q.G2 c g m o n)) (G6 q c g m o n))<|AD fun G=>A3 Y<|A0<|Zo Wh (AA cF Wc Y Ax (by exact BM V)) ?_;refine Xr [_] Y call126 Y V (bA q c g m o n) ?_;refine Zm Y<|Ag (t:=5) Y V (fun B=>?_) (fun B=>?_)
 ·
  repeat refine A7 Y rfl ?_
  refine Zv (AV Y Y)<|AG Y<|Zn [2] ?_;refine Zx<|AJ<|AP V results137 Y (by exact ⟨by simp [B],V⟩)
 refine Yf 7 D3 V rfl C3 Y<|Yg (Ap (off:=0) B8 V rfl A5 Y)<|Yl AE Y ?_;refine Yf 0 D3 V rfl CC Y<|Yg (Ap (off:=6) CA V rfl A5 Y)<|Yl AE Y ?_;refine Yg (CP Y Y)<|Zv (AL Y Y)<|AG Y<|Zn [2] ?_;refine Zx<|AJ<|AP V results137 Y (by exact ⟨by simp [B],V⟩)
end Go.Proofs.YteaiajghbkenoaaGreatDoor
