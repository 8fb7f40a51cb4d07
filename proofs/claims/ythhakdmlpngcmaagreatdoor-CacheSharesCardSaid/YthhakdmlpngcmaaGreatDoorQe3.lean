/- query.Valid. -/
import Derived.Test.YthhakdmlpngcmaaGreatDoorQe1
set_option linter.unusedVariables false
set_option linter.unusedSimpArgs false
namespace Go.Proofs.YthhakdmlpngcmaaGreatDoor
open Go.Proofs.Tryz
open Go Go.RowKit Gw
set_option maxRecDepth 100000
attribute [local irreducible] Gw.At Gw.Nx Gw.Ops
def FE(q:QM):Prop:=(0<=q.tb/\q.tb<=3)/\(0<=q.cl/\q.cl<=3)/\(-1000000000<=q.lo/\q.lo<=q.hi/\q.hi<=1000000000)
instance(q:QM):Decidable (FE q):=by unfold FE;infer_instance
def PU(q:QM):Prop:=1<=q.bq/\q.bq<=3
instance(q:QM):Decidable (PU q):=by unfold PU;infer_instance
variable{q:QM}
theorem tw(h:q.kd=1):BK q↔FE q/\q.cl=0/\q.lo=q.hi/\(1<=q.lo/\q.lo<=1000000)/\q.bq=0/\q.ot=0:=by unfold BK FE;omega
theorem tt(h:q.kd=2\/q.kd=3):BK q↔FE q/\q.bq=0/\q.ot=0:=by unfold BK FE;omega
theorem tr(h:q.kd=4\/q.kd=5\/q.kd=6):BK q↔FE q/\PU q/\q.ot=0:=by unfold BK FE PU;omega
theorem tm(h:q.kd=7):BK q↔FE q/\(0<=q.ot/\q.ot<=3)/\PU q:=by unfold BK FE PU;omega
theorem WF(h:q.kd=1):decide (BK q)=decide (FE q/\q.cl=0/\q.lo=q.hi/\(1<=q.lo/\q.lo<=1000000)/\q.bq=0/\q.ot=0):=decide_eq_decide.2 (tw h)
theorem vh(h:q.kd=2\/q.kd=3):decide (BK q)=decide (FE q/\q.bq=0/\q.ot=0):=decide_eq_decide.2 (tt h)
theorem vf(h:q.kd=4\/q.kd=5\/q.kd=6):decide (BK q)=decide (FE q/\PU q/\q.ot=0):=decide_eq_decide.2 (tr h)
theorem zL(h:q.kd=7):decide (BK q)=decide (FE q/\(0<=q.ot/\q.ot<=3)/\PU q):=decide_eq_decide.2 (tm h)
theorem Uv(h:¬q.kd=1)(I:¬q.kd=7)(m:¬q.kd=4)(B:¬q.kd=5)(G:¬q.kd=6)(h2:¬q.kd=2)(g:¬q.kd=3):¬BK q:=by unfold BK;omega
variable{b0:Bool}
theorem nF(h:q.kd=4\/q.kd=5\/q.kd=6)(g:b0=decide (FE q)):((b0&&decide (PU q))&&decide (q.ot=0))=decide (BK q):=by
 rw [vf h,g];simp [Bool.and_assoc]
theorem nK(h:q.kd=2\/q.kd=3)(g:b0=decide (FE q)):((b0&&decide (q.bq=0))&&decide (q.ot=0))=decide (BK q):=by
 rw [vh h,g];simp [Bool.and_assoc]
theorem vc(h:q.kd=7)(g:b0=decide (FE q))(e0:b0=true):((decide (0<=q.ot/\q.ot<=3)&&decide (PU q))&&decide ((0:Int)=0))=decide (BK q):=by
 have m:FE q:=HO (g.symm.trans e0);rw [zL h];simp [m]
theorem vd{x y:Bool}(h:q.kd=7)(g:b0=decide (FE q))(e0:b0=false):((false&&x)&&y)=decide (BK q):=by
 have m:¬FE q:=ab (g.symm.trans e0);rw [zL h];simp [m]
variable{b:Bool}
theorem x7{z:Int}(g:((b&&decide (PU q))&&decide (z=0))=decide (BK q))(e:b=true):((decide (1<=q.bq/\q.bq<=3)&&decide ((0:Int)=0))&&decide (z=0))=decide (BK q):=by
 rw [<-g,e,show decide (PU q)=decide (1<=q.bq/\q.bq<=3) from decide_eq_decide.2 Iff.rfl];simp only [V1,decide_true,Bool.and_true]
theorem xF{x y:Bool}{z:Int}(g:((b&&decide (PU q))&&decide (z=0))=decide (BK q))(e:b=false):((false&&x)&&y)=decide (BK q):=by
 rw [<-g,e];simp
theorem KH(n lo hi:Int):BJ prog 68 #[I4 n,I4 lo,I4 hi] [] (.bool (decide (lo<=n/\n<=hi))):=by
 refine Se func68 ntmps68 [0,1,2] ?_;intro u R;refine A1<|A5 Y<|A1<|Zm Y<|Zm Y<|Zv (Gj Y Y)<|Zm Y<|Ao (t:=10) Y V (fun g=>?_) (fun g=>?_);·
  refine Zf Y Y<|Zf Y Y<|Yg (NJ Y Y)<|Zv (AX Y Y)<|A5 Y<|AJ<|AP V results68 Y (by exact ⟨by simp [g],V⟩)
 refine A7 Y V<|A7 Y V<|A7 Y V<|Zv (AL Y Y)<|A5 Y<|AJ<|AP V results68 Y (by exact ⟨by simp [g],V⟩)
theorem Jd(q:QM):BJ prog 29 #[.agg q.A72] [] (.bool (decide (BK q))):=by
 refine Se func29 ntmps29 [0] ?_;intro u R;refine A1<|Ze (Bx #[_,_,_,_,_,_,_])<|AG fun O=>A5 Y<|Zb [1] ?_;refine CW (e0:=[]) (H0:=[]) (fun e H=>∃(b0:Bool),(b0=decide (FE q))/\e=[(3,.bool b0)]/\H=[]) Wp ?hx_1 ?hy_1
 case hx_1=>
  refine Zg<|Zh 1 CN V rfl AE Y<|Zl AH Y ?_;refine Xr [_,_,_] Y call68 Y V (KH _ _ _) ?_;refine Zm Y<|Ao (t:=7) Y V (fun X=>?_) (fun X=>?_);·
   refine Yf 2 CN V rfl AE Y<|Yl AH Y ?_;refine Xr [_,_,_] Y call68 Y V (KH _ _ _) ?_;refine Zv (AX Y Y)<|Zm Y<|Ao (t:=12) Y V (fun Z=>?_) (fun Z=>?_);·
    refine Yf 3 CN V rfl AE Y<|Yl AH Y ?_;refine Yf 4 CN V rfl AE Y<|Yl AH Y ?_;refine Xr [_,_,_] Y call68 Y V (KH _ _ _) ?_;refine Zv (AX Y Y)<|Zm Y<|Ao (t:=19) Y V (fun a3=>?_) (fun a3=>?_);·
     refine Yf 4 CN V rfl AE Y<|Yl AH Y ?_;refine Yg (NJ Y Y)<|Zv (AX Y Y)<|AW Y<|Zn [3,1] ?_;refine Av (e':=[(3,_)]) (by exact ⟨_,by unfold FE;exact decide_eq_decide.2 A0,V,V⟩)
    refine A7 Y V<|A7 Y V<|A7 Y V<|Zv (AL Y Y)<|AW Y<|Zn [3,1] ?_;refine Av (e':=[(3,_)]) (by exact ⟨_,by unfold FE;exact (Cl A0).symm,V,V⟩)
   refine A7 Y V<|A7 Y V<|A7 Y V<|A7 Y V<|A7 Y V<|Zv (AL Y Y)<|Zm Y<|A7 Y V<|A7 Y V<|A7 Y V<|Zv (AL Y Y)<|AW Y<|Zn [3,1] ?_;refine Av (e':=[(3,_)]) (by exact ⟨_,by unfold FE;exact (Cl A0).symm,V,V⟩)
  refine A7 Y V<|A7 Y V<|A7 Y V<|Zv (AL Y Y)<|Zm Y<|A7 Y V<|A7 Y V<|A7 Y V<|A7 Y V<|A7 Y V<|Zv (AL Y Y)<|Zm Y<|A7 Y V<|A7 Y V<|A7 Y V<|Zv (AL Y Y)<|AW Y<|Zn [3,1] ?_;refine Av (e':=[(3,_)]) (by exact ⟨_,by unfold FE;exact (Cl A0).symm,V,V⟩)
 rintro _ _ ⟨b0,g,rfl,rfl⟩;refine Zq<|A1<|Zh 0 CN V rfl AE Y<|Zl AH Y ?_;refine A6<|AQ<|Zb [3,25,1] ?_;refine CW (e0:=[(3,_),(25,_)]) (H0:=[[(O,_)]]) (fun e H=>∃(b:Bool) (y z:Int),(((b&&decide (y=0))&&decide (z=0))=decide (BK q))/\e=[(3,.bool b)]/\H=[[(O,.cells #[I4 q.kd,I4 q.tb,I4 q.cl,I4 q.lo,I4 q.hi,I4 y,I4 z] 34 (0,0))]]) Wp ?hx_6 ?hy_6
 case hx_6=>
  refine AQ<|Zb [3,25,1] ?_;refine CW (e0:=[(3,_),(25,_)]) (H0:=[[(O,_)]]) (fun e H=>∃(b:Bool) (z:Int),(((b&&decide (PU q))&&decide (z=0))=decide (BK q))/\e=[(3,.bool b)]/\H=[[(O,.cells #[I4 q.kd,I4 q.tb,I4 q.cl,I4 q.lo,I4 q.hi,I4 q.bq,I4 z] 34 (0,0))]]) Wp ?hx_7 ?hy_7
  case hx_7=>
   refine AQ<|Zq<|AQ<|Zq<|AQ<|Zq<|Zq<|A1<|Zv (CP Y Y)<|A5 Y<|Aw Y (fun B=>?_) (fun B=>?_);·
    refine BD<|Zt<|Zt<|AV<|Zx<|Zq<|A1<|Zm Y<|Zm Y<|Ah (t:=38) Y V (fun U=>?_) (fun U=>?_);·
     have J:FE q:=HO (g.symm.trans U);refine Yf 2 CN V rfl AE Y<|Yl AH Y ?_;refine Yg (CP Y Y)<|Zv (AX Y Y)<|Zm Y<|Ao (t:=43) Y V (fun c1=>?_) (fun c1=>?_);·
      refine Yf 3 CN V rfl AE Y<|Yl AH Y ?_;refine Yf 4 CN V rfl AE Y<|Yl AH Y ?_;refine Yg (CP Y Y)<|Zv (AX Y Y)<|Zm Y<|Ao (t:=50) Y V (fun c2=>?_) (fun c2=>?_);·
       refine Yf 3 CN V rfl AE Y<|Yl AH Y ?_;refine Xr [_,_,_] Y call68 Y V (KH _ _ _) ?_;refine Zv (AX Y Y)<|Zm Y<|Ao (t:=55) Y V (fun c3=>?_) (fun c3=>?_);·
        refine Yf 5 CN V rfl AE Y<|Yl AH Y ?_;refine Yg (CP Y Y)<|Zv (AX Y Y)<|Zm Y<|Ao (t:=60) Y V (fun c4=>?_) (fun c4=>?_);·
         refine Yf 6 CN V rfl AE Y<|Yl AH Y ?_;refine Yg (CP Y Y)<|Zv (AX Y Y)<|AW Y<|Zn [2] ?_;refine Zx<|AJ<|Zt<|Ab<|Zt<|Ab<|Zt<|Ab<|Zt<|Ab<|Zt<|AP rfl NX Y (by exact ⟨by rw [WF B];exact congrArg Value.bool (decide_eq_decide.2 ⟨fun h=>⟨J,by omega⟩,fun h=>by omega⟩),rfl⟩)
        refine A7 Y V<|A7 Y V<|A7 Y V<|Zv (AL Y Y)<|AW Y<|Zn [2] ?_;refine Zx<|AJ<|Zt<|Ab<|Zt<|Ab<|Zt<|Ab<|Zt<|Ab<|Zt<|AP rfl NX Y (by exact ⟨by rw [WF B];exact congrArg Value.bool (Cl (fun h=>by first|exact J h.1|omega)).symm,rfl⟩)
       refine A7 Y V<|A7 Y V<|A7 Y V<|Zv (AL Y Y)<|Zm Y<|A7 Y V<|A7 Y V<|A7 Y V<|Zv (AL Y Y)<|AW Y<|Zn [2] ?_;refine Zx<|AJ<|Zt<|Ab<|Zt<|Ab<|Zt<|Ab<|Zt<|Ab<|Zt<|AP rfl NX Y (by exact ⟨by rw [WF B];exact congrArg Value.bool (Cl (fun h=>by first|exact J h.1|omega)).symm,rfl⟩)
      refine A7 Y V<|A7 Y V<|A7 Y V<|Zv (AL Y Y)<|Zm Y<|A7 Y V<|A7 Y V<|A7 Y V<|Zv (AL Y Y)<|Zm Y<|A7 Y V<|A7 Y V<|A7 Y V<|Zv (AL Y Y)<|AW Y<|Zn [2] ?_;refine Zx<|AJ<|Zt<|Ab<|Zt<|Ab<|Zt<|Ab<|Zt<|Ab<|Zt<|AP rfl NX Y (by exact ⟨by rw [WF B];exact congrArg Value.bool (Cl (fun h=>by first|exact J h.1|omega)).symm,rfl⟩)
     refine A7 Y V<|A7 Y V<|A7 Y V<|A7 Y V<|A7 Y V<|Zv (AL Y Y)<|Zm Y<|A7 Y V<|A7 Y V<|A7 Y V<|Zv (AL Y Y)<|Zm Y<|A7 Y V<|A7 Y V<|A7 Y V<|Zv (AL Y Y)<|Zm Y<|A7 Y V<|A7 Y V<|A7 Y V<|Zv (AL Y Y)<|AW Y<|Zn [2] ?_;refine Zx<|AJ<|Zt<|Ab<|Zt<|Ab<|Zt<|Ab<|Zt<|Ab<|Zt<|AP rfl NX Y (by exact ⟨by rw [WF B];exact congrArg Value.bool (Cl (fun h=>by first|exact J h.1|omega)).symm,rfl⟩)
    have J:¬FE q:=ab (g.symm.trans U);refine A7 Y V<|A7 Y V<|A7 Y V<|Zv (AL Y Y)<|Zm Y<|A7 Y V<|A7 Y V<|A7 Y V<|A7 Y V<|A7 Y V<|Zv (AL Y Y)<|Zm Y<|A7 Y V<|A7 Y V<|A7 Y V<|Zv (AL Y Y)<|Zm Y<|A7 Y V<|A7 Y V<|A7 Y V<|Zv (AL Y Y)<|Zm Y<|A7 Y V<|A7 Y V<|A7 Y V<|Zv (AL Y Y)<|AW Y<|Zn [2] ?_;refine Zx<|AJ<|Zt<|Ab<|Zt<|Ab<|Zt<|Ab<|Zt<|Ab<|Zt<|AP rfl NX Y (by exact ⟨by rw [WF B];exact congrArg Value.bool (Cl (fun h=>by first|exact J h.1|omega)).symm,rfl⟩)
   refine AC<|Zx<|Zq<|A1<|Zv (CP Y Y)<|A5 Y<|Aw Y (fun I=>?_) (fun I=>?_);·
    refine BD<|Zt<|Zt<|Ar V<|Zt<|AV<|Zx<|A1<|Zm Y<|Zm Y<|Ah (t:=66) Y V (fun e0=>?_) (fun e0=>?_);·
     refine Yf 6 CN V rfl AE Y<|Yl AH Y ?_;refine Xr [_,_,_] Y call68 Y V (KH _ _ _) ?_;refine Zv (AX Y Y)<|A5 Y<|Zg<|Zh 6 CN V rfl AE Y<|Xe (Zs AE Y Y V) ?_;refine Z0<|Zn [1,3] ?_;refine A8<|Zn [3,1] ?_;refine Av (e':=[(3,_)]) (by exact ⟨_,_,vc I g e0,V,V⟩)
    refine A7 Y V<|A7 Y V<|A7 Y V<|Zv (AL Y Y)<|A5 Y<|Zg<|Zh 6 CN V rfl AE Y<|Xe (Zs AE Y Y V) ?_;refine Z0<|Zn [1,3] ?_;refine A8<|Zn [3,1] ?_;refine Av (e':=[(3,_)]) (by exact ⟨_,0,vd I g e0,V,V⟩)
   refine AC<|Zx<|Zq<|Zq<|A1<|Zv (CP Y Y)<|A5 Y<|Aw Y (fun G=>?_) (fun G=>?_);·
    refine AC<|Zx<|Aw Y (fun G=>?_) (fun G=>?_);·
     refine BD<|Zt<|Zt<|Ar V<|Zt<|Ar V<|Zt<|AV<|Zn [3,1] ?_;refine Av (e':=[(3,_)]) (by exact ⟨_,_,nF A0 g,V,V⟩)
    refine AC<|Zx<|Zq<|A1<|Zv (CP Y Y)<|A5 Y<|Aw Y (fun m=>?_) (fun m=>?_);·
     refine AC<|Zx<|Aw Y (fun m=>?_) (fun m=>?_);·
      refine BD<|Zt<|Ar V<|Zt<|Ar V<|Zt<|Ar V<|Zt<|AV<|Zn [3,1] ?_;refine Av (e':=[(3,_)]) (by exact ⟨_,_,_,nK A0 g,V,V⟩)
     refine AC<|Zx<|BD<|Ar V<|Zt<|Ar V<|Zt<|Ar V<|Zt<|Ar V<|Zt<|AV<|Zx<|A1<|A5 Y<|AJ<|AP V NX Y (by exact ⟨congrArg Value.bool (Cl (Uv B I A0 A0 A0 A0 A0)).symm,V⟩)
    refine Zg<|Zv (CP Y Y)<|A5 Y<|Aw Y (fun m=>?_) (fun m=>?_);·
     refine BD<|Zt<|Ar V<|Zt<|Ar V<|Zt<|Ar V<|Zt<|AV<|Zn [3,1] ?_;refine Av (e':=[(3,_)]) (by exact ⟨_,_,_,nK A0 g,V,V⟩)
    refine AC<|Zx<|BD<|Ar V<|Zt<|Ar V<|Zt<|Ar V<|Zt<|Ar V<|Zt<|AV<|Zx<|A1<|A5 Y<|AJ<|AP V NX Y (by exact ⟨congrArg Value.bool (Cl (Uv B I A0 A0 A0 A0 A0)).symm,V⟩)
   refine A1<|Zv (CP Y Y)<|A5 Y<|Aw Y (fun G=>?_) (fun G=>?_);·
    refine AC<|Zx<|Aw Y (fun G=>?_) (fun G=>?_);·
     refine BD<|Zt<|Zt<|Ar V<|Zt<|Ar V<|Zt<|AV<|Zn [3,1] ?_;refine Av (e':=[(3,_)]) (by exact ⟨_,_,nF A0 g,V,V⟩)
    refine AC<|Zx<|Zq<|A1<|Zv (CP Y Y)<|A5 Y<|Aw Y (fun m=>?_) (fun m=>?_);·
     refine AC<|Zx<|Aw Y (fun m=>?_) (fun m=>?_);·
      refine BD<|Zt<|Ar V<|Zt<|Ar V<|Zt<|Ar V<|Zt<|AV<|Zn [3,1] ?_;refine Av (e':=[(3,_)]) (by exact ⟨_,_,_,nK A0 g,V,V⟩)
     refine AC<|Zx<|BD<|Ar V<|Zt<|Ar V<|Zt<|Ar V<|Zt<|Ar V<|Zt<|AV<|Zx<|A1<|A5 Y<|AJ<|AP V NX Y (by exact ⟨congrArg Value.bool (Cl (Uv B I A0 A0 A0 A0 A0)).symm,V⟩)
    refine Zg<|Zv (CP Y Y)<|A5 Y<|Aw Y (fun m=>?_) (fun m=>?_);·
     refine BD<|Zt<|Ar V<|Zt<|Ar V<|Zt<|Ar V<|Zt<|AV<|Zn [3,1] ?_;refine Av (e':=[(3,_)]) (by exact ⟨_,_,_,nK A0 g,V,V⟩)
    refine AC<|Zx<|BD<|Ar V<|Zt<|Ar V<|Zt<|Ar V<|Zt<|Ar V<|Zt<|AV<|Zx<|A1<|AW Y<|Zn [2] ?_;refine Zx<|AJ<|AP V NX Y (by exact ⟨congrArg Value.bool (Cl (Uv B I A0 A0 A0 A0 A0)).symm,V⟩)
   refine Zg<|Zv (CP Y Y)<|A5 Y<|Aw Y (fun G=>?_) (fun G=>?_);·
    refine BD<|Zt<|Zt<|Ar V<|Zt<|Ar V<|Zt<|AV<|Zn [3,1] ?_;refine Av (e':=[(3,_)]) (by exact ⟨_,_,nF A0 g,V,V⟩)
   refine AC<|Zx<|Zq<|A1<|Zv (CP Y Y)<|A5 Y<|Aw Y (fun m=>?_) (fun m=>?_);·
    refine AC<|Zx<|Aw Y (fun m=>?_) (fun m=>?_);·
     refine BD<|Zt<|Ar V<|Zt<|Ar V<|Zt<|Ar V<|Zt<|AV<|Zn [3,1] ?_;refine Av (e':=[(3,_)]) (by exact ⟨_,_,_,nK A0 g,V,V⟩)
    refine AC<|Zx<|BD<|Ar V<|Zt<|Ar V<|Zt<|Ar V<|Zt<|Ar V<|Zt<|AV<|Zx<|A1<|AW Y<|Zn [2] ?_;refine Zx<|AJ<|AP V NX Y (by exact ⟨congrArg Value.bool (Cl (Uv B I A0 A0 A0 A0 A0)).symm,V⟩)
   refine Zg<|Zv (CP Y Y)<|AW Y<|Zn [1,3,34] ?_;refine Zx<|Aw Y (fun m=>?_) (fun m=>?_);·
    refine BD<|Zt<|Ar V<|Zt<|Ar V<|Zt<|Ar V<|Zt<|AV<|Zn [3,1] ?_;refine Av (e':=[(3,_)]) (by exact ⟨_,_,_,nK A0 g,V,V⟩)
   refine AC<|Zx<|BD<|Ar V<|Zt<|Ar V<|Zt<|Ar V<|Zt<|Ar V<|Zt<|AV<|Zx<|A1<|A5 Y<|AJ<|AP V NX Y (by exact ⟨congrArg Value.bool (Cl (Uv B I A0 A0 A0 A0 A0)).symm,V⟩)
  rintro _ _ ⟨b,z,K,rfl,rfl⟩;refine A1<|Zm Y<|Zm Y<|Ah (t:=73) Y V (fun W=>?_) (fun W=>?_);·
   refine Yf 5 CN V rfl AE Y<|Yl AH Y ?_;refine Xr [_,_,_] Y call68 Y V (KH _ _ _) ?_;refine Zv (AX Y Y)<|A5 Y<|Zg<|Zh 5 CN V rfl AE Y<|Xe (Zs AE Y Y V) ?_;refine Z0<|A8<|Zn [3,1] ?_;refine Av (e':=[(3,_)]) (by exact ⟨_,_,_,x7 K W,V,V⟩)
  refine A7 Y V<|A7 Y V<|A7 Y V<|Zv (AL Y Y)<|A5 Y<|Zg<|Zh 5 CN V rfl AE Y<|Xe (Zs AE Y Y V) ?_;refine Z0<|A8<|Zn [3,1] ?_;refine Av (e':=[(3,_)]) (by exact ⟨_,0,z,xF K W,V,V⟩)
 rintro _ _ ⟨b,y,z,K,rfl,rfl⟩;refine Zq<|A1<|Zm Y<|Zm Y<|Ah (t:=80) Y V (fun g0=>?_) (fun g0=>?_);·
  refine Yf 5 CN V rfl AE Y<|Yl AH Y ?_;refine Yg (CP Y Y)<|Zv (AX Y Y)<|Zm Y<|Ao (t:=85) Y V (fun g1=>?_) (fun g1=>?_);·
   refine Yf 6 CN V rfl AE Y<|Yl AH Y ?_;refine Yg (CP Y Y)<|Zv (AX Y Y)<|A5 Y<|AJ<|Zt<|Ab<|Zt<|AP rfl NX Y (by exact ⟨by rw [<-K];simp [*],rfl⟩)
  refine A7 Y rfl<|A7 Y rfl<|A7 Y rfl<|Zv (AL Y Y)<|A5 Y<|AJ<|Zt<|Ab<|Zt<|AP rfl NX Y (by exact ⟨by rw [<-K];simp [*],rfl⟩)
 refine A7 Y rfl<|A7 Y rfl<|A7 Y rfl<|Zv (AL Y Y)<|Zm Y<|A7 Y rfl<|A7 Y rfl<|A7 Y rfl<|Zv (AL Y Y)<|A5 Y<|AJ<|Zt<|Ab<|Zt<|AP rfl NX Y (by exact ⟨by rw [<-K];simp [*],rfl⟩)
def Ij(p:B8)(o:Option AR)(s:List A9):Prop:=match o with
 |none=>p=none/\s=[]
 |some r=>∃b,p=some ⟨b,0,none⟩/\s=[(b,.cells r.A71 80 (0,0))]
theorem Ij.some_{p:B8}{o:Option AR}{s:List A9}(h:Ij p o s):p.isSome=o.isSome:=by
 cases o with
 |none=>rw [h.1];rfl
 |some r=>obtain ⟨b,rfl,_⟩:=h;rfl
theorem aI(q:QM)(c:Chg)(g:Bool)(v:V3):Hy q g (EN c g v)=Hy q g ⟨c.t,c.k,v⟩:=by
 cases g with
 |false=>rfl
 |true=>rfl
theorem XC{r:AR}(h:b=false\/¬(r.t=q.tb/\q.lo<=Bl r q.cl/\Bl r q.cl<=q.hi)):Hy q b r=none:=by
 unfold Hy inQ;rcases h with h|h
 · rw [h];rfl
 · rw [Cl h,Bool.and_false];rfl
theorem xP{r:AR}(h:b=true)(h2:r.t=q.tb/\q.lo<=Bl r q.cl/\Bl r q.cl<=q.hi):Hy q b r=some r:=by
 unfold Hy inQ;rw [h,DG h2];rfl
theorem I1:G5 prog 3 (fun k:Int=>I4 k) (fun _=>True):=Cf D4
theorem OT(q:QM)(G:0<=q.cl/\q.cl<=3)(B:0<=q.bq/\q.bq<=3)(bq:Nat)(r:AR)(b:Bool):BR prog 209 #[.agg r.A71,.bool b,I5 bq] [[(bq,.cells q.A72 34 (0,0))]] (fun v H'=>∃p s,v= .tuple #[.pointer p,I4 (mQ q (Hy q b r))]/\Ij p (Hy q b r) s/\H'=[s,[(bq,.cells q.A72 34 (0,0))]]):=by
 refine Se func209 ntmps209 [0,1,2] ?_;intro u R;refine A1<|Ze (Bx #[_,_,_,_,_])<|AG fun I=>Za Y<|A5 Y<|A1<|Zo Wh (AB (cs:=#[_,_,_,_,_]) D0 B3 Y B5 B0)<|Zh 2 CN V rfl AE Y<|Zl AH Y<|Xr [_,_] Y SO Y V (G8 r q.cl G)<|A5 Y<|Zq<|A1<|Zm Y<|Zv (Bt Y)<|Zm Y<|Ah (t:=14) Y V (fun m=>?_) (fun m=>?_);·
  refine A7 Y V<|A7 Y V<|A7 Y V<|A7 Y V<|A7 Y V<|Zv (AX Y Y)<|Zm Y<|A7 Y V<|A7 Y V<|A7 Y V<|A7 Y V<|Zv (AX Y Y)<|Zm Y<|A7 Y V<|A7 Y V<|A7 Y V<|A7 Y V<|Zv (AX Y Y)<|Z0<|Zn [2,3,32] ?_;refine Zx<|DT Y<|Zq<|Bc<|Zg<|Za Y<|A5 Y<|AJ<|Zt<|DJ V gn Y Y (by
   have g:Hy q b r=none:=XC (by exact .inl (by simpa using m));exact ⟨none,[],by rw [g];rfl,by rw [g];exact ⟨rfl,rfl⟩,rfl⟩)
 refine Yf 0 G1 V rfl AE Y<|Yl AH Y<|Yf 1 CN V rfl AE Y<|Yl AH Y<|Yg (Im Y Y)<|Zv (AL Y Y)<|Zm Y<|Ao (t:=21) Y V (fun h2=>?_) (fun h2=>?_);·
  refine A7 Y V<|A7 Y V<|A7 Y V<|A7 Y V<|Zv (AX Y Y)<|Zm Y<|A7 Y V<|A7 Y V<|A7 Y V<|A7 Y V<|Zv (AX Y Y)<|Z0<|Zn [2,3,32] ?_;refine Zx<|DT Y<|Zq<|Bc<|Zg<|Za Y<|A5 Y<|AJ<|Zt<|DJ V gn Y Y (by
   have g:Hy q b r=none:=XC (by exact .inr A0);exact ⟨none,[],by rw [g];rfl,by rw [g];exact ⟨rfl,rfl⟩,rfl⟩)
 refine Zf Y Y<|Yf 3 CN V rfl AE Y<|Yl AH Y<|Yg (EH Y Y)<|Zv (AL Y Y)<|Zm Y<|Ao (t:=27) Y V (fun J=>?_) (fun J=>?_);·
  refine A7 Y V<|A7 Y V<|A7 Y V<|A7 Y V<|Zv (AX Y Y)<|Z0<|Zn [2,3,32] ?_;refine Zx<|DT Y<|Zq<|Bc<|Zg<|Za Y<|A5 Y<|AJ<|Zt<|DJ V gn Y Y (by
   have g:Hy q b r=none:=XC (by exact .inr A0);exact ⟨none,[],by rw [g];rfl,by rw [g];exact ⟨rfl,rfl⟩,rfl⟩)
 refine Zf Y Y<|Yf 4 CN V rfl AE Y<|Yl AH Y<|Yg (Ed Y Y)<|Zv (AL Y Y)<|Z0<|Zn [2,3,32] ?_;refine Zx<|Aw Y (fun K=>?_) (fun K=>?_);·
  refine Zq<|Bc<|Zg<|Za Y<|A5 Y<|AJ<|Zt<|DJ V gn Y Y (by
   have g:Hy q b r=none:=XC (by exact .inr A0);exact ⟨none,[],by rw [g];rfl,by rw [g];exact ⟨rfl,rfl⟩,rfl⟩)
 refine AC<|Zx<|A1<|Zo Wh (AB (cs:=#[_,_,_,_,_]) D0 B3 Y B5 B0)<|Zh 5 CN V rfl AE Y<|Zl AH Y<|Xr [_,_] Y SO Y V (G8 r q.bq B)<|Za Y<|A5 Y<|AJ<|DJ V gn Y Y (by
  have g:Hy q b r=some r:=xP (by simpa using m) A0;exact ⟨_,_,by rw [g];rfl,by rw [g];exact ⟨I,rfl,rfl⟩,rfl⟩)
theorem VD(c:Chg):BJ prog 210 #[.agg c.A70] [] (.tuple #[.agg #[I4 (EN c c.had c.o).t,I4 (EN c c.had c.o).k,I4 (EN c c.had c.o).v.a,I4 (EN c c.had c.o).v.b,I4 (EN c c.had c.o).v.c],.bool c.had]):=by
 refine Se func210 ntmps210 [0] ?_;intro u R;refine A1<|Ze (Bx #[_,_,_,_,_,_,_,_,_,_])<|AG fun g=>Ze (Al F0 #[_,_,_,_,_])<|AG fun m=>A5 Y<|A1<|Zo Wh (AB (cs:=#[_,_,_,_,_,_,_,_,_,_]) GF CC Y B5 B0)<|Zh 2 C3 V rfl DM Y<|Zl Fk Y<|Zh 3 C3 V rfl Dg Y<|Zo Wh (AB (cs:=#[_,_,_]) HN Dg Y B5 B0)<|Xr [_,_,_] Y call173 Y V (Wv c c.had c.o)<|Zd Y V<|Zd Y V<|Xe (Xw B3 _)<|AW Y<|Zn [2,3] ?_;refine Zx<|AJ<|CL V results210 Y Wh (Au D0 B3 Wn (V)) Y (by exact ⟨V,V⟩)
set_option maxHeartbeats 1000000 in
theorem Jl(q:QM)(G:0<=q.cl/\q.cl<=3)(B:0<=q.bq/\q.bq<=3)(c:Chg):BR prog 152 #[.agg q.A72,.agg c.A70] [] (fun v H'=>∃I J s1 s2,v= .agg (q.GS c I J (mQ q (bfQ q c)) (mQ q (afQ q c)))/\Ij I (bfQ q c) s1/\Ij J (afQ q c) s2/\H'=[s1,s2]):=by
 refine Se func152 ntmps152 [0,1] ?_;intro u R;refine A1<|Ze (Bx #[_,_,_,_,_,_,_])<|AG fun bq=>Ze (Bx #[_,_,_,_,_,_,_,_,_,_])<|AG fun U=>Ze (Ey zeroValue265 (cs:=#[I4 0,I4 0,I4 0,I4 0,I4 0,I4 0,I4 0,I4 0,I4 0,.bool false,I4 0,I4 0,I4 0,.bool false,I4 0,I4 0,I4 0,.pointer none,.pointer none,I4 0,I4 0]) AF)<|AG fun X=>A6<|A1<|Zo Wh (AB (cs:=#[_,_,_,_,_,_,_]) F1 CM Y B5 B0) ?_;refine Zo Wh (AB (cs:=#[_,_,_,_,_,_,_,_,_,_]) GF CC Y B5 B0) ?_;refine Zv (BM (vs:=[(0,.agg q.A72),(1,.agg c.A70)]) (cs:=(q.GS c none none 0 0)) Y (AY (pl:=#[(0,7),(7,10),(17,1),(18,1),(19,1),(20,1)]) zeroValue265 EV (fun _=>by kernel_rfl) AF))<|Ze (Ey zeroValue265 (cs:=#[I4 0,I4 0,I4 0,I4 0,I4 0,I4 0,I4 0,I4 0,I4 0,.bool false,I4 0,I4 0,I4 0,.bool false,I4 0,I4 0,I4 0,.pointer none,.pointer none,I4 0,I4 0]) AF)<|AG fun W=>Xe (BL a8 Y Y hQ Wu (by exact EI rfl) FA B1 (by exact BC _)) ?_;refine A6<|A1<|Zv (Bg (vs:=[]) (us:=[_]) Y Y)<|A5 Y<|A1<|Zm Y<|Zo Wh (AB (cs:=#[_,_,_,_,_,_,_,_,_,_]) GF CC Y B5 B0) ?_;refine Xr [_] Y call210 Y V (VD c) ?_;refine Zd Y V<|Zd Y V<|Zc [_,_] Y call209 Y V (OT q G B bq (EN c c.had c.o) c.had) ?_;rintro _ _ ⟨_,⟨I,s1,rfl,g,rfl⟩,rfl⟩;have K:Hy q c.had (EN c c.had c.o)=bfQ q c:=aI q c c.had c.o
 rw [K]at g⊢;refine Zm Y<|Zd Y V<|Zd Y V<|Zh 17 EV V rfl LI Y<|Xe (Zs LI Y Y V (hi:=by(simp;done))) ?_;refine Zh 19 EV V rfl AE Y<|Xe (Zs AE Y Y V (hi:=by(simp;done))) ?_;refine Z0<|Zn [3,4,5,6] ?_;refine Zx<|A1<|Zm Y<|Zo Wh (AB (cs:=#[_,_,_,_,_,_,_,_,_,_]) GF CC Y B5 B0) ?_;refine Xr [_] Y call109 Y V (OW c) ?_;refine Zd Y V<|Zd Y V<|Zc [_,_] Y call209 Y V (OT q G B bq (EN c c.has c.n) c.has) ?_;rintro _ _ ⟨_,⟨J,s2,rfl,m,rfl⟩,rfl⟩;have O:Hy q c.has (EN c c.has c.n)=afQ q c:=aI q c c.has c.n
 rw [O]at m⊢;refine Zm Y<|Zd Y V<|Zd Y V<|Zh 18 EV V rfl LI Y<|Xe (Zs LI Y Y V (hi:=by(simp;done))) ?_;refine Zh 20 EV V rfl AE Y<|Xe (Zs AE Y Y V (hi:=by(simp;done))) ?_;refine Z0<|Zn [4,5] ?_;refine Zx<|A1<|Zo Wh (AB cH a8 Y B5 (by exact BN V)) ?_;refine Xe (BL a8 Y Y hQ Wu (by exact EI rfl) FA B1 (by exact BC _)) ?_;refine A6<|AJ<|D6 V results152 Y Wh (Au cH a8 Wn (BN V)) (by exact ⟨I,J,s1,s2,V,g,m,V⟩)
theorem GG(q:QM)(c:Chg)(g m:B8)(o n:Int):(Value.agg (q.GS c g m o n)).cells=(q.GS c g m o n):=by simp [Value.cells]
theorem bK(q:QM)(c:Chg)(g m:B8)(o n:Int):BJ prog 196 #[.agg (q.GS c g m o n)] [] (.bool (g.isSome||m.isSome)):=by
 refine Se func196 ntmps196 [0] ?_;intro u R;refine A1<|Ze (F5 Y (cs:=(q.GS c g m o n)) (GG q c g m o n))<|AG fun G=>A5 Y<|A1<|Zh 17 EV V rfl LI Y<|Zl O2 Y ?_;refine Zv (Fu W0 Y Y)<|Zm Y<|Ah (t:=6) Y V (fun B=>?_) (fun B=>?_);·
  refine A7 Y rfl<|A7 Y rfl<|A7 Y rfl<|Zv (AX Y Y)<|A5 Y<|AJ<|AP rfl results196 Y (by exact ⟨by first|rfl|simp [B],rfl⟩)
 refine Yf 18 EV V rfl LI Y<|Yl O2 Y ?_;refine Yg (Fu W0 Y Y)<|Zv (AL Y Y)<|A5 Y<|AJ<|AP rfl results196 Y (by exact ⟨by first|rfl|simp [B],rfl⟩)
theorem TG(q:QM)(c:Chg)(g m:B8)(o n:Int):BJ prog 198 #[.agg (q.GS c g m o n)] [] (.bool (g.isSome !=m.isSome)):=by
 refine Se func198 ntmps198 [0] ?_;intro u R;refine A1<|Ze (F5 Y (cs:=(q.GS c g m o n)) (GG q c g m o n))<|AG fun B=>A5 Y<|A1<|Zh 17 EV V rfl LI Y<|Zl O2 Y ?_;refine Zv (Nf W0 Y Y)<|Zh 18 EV V rfl LI Y<|Zl O2 Y ?_;refine Zv (Nf W0 Y Y)<|Zv (JF N6 Y Y)<|A5 Y<|AJ<|AP V results198 Y (by exact ⟨by cases g<;>cases m<;>rfl,V⟩)
theorem xw(q:QM)(c:Chg)(g m:B8)(o n:Int):BJ prog 200 #[.agg (q.GS c g m o n)] [] (.bool (decide (o≠n))):=by
 refine Se func200 ntmps200 [0] ?_;intro u R;refine A1<|Ze (F5 Y (cs:=(q.GS c g m o n)) (GG q c g m o n))<|AG fun B=>A5 Y<|A1<|Zh 19 EV rfl rfl AE Y<|Zl AH Y<|Zh 20 EV rfl rfl AE Y<|Zl AH Y<|Zv (Im Y Y)<|A5 Y<|AJ<|AP rfl results200 Y (by exact ⟨by first|rfl|simp,rfl⟩)
theorem xu(q:QM)(c:Chg)(g m:B8)(o n:Int):BJ prog 202 #[.agg (q.GS c g m o n)] [] (.bool ((g.isSome !=m.isSome)||decide (o≠n))):=by
 refine Se func202 ntmps202 [0] ?_;intro u R;refine A1<|Ze (F5 Y (cs:=(q.GS c g m o n)) (GG q c g m o n))<|AG fun G=>A5 Y<|A1<|Zo Wh (AB cH a8 Y B5 (BN V)) ?_;refine Xr [_] Y call198 Y V (TG q c g m o n) ?_;refine Zm Y<|Ah (t:=5) Y V (fun B=>?_) (fun B=>?_);·
  refine A7 Y V<|A7 Y V<|A7 Y V<|A7 Y V<|A7 Y V<|Zv (AX Y Y)<|A5 Y<|AJ<|AP V results202 Y (by exact ⟨by simp [B],V⟩)
 refine Yf 19 EV V rfl AE Y<|Yl AH Y ?_;refine Yf 20 EV V rfl AE Y<|Yl AH Y ?_;refine Yg (Im Y Y)<|Zv (AL Y Y)<|A5 Y<|AJ<|AP V results202 Y (by exact ⟨by simp [B],V⟩)
theorem xq(q:QM)(c:Chg)(g m:B8)(o n:Int):BJ prog 205 #[.agg (q.GS c g m o n)] [] (.bool ((g.isSome !=m.isSome)||decide (o≠n))):=by
 refine Se func205 ntmps205 [0] ?_;intro u R;refine A1<|Ze (F5 Y (cs:=(q.GS c g m o n)) (GG q c g m o n))<|AG fun G=>A5 Y<|A1<|Zo Wh (AB cH a8 Y B5 (BN V)) ?_;refine Xr [_] Y call198 Y V (TG q c g m o n) ?_;refine Zm Y<|Ah (t:=5) Y V (fun B=>?_) (fun B=>?_);·
  refine A7 Y V<|A7 Y V<|A7 Y V<|A7 Y V<|A7 Y V<|Zv (AX Y Y)<|A5 Y<|AJ<|AP V results205 Y (by exact ⟨by simp [B],V⟩)
 refine Yf 19 EV V rfl AE Y<|Yl AH Y ?_;refine Yf 20 EV V rfl AE Y<|Yl AH Y ?_;refine Yg (Im Y Y)<|Zv (AL Y Y)<|A5 Y<|AJ<|AP V results205 Y (by exact ⟨by simp [B],V⟩)
theorem xn(q:QM)(c:Chg)(g m:B8)(o n:Int):BJ prog 207 #[.agg (q.GS c g m o n)] [] (.bool ((g.isSome||m.isSome)||decide (c.t=q.ot))):=by
 refine Se func207 ntmps207 [0] ?_;intro u R;refine A1<|Ze (F5 Y (cs:=(q.GS c g m o n)) (GG q c g m o n))<|AG fun G=>A5 Y<|A1<|Zo Wh (AB cH a8 Y B5 (BN V))<|Xr [_] Y call196 Y V (bK q c g m o n)<|Zm Y<|Ah (t:=5) Y V (fun B=>?_) (fun B=>?_);·
  refine A7 Y V<|A7 Y V<|A7 Y V<|A7 Y V<|A7 Y V<|A7 Y V<|A7 Y V<|Zv (AX Y Y)<|AW Y<|Zn [2] ?_;refine Zx<|AJ<|AP V results207 Y (by exact ⟨by simp [B],V⟩)
 refine Yf 7 EV V rfl CC Y<|Yg (Ap (off:=0) C3 V rfl AE Y)<|Yl AH Y<|Yf 0 EV V rfl CM Y<|Yg (Ap (off:=6) CN V rfl AE Y)<|Yl AH Y<|Yg (CP Y Y)<|Zv (AL Y Y)<|AW Y<|Zn [2] ?_;refine Zx<|AJ<|AP V results207 Y (by exact ⟨by simp [B],V⟩)
end Go.Proofs.YthhakdmlpngcmaaGreatDoor
