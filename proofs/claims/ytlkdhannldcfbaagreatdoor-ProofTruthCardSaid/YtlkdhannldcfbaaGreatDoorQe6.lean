/- query.Valid. -/
import Derived.Test.YtlkdhannldcfbaaGreatDoorQe1
set_option linter.unusedVariables false
set_option linter.unusedSimpArgs false
namespace Go.Proofs.YtlkdhannldcfbaaGreatDoor
open Go.Proofs.Tryz
open Go Go.RowKit Gw
set_option maxRecDepth 100000
attribute [local irreducible] Gw.At Gw.Nx Gw.Ops
def FV(q:QM):Prop:=(0<=q.tb/\q.tb<=3)/\(0<=q.cl/\q.cl<=3)/\(-1000000000<=q.lo/\q.lo<=q.hi/\q.hi<=1000000000)
instance(q:QM):Decidable (FV q):=by unfold FV;infer_instance
def Po(q:QM):Prop:=1<=q.bq/\q.bq<=3
instance(q:QM):Decidable (Po q):=by unfold Po;infer_instance
variable{q:QM}
theorem y7(h:q.kd=1):BS q↔FV q/\q.cl=0/\q.lo=q.hi/\(1<=q.lo/\q.lo<=1000000)/\q.bq=0/\q.ot=0:=by unfold BS FV;omega
theorem xz(h:q.kd=2\/q.kd=3):BS q↔FV q/\q.bq=0/\q.ot=0:=by unfold BS FV;omega
theorem xy(h:q.kd=4\/q.kd=5\/q.kd=6):BS q↔FV q/\Po q/\q.ot=0:=by unfold BS FV Po;omega
theorem xx(h:q.kd=7):BS q↔FV q/\(0<=q.ot/\q.ot<=3)/\Po q:=by unfold BS FV Po;omega
theorem WA(h:q.kd=1):decide (BS q)=decide (FV q/\q.cl=0/\q.lo=q.hi/\(1<=q.lo/\q.lo<=1000000)/\q.bq=0/\q.ot=0):=decide_eq_decide.2 (y7 h)
theorem ym(h:q.kd=2\/q.kd=3):decide (BS q)=decide (FV q/\q.bq=0/\q.ot=0):=decide_eq_decide.2 (xz h)
theorem yl(h:q.kd=4\/q.kd=5\/q.kd=6):decide (BS q)=decide (FV q/\Po q/\q.ot=0):=decide_eq_decide.2 (xy h)
theorem wJ(h:q.kd=7):decide (BS q)=decide (FV q/\(0<=q.ot/\q.ot<=3)/\Po q):=decide_eq_decide.2 (xx h)
theorem Uq(h:¬q.kd=1)(I:¬q.kd=7)(m:¬q.kd=4)(E:¬q.kd=5)(G:¬q.kd=6)(h2:¬q.kd=2)(g:¬q.kd=3):¬BS q:=by unfold BS;omega
variable{b0:Bool}
theorem xR(h:q.kd=4\/q.kd=5\/q.kd=6)(g:b0=decide (FV q)):((b0&&decide (Po q))&&decide (q.ot=0))=decide (BS q):=by
 rw [yl h,g];simp [Bool.and_assoc]
theorem kT(h:q.kd=2\/q.kd=3)(g:b0=decide (FV q)):((b0&&decide (q.bq=0))&&decide (q.ot=0))=decide (BS q):=by
 rw [ym h,g];simp [Bool.and_assoc]
theorem yV(h:q.kd=7)(g:b0=decide (FV q))(e0:b0=true):((decide (0<=q.ot/\q.ot<=3)&&decide (Po q))&&decide ((0:Int)=0))=decide (BS q):=by
 have m:FV q:=HH (g.symm.trans e0);rw [wJ h];simp [m]
theorem yX{x y:Bool}(h:q.kd=7)(g:b0=decide (FV q))(e0:b0=false):((false&&x)&&y)=decide (BS q):=by
 have m:¬FV q:=N2 (g.symm.trans e0);rw [wJ h];simp [m]
variable{b:Bool}
theorem zP{z:Int}(g:((b&&decide (Po q))&&decide (z=0))=decide (BS q))(e:b=true):((decide (1<=q.bq/\q.bq<=3)&&decide ((0:Int)=0))&&decide (z=0))=decide (BS q):=by
 rw [<-g,e,show decide (Po q)=decide (1<=q.bq/\q.bq<=3) from decide_eq_decide.2 Iff.rfl];simp only [To,decide_true,cR]
theorem zQ{x y:Bool}{z:Int}(g:((b&&decide (Po q))&&decide (z=0))=decide (BS q))(e:b=false):((false&&x)&&y)=decide (BS q):=by
 rw [<-g,e];simp
theorem Kn(n lo hi:Int):BC prog 77 #[I4 n,I4 lo,I4 hi] [] (.bool (decide (lo<=n/\n<=hi))):=by
 refine Se func77 ntmps77 [0,1,2] ?_;intro u R;refine A1<|A3 Y<|A1<|Zm Y<|Zm Y<|Zv (I1 Y Y)<|Zm Y<|Ai (t:=10) Y V (fun g=>?_) (fun g=>?_);·
  refine Zf Y Y<|Zf Y Y<|Yg (KI Y Y)<|Zv (AR Y Y)<|A3 Y<|AA<|AC V results77 Y (by exact ⟨by simp [g],V⟩)
 refine A7 Y V<|A7 Y V<|A7 Y V<|Zv (AL Y Y)<|A3 Y<|AA<|AC V results77 Y (by exact ⟨by simp [g],V⟩)
theorem KC(q:QM):BC prog 33 #[.agg q.Ao6] [] (.bool (decide (BS q))):=by
 refine Se func33 ntmps33 [0] ?_;intro u R;refine A1<|Ze (Bx #[_,_,_,_,_,_,_])<|AF fun O=>A3 Y<|Zb [1] ?_;refine CL (e0:=[]) (H0:=[]) (fun e H=>∃(b0:Bool),(b0=decide (FV q))/\e=[(3,.bool b0)]/\H=[]) Wp ?hx_1 ?hy_1
 case hx_1=>
  refine Zg<|Zh 1 CN V rfl A5 Y<|Zl AE Y ?_;refine Xr [_,_,_] Y call77 Y V (Kn _ _ _) ?_;refine Zm Y<|Ai (t:=7) Y V (fun X=>?_) (fun X=>?_);·
   refine Yf 2 CN V rfl A5 Y<|Yl AE Y ?_;refine Xr [_,_,_] Y call77 Y V (Kn _ _ _) ?_;refine Zv (AR Y Y)<|Zm Y<|Ai (t:=12) Y V (fun Z=>?_) (fun Z=>?_);·
    refine Yf 3 CN V rfl A5 Y<|Yl AE Y ?_;refine Yf 4 CN V rfl A5 Y<|Yl AE Y ?_;refine Xr [_,_,_] Y call77 Y V (Kn _ _ _) ?_;refine Zv (AR Y Y)<|Zm Y<|Ai (t:=19) Y V (fun a3=>?_) (fun a3=>?_);·
     refine Yf 4 CN V rfl A5 Y<|Yl AE Y ?_;refine Yg (KI Y Y)<|Zv (AR Y Y)<|AH Y<|Zn [3,1] ?_;refine Aq (e':=[(3,_)]) (by exact ⟨_,by unfold FV;exact decide_eq_decide.2 A0,V,V⟩)
    refine A7 Y V<|A7 Y V<|A7 Y V<|Zv (AL Y Y)<|AH Y<|Zn [3,1] ?_;refine Aq (e':=[(3,_)]) (by exact ⟨_,by unfold FV;exact (Bm A0).symm,V,V⟩)
   refine A7 Y V<|A7 Y V<|A7 Y V<|A7 Y V<|A7 Y V<|Zv (AL Y Y)<|Zm Y<|A7 Y V<|A7 Y V<|A7 Y V<|Zv (AL Y Y)<|AH Y<|Zn [3,1] ?_;refine Aq (e':=[(3,_)]) (by exact ⟨_,by unfold FV;exact (Bm A0).symm,V,V⟩)
  refine A7 Y V<|A7 Y V<|A7 Y V<|Zv (AL Y Y)<|Zm Y<|A7 Y V<|A7 Y V<|A7 Y V<|A7 Y V<|A7 Y V<|Zv (AL Y Y)<|Zm Y<|A7 Y V<|A7 Y V<|A7 Y V<|Zv (AL Y Y)<|AH Y<|Zn [3,1] ?_;refine Aq (e':=[(3,_)]) (by exact ⟨_,by unfold FV;exact (Bm A0).symm,V,V⟩)
 rintro _ _ ⟨b0,g,rfl,rfl⟩;refine Zq<|A1<|Zh 0 CN V rfl A5 Y<|Zl AE Y ?_;refine AD<|AX<|Zb [3,25,1] ?_;refine CL (e0:=[(3,_),(25,_)]) (H0:=[[(O,_)]]) (fun e H=>∃(b:Bool) (y z:Int),(((b&&decide (y=0))&&decide (z=0))=decide (BS q))/\e=[(3,.bool b)]/\H=[[(O,.cells #[I4 q.kd,I4 q.tb,I4 q.cl,I4 q.lo,I4 q.hi,I4 y,I4 z] 30 (0,0))]]) Wp ?hx_6 ?hy_6
 case hx_6=>
  refine AX<|Zb [3,25,1] ?_;refine CL (e0:=[(3,_),(25,_)]) (H0:=[[(O,_)]]) (fun e H=>∃(b:Bool) (z:Int),(((b&&decide (Po q))&&decide (z=0))=decide (BS q))/\e=[(3,.bool b)]/\H=[[(O,.cells #[I4 q.kd,I4 q.tb,I4 q.cl,I4 q.lo,I4 q.hi,I4 q.bq,I4 z] 30 (0,0))]]) Wp ?hx_7 ?hy_7
  case hx_7=>
   refine AX<|Zq<|AX<|Zq<|AX<|Zq<|Zq<|A1<|Zv (Br Y Y)<|A3 Y<|Ak Y (fun E=>?_) (fun E=>?_);·
    refine Aw<|Zt<|Zt<|AQ<|Zx<|Zq<|A1<|Zm Y<|Zm Y<|Ah (t:=38) Y V (fun U=>?_) (fun U=>?_);·
     have J:FV q:=HH (g.symm.trans U);refine Yf 2 CN V rfl A5 Y<|Yl AE Y ?_;refine Yg (Br Y Y)<|Zv (AR Y Y)<|Zm Y<|Ai (t:=43) Y V (fun c1=>?_) (fun c1=>?_);·
      refine Yf 3 CN V rfl A5 Y<|Yl AE Y ?_;refine Yf 4 CN V rfl A5 Y<|Yl AE Y ?_;refine Yg (Br Y Y)<|Zv (AR Y Y)<|Zm Y<|Ai (t:=50) Y V (fun c2=>?_) (fun c2=>?_);·
       refine Yf 3 CN V rfl A5 Y<|Yl AE Y ?_;refine Xr [_,_,_] Y call77 Y V (Kn _ _ _) ?_;refine Zv (AR Y Y)<|Zm Y<|Ai (t:=55) Y V (fun c3=>?_) (fun c3=>?_);·
        refine Yf 5 CN V rfl A5 Y<|Yl AE Y ?_;refine Yg (Br Y Y)<|Zv (AR Y Y)<|Zm Y<|Ai (t:=60) Y V (fun c4=>?_) (fun c4=>?_);·
         refine Yf 6 CN V rfl A5 Y<|Yl AE Y ?_;refine Yg (Br Y Y)<|Zv (AR Y Y)<|AH Y<|Zn [2] ?_;refine Zx<|AA<|Zt<|Ab<|Zt<|Ab<|Zt<|Ab<|Zt<|Ab<|Zt<|AC rfl N0 Y (by exact ⟨by rw [WA E];exact congrArg Value.bool (decide_eq_decide.2 ⟨fun h=>⟨J,by omega⟩,fun h=>by omega⟩),rfl⟩)
        refine A7 Y V<|A7 Y V<|A7 Y V<|Zv (AL Y Y)<|AH Y<|Zn [2] ?_;refine Zx<|AA<|Zt<|Ab<|Zt<|Ab<|Zt<|Ab<|Zt<|Ab<|Zt<|AC rfl N0 Y (by exact ⟨by rw [WA E];exact congrArg Value.bool (Bm (fun h=>by first|exact J h.1|omega)).symm,rfl⟩)
       refine A7 Y V<|A7 Y V<|A7 Y V<|Zv (AL Y Y)<|Zm Y<|A7 Y V<|A7 Y V<|A7 Y V<|Zv (AL Y Y)<|AH Y<|Zn [2] ?_;refine Zx<|AA<|Zt<|Ab<|Zt<|Ab<|Zt<|Ab<|Zt<|Ab<|Zt<|AC rfl N0 Y (by exact ⟨by rw [WA E];exact congrArg Value.bool (Bm (fun h=>by first|exact J h.1|omega)).symm,rfl⟩)
      refine A7 Y V<|A7 Y V<|A7 Y V<|Zv (AL Y Y)<|Zm Y<|A7 Y V<|A7 Y V<|A7 Y V<|Zv (AL Y Y)<|Zm Y<|A7 Y V<|A7 Y V<|A7 Y V<|Zv (AL Y Y)<|AH Y<|Zn [2] ?_;refine Zx<|AA<|Zt<|Ab<|Zt<|Ab<|Zt<|Ab<|Zt<|Ab<|Zt<|AC rfl N0 Y (by exact ⟨by rw [WA E];exact congrArg Value.bool (Bm (fun h=>by first|exact J h.1|omega)).symm,rfl⟩)
     refine A7 Y V<|A7 Y V<|A7 Y V<|A7 Y V<|A7 Y V<|Zv (AL Y Y)<|Zm Y<|A7 Y V<|A7 Y V<|A7 Y V<|Zv (AL Y Y)<|Zm Y<|A7 Y V<|A7 Y V<|A7 Y V<|Zv (AL Y Y)<|Zm Y<|A7 Y V<|A7 Y V<|A7 Y V<|Zv (AL Y Y)<|AH Y<|Zn [2] ?_;refine Zx<|AA<|Zt<|Ab<|Zt<|Ab<|Zt<|Ab<|Zt<|Ab<|Zt<|AC rfl N0 Y (by exact ⟨by rw [WA E];exact congrArg Value.bool (Bm (fun h=>by first|exact J h.1|omega)).symm,rfl⟩)
    have J:¬FV q:=N2 (g.symm.trans U);refine A7 Y V<|A7 Y V<|A7 Y V<|Zv (AL Y Y)<|Zm Y<|A7 Y V<|A7 Y V<|A7 Y V<|A7 Y V<|A7 Y V<|Zv (AL Y Y)<|Zm Y<|A7 Y V<|A7 Y V<|A7 Y V<|Zv (AL Y Y)<|Zm Y<|A7 Y V<|A7 Y V<|A7 Y V<|Zv (AL Y Y)<|Zm Y<|A7 Y V<|A7 Y V<|A7 Y V<|Zv (AL Y Y)<|AH Y<|Zn [2] ?_;refine Zx<|AA<|Zt<|Ab<|Zt<|Ab<|Zt<|Ab<|Zt<|Ab<|Zt<|AC rfl N0 Y (by exact ⟨by rw [WA E];exact congrArg Value.bool (Bm (fun h=>by first|exact J h.1|omega)).symm,rfl⟩)
   refine AB<|Zx<|Zq<|A1<|Zv (Br Y Y)<|A3 Y<|Ak Y (fun I=>?_) (fun I=>?_);·
    refine Aw<|Zt<|Zt<|Az V<|Zt<|AQ<|Zx<|A1<|Zm Y<|Zm Y<|Ah (t:=66) Y V (fun e0=>?_) (fun e0=>?_);·
     refine Yf 6 CN V rfl A5 Y<|Yl AE Y ?_;refine Xr [_,_,_] Y call77 Y V (Kn _ _ _) ?_;refine Zv (AR Y Y)<|A3 Y<|Zg<|Zh 6 CN V rfl A5 Y<|Xe (Zs A5 Y Y V) ?_;refine Z0<|Zn [1,3] ?_;refine A8<|Zn [3,1] ?_;refine Aq (e':=[(3,_)]) (by exact ⟨_,_,yV I g e0,V,V⟩)
    refine A7 Y V<|A7 Y V<|A7 Y V<|Zv (AL Y Y)<|A3 Y<|Zg<|Zh 6 CN V rfl A5 Y<|Xe (Zs A5 Y Y V) ?_;refine Z0<|Zn [1,3] ?_;refine A8<|Zn [3,1] ?_;refine Aq (e':=[(3,_)]) (by exact ⟨_,0,yX I g e0,V,V⟩)
   refine AB<|Zx<|Zq<|Zq<|A1<|Zv (Br Y Y)<|A3 Y<|Ak Y (fun G=>?_) (fun G=>?_);·
    refine AB<|Zx<|Ak Y (fun G=>?_) (fun G=>?_);·
     refine Aw<|Zt<|Zt<|Az V<|Zt<|Az V<|Zt<|AQ<|Zn [3,1] ?_;refine Aq (e':=[(3,_)]) (by exact ⟨_,_,xR A0 g,V,V⟩)
    refine AB<|Zx<|Zq<|A1<|Zv (Br Y Y)<|A3 Y<|Ak Y (fun m=>?_) (fun m=>?_);·
     refine AB<|Zx<|Ak Y (fun m=>?_) (fun m=>?_);·
      refine Aw<|Zt<|Az V<|Zt<|Az V<|Zt<|Az V<|Zt<|AQ<|Zn [3,1] ?_;refine Aq (e':=[(3,_)]) (by exact ⟨_,_,_,kT A0 g,V,V⟩)
     refine AB<|Zx<|Aw<|Az V<|Zt<|Az V<|Zt<|Az V<|Zt<|Az V<|Zt<|AQ<|Zx<|A1<|A3 Y<|AA<|AC V N0 Y (by exact ⟨congrArg Value.bool (Bm (Uq E I A0 A0 A0 A0 A0)).symm,V⟩)
    refine Zg<|Zv (Br Y Y)<|A3 Y<|Ak Y (fun m=>?_) (fun m=>?_);·
     refine Aw<|Zt<|Az V<|Zt<|Az V<|Zt<|Az V<|Zt<|AQ<|Zn [3,1] ?_;refine Aq (e':=[(3,_)]) (by exact ⟨_,_,_,kT A0 g,V,V⟩)
    refine AB<|Zx<|Aw<|Az V<|Zt<|Az V<|Zt<|Az V<|Zt<|Az V<|Zt<|AQ<|Zx<|A1<|A3 Y<|AA<|AC V N0 Y (by exact ⟨congrArg Value.bool (Bm (Uq E I A0 A0 A0 A0 A0)).symm,V⟩)
   refine A1<|Zv (Br Y Y)<|A3 Y<|Ak Y (fun G=>?_) (fun G=>?_);·
    refine AB<|Zx<|Ak Y (fun G=>?_) (fun G=>?_);·
     refine Aw<|Zt<|Zt<|Az V<|Zt<|Az V<|Zt<|AQ<|Zn [3,1] ?_;refine Aq (e':=[(3,_)]) (by exact ⟨_,_,xR A0 g,V,V⟩)
    refine AB<|Zx<|Zq<|A1<|Zv (Br Y Y)<|A3 Y<|Ak Y (fun m=>?_) (fun m=>?_);·
     refine AB<|Zx<|Ak Y (fun m=>?_) (fun m=>?_);·
      refine Aw<|Zt<|Az V<|Zt<|Az V<|Zt<|Az V<|Zt<|AQ<|Zn [3,1] ?_;refine Aq (e':=[(3,_)]) (by exact ⟨_,_,_,kT A0 g,V,V⟩)
     refine AB<|Zx<|Aw<|Az V<|Zt<|Az V<|Zt<|Az V<|Zt<|Az V<|Zt<|AQ<|Zx<|A1<|A3 Y<|AA<|AC V N0 Y (by exact ⟨congrArg Value.bool (Bm (Uq E I A0 A0 A0 A0 A0)).symm,V⟩)
    refine Zg<|Zv (Br Y Y)<|A3 Y<|Ak Y (fun m=>?_) (fun m=>?_);·
     refine Aw<|Zt<|Az V<|Zt<|Az V<|Zt<|Az V<|Zt<|AQ<|Zn [3,1] ?_;refine Aq (e':=[(3,_)]) (by exact ⟨_,_,_,kT A0 g,V,V⟩)
    refine AB<|Zx<|Aw<|Az V<|Zt<|Az V<|Zt<|Az V<|Zt<|Az V<|Zt<|AQ<|Zx<|A1<|AH Y<|Zn [2] ?_;refine Zx<|AA<|AC V N0 Y (by exact ⟨congrArg Value.bool (Bm (Uq E I A0 A0 A0 A0 A0)).symm,V⟩)
   refine Zg<|Zv (Br Y Y)<|A3 Y<|Ak Y (fun G=>?_) (fun G=>?_);·
    refine Aw<|Zt<|Zt<|Az V<|Zt<|Az V<|Zt<|AQ<|Zn [3,1] ?_;refine Aq (e':=[(3,_)]) (by exact ⟨_,_,xR A0 g,V,V⟩)
   refine AB<|Zx<|Zq<|A1<|Zv (Br Y Y)<|A3 Y<|Ak Y (fun m=>?_) (fun m=>?_);·
    refine AB<|Zx<|Ak Y (fun m=>?_) (fun m=>?_);·
     refine Aw<|Zt<|Az V<|Zt<|Az V<|Zt<|Az V<|Zt<|AQ<|Zn [3,1] ?_;refine Aq (e':=[(3,_)]) (by exact ⟨_,_,_,kT A0 g,V,V⟩)
    refine AB<|Zx<|Aw<|Az V<|Zt<|Az V<|Zt<|Az V<|Zt<|Az V<|Zt<|AQ<|Zx<|A1<|AH Y<|Zn [2] ?_;refine Zx<|AA<|AC V N0 Y (by exact ⟨congrArg Value.bool (Bm (Uq E I A0 A0 A0 A0 A0)).symm,V⟩)
   refine Zg<|Zv (Br Y Y)<|AH Y<|Zn [1,3,34] ?_;refine Zx<|Ak Y (fun m=>?_) (fun m=>?_);·
    refine Aw<|Zt<|Az V<|Zt<|Az V<|Zt<|Az V<|Zt<|AQ<|Zn [3,1] ?_;refine Aq (e':=[(3,_)]) (by exact ⟨_,_,_,kT A0 g,V,V⟩)
   refine AB<|Zx<|Aw<|Az V<|Zt<|Az V<|Zt<|Az V<|Zt<|Az V<|Zt<|AQ<|Zx<|A1<|A3 Y<|AA<|AC V N0 Y (by exact ⟨congrArg Value.bool (Bm (Uq E I A0 A0 A0 A0 A0)).symm,V⟩)
  rintro _ _ ⟨b,z,K,rfl,rfl⟩;refine A1<|Zm Y<|Zm Y<|Ah (t:=73) Y V (fun W=>?_) (fun W=>?_);·
   refine Yf 5 CN V rfl A5 Y<|Yl AE Y ?_;refine Xr [_,_,_] Y call77 Y V (Kn _ _ _) ?_;refine Zv (AR Y Y)<|A3 Y<|Zg<|Zh 5 CN V rfl A5 Y<|Xe (Zs A5 Y Y V) ?_;refine Z0<|A8<|Zn [3,1] ?_;refine Aq (e':=[(3,_)]) (by exact ⟨_,_,_,zP K W,V,V⟩)
  refine A7 Y V<|A7 Y V<|A7 Y V<|Zv (AL Y Y)<|A3 Y<|Zg<|Zh 5 CN V rfl A5 Y<|Xe (Zs A5 Y Y V) ?_;refine Z0<|A8<|Zn [3,1] ?_;refine Aq (e':=[(3,_)]) (by exact ⟨_,0,z,zQ K W,V,V⟩)
 rintro _ _ ⟨b,y,z,K,rfl,rfl⟩;refine Zq<|A1<|Zm Y<|Zm Y<|Ah (t:=80) Y V (fun g0=>?_) (fun g0=>?_);·
  refine Yf 5 CN V rfl A5 Y<|Yl AE Y ?_;refine Yg (Br Y Y)<|Zv (AR Y Y)<|Zm Y<|Ai (t:=85) Y V (fun g1=>?_) (fun g1=>?_);·
   refine Yf 6 CN V rfl A5 Y<|Yl AE Y ?_;refine Yg (Br Y Y)<|Zv (AR Y Y)<|A3 Y<|AA<|Zt<|Ab<|Zt<|AC rfl N0 Y (by exact ⟨by rw [<-K];simp [*],rfl⟩)
  refine A7 Y rfl<|A7 Y rfl<|A7 Y rfl<|Zv (AL Y Y)<|A3 Y<|AA<|Zt<|Ab<|Zt<|AC rfl N0 Y (by exact ⟨by rw [<-K];simp [*],rfl⟩)
 refine A7 Y rfl<|A7 Y rfl<|A7 Y rfl<|Zv (AL Y Y)<|Zm Y<|A7 Y rfl<|A7 Y rfl<|A7 Y rfl<|Zv (AL Y Y)<|A3 Y<|AA<|Zt<|Ab<|Zt<|AC rfl N0 Y (by exact ⟨by rw [<-K];simp [*],rfl⟩)
def JI(p:B7)(o:Option AY)(s:List AU):Prop:=match o with
 |none=>p=none/\s=[]
 |some r=>∃b,p=some ⟨b,0,none⟩/\s=[(b,.cells r.Ao5 98 (0,0))]
variable{p:B7}
theorem JI.some_{o:Option AY}{s:List AU}(h:JI p o s):p.isSome=o.isSome:=by
 cases o with
 |none=>rw [h.1];rfl
 |some r=>obtain ⟨b,rfl,_⟩:=h;rfl
theorem ZL(q:QM)(c:Chg)(g:Bool)(v:V3):J3 q g (Eo c g v)=J3 q g ⟨c.t,c.k,v⟩:=by
 cases g with
 |false=>rfl
 |true=>rfl
variable{r:AY}
theorem X7(h:b=false\/¬(r.t=q.tb/\q.lo<=Bh r q.cl/\Bh r q.cl<=q.hi)):J3 q b r=none:=by
 unfold J3 inQ;rcases h with h|h
 · rw [h];rfl
 · rw [Bm h,Bool.and_false];rfl
theorem uN(h:b=true)(h2:r.t=q.tb/\q.lo<=Bh r q.cl/\Bh r q.cl<=q.hi):J3 q b r=some r:=by
 unfold J3 inQ;rw [h,CA h2];rfl
theorem IW:JB prog 3 (fun k:Int=>I4 k) (fun _=>True):=qF F0
theorem Oq(q:QM)(G:0<=q.cl/\q.cl<=3)(E:0<=q.bq/\q.bq<=3)(bq:Nat)(r:AY)(b:Bool):Bz prog 217 #[.agg r.Ao5,.bool b,I5 bq] [[(bq,.cells q.Ao6 30 (0,0))]] (fun v H'=>∃p s,v= .tuple #[.pointer p,I4 (mQ q (J3 q b r))]/\JI p (J3 q b r) s/\H'=[s,[(bq,.cells q.Ao6 30 (0,0))]]):=by
 refine Se func217 ntmps217 [0,1,2] ?_;intro u R;refine A1<|Ze (Bx #[_,_,_,_,_])<|AF fun I=>Za Y<|A3 Y<|A1<|Zo Wh (A9 (cs:=#[_,_,_,_,_]) C7 Ax Y B5 An)<|Zh 2 CN V rfl A5 Y<|Zl AE Y<|Xr [_,_] Y Q2 Y V (GU r q.cl G)<|A3 Y<|Zq<|A1<|Zm Y<|Zv (Cj Y)<|Zm Y<|Ah (t:=14) Y V (fun m=>?_) (fun m=>?_);·
  refine A7 Y V<|A7 Y V<|A7 Y V<|A7 Y V<|A7 Y V<|Zv (AR Y Y)<|Zm Y<|A7 Y V<|A7 Y V<|A7 Y V<|A7 Y V<|Zv (AR Y Y)<|Zm Y<|A7 Y V<|A7 Y V<|A7 Y V<|A7 Y V<|Zv (AR Y Y)<|Z0<|Zn [2,3,32] ?_;refine Zx<|CQ Y<|Zq<|Bl<|Zg<|Za Y<|A3 Y<|AA<|Zt<|Dv V eh Y Y (by
   have g:J3 q b r=none:=X7 (by exact .inl (by simpa using m));exact ⟨none,[],by rw [g];rfl,by rw [g];exact ⟨rfl,rfl⟩,rfl⟩)
 refine Yf 0 Ds V rfl A5 Y<|Yl AE Y<|Yf 1 CN V rfl A5 Y<|Yl AE Y<|Yg (IC Y Y)<|Zv (AL Y Y)<|Zm Y<|Ai (t:=21) Y V (fun h2=>?_) (fun h2=>?_);·
  refine A7 Y V<|A7 Y V<|A7 Y V<|A7 Y V<|Zv (AR Y Y)<|Zm Y<|A7 Y V<|A7 Y V<|A7 Y V<|A7 Y V<|Zv (AR Y Y)<|Z0<|Zn [2,3,32] ?_;refine Zx<|CQ Y<|Zq<|Bl<|Zg<|Za Y<|A3 Y<|AA<|Zt<|Dv V eh Y Y (by
   have g:J3 q b r=none:=X7 (by exact .inr A0);exact ⟨none,[],by rw [g];rfl,by rw [g];exact ⟨rfl,rfl⟩,rfl⟩)
 refine Zf Y Y<|Yf 3 CN V rfl A5 Y<|Yl AE Y<|Yg (ET Y Y)<|Zv (AL Y Y)<|Zm Y<|Ai (t:=27) Y V (fun J=>?_) (fun J=>?_);·
  refine A7 Y V<|A7 Y V<|A7 Y V<|A7 Y V<|Zv (AR Y Y)<|Z0<|Zn [2,3,32] ?_;refine Zx<|CQ Y<|Zq<|Bl<|Zg<|Za Y<|A3 Y<|AA<|Zt<|Dv V eh Y Y (by
   have g:J3 q b r=none:=X7 (by exact .inr A0);exact ⟨none,[],by rw [g];rfl,by rw [g];exact ⟨rfl,rfl⟩,rfl⟩)
 refine Zf Y Y<|Yf 4 CN V rfl A5 Y<|Yl AE Y<|Yg (EI Y Y)<|Zv (AL Y Y)<|Z0<|Zn [2,3,32] ?_;refine Zx<|Ak Y (fun K=>?_) (fun K=>?_);·
  refine Zq<|Bl<|Zg<|Za Y<|A3 Y<|AA<|Zt<|Dv V eh Y Y (by
   have g:J3 q b r=none:=X7 (by exact .inr A0);exact ⟨none,[],by rw [g];rfl,by rw [g];exact ⟨rfl,rfl⟩,rfl⟩)
 refine AB<|Zx<|A1<|Zo Wh (A9 (cs:=#[_,_,_,_,_]) C7 Ax Y B5 An)<|Zh 5 CN V rfl A5 Y<|Zl AE Y<|Xr [_,_] Y Q2 Y V (GU r q.bq E)<|Za Y<|A3 Y<|AA<|Dv V eh Y Y (by
  have g:J3 q b r=some r:=uN (by simpa using m) A0;exact ⟨_,_,by rw [g];rfl,by rw [g];exact ⟨I,rfl,rfl⟩,rfl⟩)
theorem jJ(c:Chg):BC prog 218 #[.agg c.Ao4] [] (.tuple #[.agg #[I4 (Eo c c.had c.o).t,I4 (Eo c c.had c.o).k,I4 (Eo c c.had c.o).v.a,I4 (Eo c c.had c.o).v.b,I4 (Eo c c.had c.o).v.c],.bool c.had]):=by
 refine Se func218 ntmps218 [0] ?_;intro u R;refine A1<|Ze (Bx #[_,_,_,_,_,_,_,_,_,_])<|AF fun g=>Ze (Al Dd #[_,_,_,_,_])<|AF fun m=>A3 Y<|A1<|Zo Wh (A9 (cs:=#[_,_,_,_,_,_,_,_,_,_]) GC C5 Y B5 An)<|Zh 2 B9 V rfl Cl Y<|Zl DH Y<|Zh 3 B9 V rfl CD Y<|Zo Wh (A9 (cs:=#[_,_,_]) HB CD Y B5 An)<|Xr [_,_,_] Y call145 Y V (We c c.had c.o)<|Zd Y V<|Zd Y V<|Xe (Xw Ax _)<|AH Y<|Zn [2,3] ?_;refine Zx<|AA<|CJ V results218 Y Wh (Ar C7 Ax Wn (V)) Y (by exact ⟨V,V⟩)
set_option maxHeartbeats 1000000 in
theorem KN(q:QM)(G:0<=q.cl/\q.cl<=3)(E:0<=q.bq/\q.bq<=3)(c:Chg):Bz prog 183 #[.agg q.Ao6,.agg c.Ao4] [] (fun v H'=>∃I J s1 s2,v= .agg (q.GO c I J (mQ q (bfQ q c)) (mQ q (afQ q c)))/\JI I (bfQ q c) s1/\JI J (afQ q c) s2/\H'=[s1,s2]):=by
 refine Se func183 ntmps183 [0,1] ?_;intro u R;refine A1<|Ze (Bx #[_,_,_,_,_,_,_])<|AF fun bq=>Ze (Bx #[_,_,_,_,_,_,_,_,_,_])<|AF fun U=>Ze (ND zeroValue262 (cs:=#[I4 0,I4 0,I4 0,I4 0,I4 0,I4 0,I4 0,I4 0,I4 0,.bool false,I4 0,I4 0,I4 0,.bool false,I4 0,I4 0,I4 0,.pointer none,.pointer none,I4 0,I4 0]) AG)<|AF fun X=>AD<|A1<|Zo Wh (A9 (cs:=#[_,_,_,_,_,_,_]) F2 CM Y B5 An) ?_;refine Zo Wh (A9 (cs:=#[_,_,_,_,_,_,_,_,_,_]) GC C5 Y B5 An) ?_;refine Zv (BQ (vs:=[(0,.agg q.Ao6),(1,.agg c.Ao4)]) (cs:=(q.GO c none none 0 0)) Y (Aa (pl:=#[(0,7),(7,10),(17,1),(18,1),(19,1),(20,1)]) zeroValue262 E7 (fun _=>by kernel_rfl) AG))<|Ze (ND zeroValue262 (cs:=#[I4 0,I4 0,I4 0,I4 0,I4 0,I4 0,I4 0,I4 0,I4 0,.bool false,I4 0,I4 0,I4 0,.bool false,I4 0,I4 0,I4 0,.pointer none,.pointer none,I4 0,I4 0]) AG)<|AF fun W=>Xe (BN Ss Y Y XS Wu (by exact DD rfl) Ek AK (by exact BU _)) ?_;refine AD<|A1<|Zv (Bt (vs:=[]) (us:=[_]) Y Y)<|A3 Y<|A1<|Zm Y<|Zo Wh (A9 (cs:=#[_,_,_,_,_,_,_,_,_,_]) GC C5 Y B5 An) ?_;refine Xr [_] Y call218 Y V (jJ c) ?_;refine Zd Y V<|Zd Y V<|Zc [_,_] Y call217 Y V (Oq q G E bq (Eo c c.had c.o) c.had) ?_;rintro _ _ ⟨_,⟨I,s1,rfl,g,rfl⟩,rfl⟩;have K:J3 q c.had (Eo c c.had c.o)=bfQ q c:=ZL q c c.had c.o
 rw [K]at g⊢;refine Zm Y<|Zd Y V<|Zd Y V<|Zh 17 E7 V rfl L4 Y<|Xe (Zs L4 Y Y V (hi:=by(simp;done))) ?_;refine Zh 19 E7 V rfl A5 Y<|Xe (Zs A5 Y Y V (hi:=by(simp;done))) ?_;refine Z0<|Zn [3,4,5,6] ?_;refine Zx<|A1<|Zm Y<|Zo Wh (A9 (cs:=#[_,_,_,_,_,_,_,_,_,_]) GC C5 Y B5 An) ?_;refine Xr [_] Y call76 Y V (SK c) ?_;refine Zd Y V<|Zd Y V<|Zc [_,_] Y call217 Y V (Oq q G E bq (Eo c c.has c.n) c.has) ?_;rintro _ _ ⟨_,⟨J,s2,rfl,m,rfl⟩,rfl⟩;have O:J3 q c.has (Eo c c.has c.n)=afQ q c:=ZL q c c.has c.n
 rw [O]at m⊢;refine Zm Y<|Zd Y V<|Zd Y V<|Zh 18 E7 V rfl L4 Y<|Xe (Zs L4 Y Y V (hi:=by(simp;done))) ?_;refine Zh 20 E7 V rfl A5 Y<|Xe (Zs A5 Y Y V (hi:=by(simp;done))) ?_;refine Z0<|Zn [4,5] ?_;refine Zx<|A1<|Zo Wh (A9 Wr Ss Y B5 (by exact BA V)) ?_;refine Xe (BN Ss Y Y XS Wu (by exact DD rfl) Ek AK (by exact BU _)) ?_;refine AD<|AA<|DI V results183 Y Wh (Ar Wr Ss Wn (BA V)) (by exact ⟨I,J,s1,s2,V,g,m,V⟩)
theorem Gd(q:QM)(c:Chg)(g m:B7)(o n:Int):(Value.agg (q.GO c g m o n)).cells=(q.GO c g m o n):=by simp [Value.cells]
theorem ae(q:QM)(c:Chg)(g m:B7)(o n:Int):BC prog 204 #[.agg (q.GO c g m o n)] [] (.bool (g.isSome||m.isSome)):=by
 refine Se func204 ntmps204 [0] ?_;intro u R;refine A1<|Ze (Ik Y (cs:=(q.GO c g m o n)) (Gd q c g m o n))<|AF fun G=>A3 Y<|A1<|Zh 17 E7 V rfl L4 Y<|Zl N1 Y ?_;refine Zv (GI S3 Y Y)<|Zm Y<|Ah (t:=6) Y V (fun E=>?_) (fun E=>?_);·
  refine A7 Y rfl<|A7 Y rfl<|A7 Y rfl<|Zv (AR Y Y)<|A3 Y<|AA<|AC rfl results204 Y (by exact ⟨by first|rfl|simp [E],rfl⟩)
 refine Yf 18 E7 V rfl L4 Y<|Yl N1 Y ?_;refine Yg (GI S3 Y Y)<|Zv (AL Y Y)<|A3 Y<|AA<|AC rfl results204 Y (by exact ⟨by first|rfl|simp [E],rfl⟩)
theorem TH(q:QM)(c:Chg)(g m:B7)(o n:Int):BC prog 206 #[.agg (q.GO c g m o n)] [] (.bool (g.isSome !=m.isSome)):=by
 refine Se func206 ntmps206 [0] ?_;intro u R;refine A1<|Ze (Ik Y (cs:=(q.GO c g m o n)) (Gd q c g m o n))<|AF fun E=>A3 Y<|A1<|Zh 17 E7 V rfl L4 Y<|Zl N1 Y ?_;refine Zv (OC S3 Y Y)<|Zh 18 E7 V rfl L4 Y<|Zl N1 Y ?_;refine Zv (OC S3 Y Y)<|Zv (Lm On Y Y)<|A3 Y<|AA<|AC V results206 Y (by exact ⟨by cases g<;>cases m<;>rfl,V⟩)
theorem uo(q:QM)(c:Chg)(g m:B7)(o n:Int):BC prog 208 #[.agg (q.GO c g m o n)] [] (.bool (decide (o≠n))):=by
 refine Se func208 ntmps208 [0] ?_;intro u R;refine A1<|Ze (Ik Y (cs:=(q.GO c g m o n)) (Gd q c g m o n))<|AF fun E=>A3 Y<|A1<|Zh 19 E7 rfl rfl A5 Y<|Zl AE Y<|Zh 20 E7 rfl rfl A5 Y<|Zl AE Y<|Zv (IC Y Y)<|A3 Y<|AA<|AC rfl results208 Y (by exact ⟨by first|rfl|simp,rfl⟩)
theorem um(q:QM)(c:Chg)(g m:B7)(o n:Int):BC prog 210 #[.agg (q.GO c g m o n)] [] (.bool ((g.isSome !=m.isSome)||decide (o≠n))):=by
 refine Se func210 ntmps210 [0] ?_;intro u R;refine A1<|Ze (Ik Y (cs:=(q.GO c g m o n)) (Gd q c g m o n))<|AF fun G=>A3 Y<|A1<|Zo Wh (A9 Wr Ss Y B5 (BA V)) ?_;refine Xr [_] Y call206 Y V (TH q c g m o n) ?_;refine Zm Y<|Ah (t:=5) Y V (fun E=>?_) (fun E=>?_);·
  refine A7 Y V<|A7 Y V<|A7 Y V<|A7 Y V<|A7 Y V<|Zv (AR Y Y)<|A3 Y<|AA<|AC V results210 Y (by exact ⟨by simp [E],V⟩)
 refine Yf 19 E7 V rfl A5 Y<|Yl AE Y ?_;refine Yf 20 E7 V rfl A5 Y<|Yl AE Y ?_;refine Yg (IC Y Y)<|Zv (AL Y Y)<|A3 Y<|AA<|AC V results210 Y (by exact ⟨by simp [E],V⟩)
theorem ul(q:QM)(c:Chg)(g m:B7)(o n:Int):BC prog 213 #[.agg (q.GO c g m o n)] [] (.bool ((g.isSome !=m.isSome)||decide (o≠n))):=by
 refine Se func213 ntmps213 [0] ?_;intro u R;refine A1<|Ze (Ik Y (cs:=(q.GO c g m o n)) (Gd q c g m o n))<|AF fun G=>A3 Y<|A1<|Zo Wh (A9 Wr Ss Y B5 (BA V)) ?_;refine Xr [_] Y call206 Y V (TH q c g m o n) ?_;refine Zm Y<|Ah (t:=5) Y V (fun E=>?_) (fun E=>?_);·
  refine A7 Y V<|A7 Y V<|A7 Y V<|A7 Y V<|A7 Y V<|Zv (AR Y Y)<|A3 Y<|AA<|AC V results213 Y (by exact ⟨by simp [E],V⟩)
 refine Yf 19 E7 V rfl A5 Y<|Yl AE Y ?_;refine Yf 20 E7 V rfl A5 Y<|Yl AE Y ?_;refine Yg (IC Y Y)<|Zv (AL Y Y)<|A3 Y<|AA<|AC V results213 Y (by exact ⟨by simp [E],V⟩)
theorem uk(q:QM)(c:Chg)(g m:B7)(o n:Int):BC prog 215 #[.agg (q.GO c g m o n)] [] (.bool ((g.isSome||m.isSome)||decide (c.t=q.ot))):=by
 refine Se func215 ntmps215 [0] ?_;intro u R;refine A1<|Ze (Ik Y (cs:=(q.GO c g m o n)) (Gd q c g m o n))<|AF fun G=>A3 Y<|A1<|Zo Wh (A9 Wr Ss Y B5 (BA V))<|Xr [_] Y call204 Y V (ae q c g m o n)<|Zm Y<|Ah (t:=5) Y V (fun E=>?_) (fun E=>?_);·
  refine A7 Y V<|A7 Y V<|A7 Y V<|A7 Y V<|A7 Y V<|A7 Y V<|A7 Y V<|Zv (AR Y Y)<|AH Y<|Zn [2] ?_;refine Zx<|AA<|AC V results215 Y (by exact ⟨by simp [E],V⟩)
 refine Yf 7 E7 V rfl C5 Y<|Yg (Aj (off:=0) B9 V rfl A5 Y)<|Yl AE Y<|Yf 0 E7 V rfl CM Y<|Yg (Aj (off:=6) CN V rfl A5 Y)<|Yl AE Y<|Yg (Br Y Y)<|Zv (AL Y Y)<|AH Y<|Zn [2] ?_;refine Zx<|AA<|AC V results215 Y (by exact ⟨by simp [E],V⟩)
def Mq(b5 b6:Nat):List (Int×A4):=[(1,.agg #[.func (.func 204) #[] #[],.func (.func 205) #[] #[]]),(2,.agg #[.func (.func 204) #[] #[],.func (.func 205) #[] #[]]),(3,.agg #[.func (.func 206) #[] #[],.func (.func 207) #[] #[]]),(4,.agg #[.func (.func 208) #[] #[],.func (.func 209) #[] #[]]),(5,.agg #[.func (.func 210) #[] #[],.func (.func 233) #[] #[I5 b5]]),(6,.agg #[.func (.func 213) #[] #[],.func (.func 233) #[] #[I5 b6]]),(7,.agg #[.func (.func 215) #[] #[],.func (.func 216) #[] #[]])]
variable{lm:List (Int×A4)}{k:Int}{v:A4}
theorem ZB{g m:Nat}(h:∀p,p∈lm↔p∈Mq g m)(hn:(lm.map (·.1)).Nodup)(E:(k,v)∈Mq g m):JR k lm=some v:=J5 hn ((h _).2 E)
def IE(k:Int):Nat:=if k=1 then 204 else if k=2 then 204 else if k=3 then 206 else if k=4 then 208 else if k=5 then 210 else if k=6 then 213 else 215
theorem pV{g m:Nat}(h:∀p,p∈lm↔p∈Mq g m)(hn:(lm.map (·.1)).Nodup)(E:1<=k/\k<=7):∃pf,JR k lm=some (.agg #[.func (.func (IE k)) #[] #[],pf]):=by
 obtain h9|h9|h9|h9|h9|h9|h9:k=1\/k=2\/k=3\/k=4\/k=5\/k=6\/k=7:=by omega
 all_goals subst h9
 all_goals exact ⟨_,ZB h hn (by simp [Mq,IE];rfl)⟩
theorem PT(v:A4)(g:v.oneCell'=true)(hc:v.cells=#[v]):Bz prog 211 #[v] [] (fun r H'=>∃b,r= .func (.func 233) #[] #[I5 b]/\H'=[[(b,.cells #[v] 154 (0,0))]]):=by
 refine Se func211 ntmps211 [0] ?_;intro u R;refine A1<|Ze (Ik Y (cs:=#[v]) hc)<|AF fun b=>A3 Y<|A1<|Zv (Bt (vs:=[]) (us:=[_]) Y Y)<|A3 Y<|AA<|AC V results211 Y (by exact ⟨b,V,V⟩)
theorem OJ:Bz prog 182 #[] [] (fun v H'=>∃b es ck lm g m,v= .map (some b)/\FH (fun k:Int=>I4 k) es ck lm/\(∀p,p∈lm↔p∈Mq g m)/\H'=[[(b,.map es ck)],[(g,.cells #[.func (.func 212) #[] #[]] 154 (0,0))],[(m,.cells #[.func (.func 214) #[] #[]] 154 (0,0))]]):=by
 refine Se func182 ntmps182 [] ?_;intro u R;refine A1<|A3 Y<|A1<|Ze (Pt)<|AF fun mb=>Zv (BQ (vs:=[(0,.func (.func 204) #[] #[]),(1,.func (.func 205) #[] #[])]) (cs:=#[.func (.func 204) #[] #[],.func (.func 205) #[] #[]]) Y (Aa (pl:=#[(0,1),(1,1)]) Sp Sf (fun _=>by kernel_rfl) AG))<|Ze (Jc IW Sh (TM _) (fun _ _=>trivial) (trivial) Y Y Y Wo) ?_;rintro _ _ ⟨rfl,l8,ek,p8,I,Z,rfl⟩;refine Zv (BQ (vs:=[(0,.func (.func 204) #[] #[]),(1,.func (.func 205) #[] #[])]) (cs:=#[.func (.func 204) #[] #[],.func (.func 205) #[] #[]]) Y (Aa (pl:=#[(0,1),(1,1)]) Sp Sf (fun _=>by kernel_rfl) AG))<|Ze (Jc IW Sh I (fun _ _=>trivial) (trivial) Y Y Y Wo) ?_;rintro _ _ ⟨rfl,l9,gm,p9,J,af,rfl⟩;refine Zv (BQ (vs:=[(0,.func (.func 206) #[] #[]),(1,.func (.func 207) #[] #[])]) (cs:=#[.func (.func 206) #[] #[],.func (.func 207) #[] #[]]) Y (Aa (pl:=#[(0,1),(1,1)]) Sp Sf (fun _=>by kernel_rfl) AG))<|Ze (Jc IW Sh J (fun _ _=>trivial) (trivial) Y Y Y Wo) ?_;rintro _ _ ⟨rfl,lv,gq,pg,K,ax,rfl⟩;refine Zv (BQ (vs:=[(0,.func (.func 208) #[] #[]),(1,.func (.func 209) #[] #[])]) (cs:=#[.func (.func 208) #[] #[],.func (.func 209) #[] #[]]) Y (Aa (pl:=#[(0,1),(1,1)]) Sp Sf (fun _=>by kernel_rfl) AG))<|Ze (Jc IW Sh K (fun _ _=>trivial) (trivial) Y Y Y Wo) ?_;rintro _ _ ⟨rfl,mR,gy,pq,O,bf,rfl⟩;refine Zc [_] Y call211 Y V (PT (.func (.func 212) #[] #[]) V rfl) ?_;rintro _ _ ⟨_,⟨g,rfl,rfl⟩,rfl⟩;refine Zv (BQ (vs:=[(0,.func (.func 210) #[] #[]),(1,.func (.func 233) #[] #[I5 g])]) (cs:=#[.func (.func 210) #[] #[],.func (.func 233) #[] #[I5 g]]) Y (Aa (pl:=#[(0,1),(1,1)]) Sp Sf (fun _=>by kernel_rfl) AG))<|Ze (Jc IW Sh O (fun _ _=>trivial) (trivial) Y Y Y Wo) ?_;rintro _ _ ⟨rfl,o8,kv,pz,U,bn,rfl⟩;refine Zc [_] Y call211 Y V (PT (.func (.func 214) #[] #[]) V rfl) ?_;rintro _ _ ⟨_,⟨m,rfl,rfl⟩,rfl⟩
 refine Zv (BQ (vs:=[(0,.func (.func 213) #[] #[]),(1,.func (.func 233) #[] #[I5 m])]) (cs:=#[.func (.func 213) #[] #[],.func (.func 233) #[] #[I5 m]]) Y (Aa (pl:=#[(0,1),(1,1)]) Sp Sf (fun _=>by kernel_rfl) AG))<|Ze (Jc IW Sh U (fun _ _=>trivial) (trivial) Y Y Y Wo) ?_;rintro _ _ ⟨rfl,o9,kz,q8,W,cu,rfl⟩;refine Zv (BQ (vs:=[(0,.func (.func 215) #[] #[]),(1,.func (.func 216) #[] #[])]) (cs:=#[.func (.func 215) #[] #[],.func (.func 216) #[] #[]]) Y (Aa (pl:=#[(0,1),(1,1)]) Sp Sf (fun _=>by kernel_rfl) AG))<|Ze (Jc IW Sh W (fun _ _=>trivial) (trivial) Y Y Y Wo) ?_;rintro _ _ ⟨rfl,G,E,d9,X,cO,rfl⟩;refine Zm Y<|AH Y<|Zn [0] ?_;refine Zx<|AA<|AC V results182 Y (by
  refine ⟨mb,G,E,d9,g,m,V,X,fun p=>?_,V⟩;rw [cO,cu,bn,bf,ax,af,Z];simp only [Mq,E4,Mu,N3,false_and];constructor;· rintro (rfl|⟨rfl|⟨rfl|⟨rfl|⟨rfl|⟨rfl|⟨rfl,-⟩,-⟩,-⟩,-⟩,-⟩,-⟩)<;>simp
  · rintro (h|h|h|h|h|h|h)<;>subst h<;>simp)
theorem dW(q:QM)(c:Chg)(hq:BS q){g m:B7}{s1 s2:List AU}(W:JI g (bfQ q c) s1)(h2:JI m (afQ q c) s2):BC prog (IE q.kd) #[.agg (q.GO c g m (mQ q (bfQ q c)) (mQ q (afQ q c)))] [] (.bool (EA q c)):=by
 have O:=W.some_;have U:=h2.some_
 have Z:q.kd=1\/q.kd=2\/q.kd=3\/q.kd=4\/q.kd=5\/q.kd=6\/q.kd=7:=by have:=hq.2.2.2;omega
 have E:=ae q c g m (mQ q (bfQ q c)) (mQ q (afQ q c));have K:=TH q c g m (mQ q (bfQ q c)) (mQ q (afQ q c))
 have X:=uo q c g m (mQ q (bfQ q c)) (mQ q (afQ q c));have G:=um q c g m (mQ q (bfQ q c)) (mQ q (afQ q c))
 have I:=ul q c g m (mQ q (bfQ q c)) (mQ q (afQ q c));have J:=uk q c g m (mQ q (bfQ q c)) (mQ q (afQ q c))
 rw [O,U]at E K G I J;rcases Z with h|h|h|h|h|h|h
 · rw [show IE q.kd=204 by rw [h];rfl,show EA q c=Xd q c by unfold EA;rw [B0 A0]];exact E
 · rw [show IE q.kd=204 by rw [h];rfl,show EA q c=Xd q c by unfold EA;rw [B0 A0]];exact E
 · rw [show IE q.kd=206 by rw [h];rfl,show EA q c=Yy q c by unfold EA;rw [As A0,B0 A0]];exact K
 · rw [show IE q.kd=208 by rw [h];rfl,show EA q c=decide (mQ q (bfQ q c)≠mQ q (afQ q c)) by unfold EA;rw [As A0,As A0,B0 A0]];exact X
 · rw [show IE q.kd=210 by rw [h];rfl,show EA q c=(Yy q c||decide (mQ q (bfQ q c)≠mQ q (afQ q c))) by unfold EA;rw [As A0,As A0,As A0,B0 A0]];exact G
 · rw [show IE q.kd=213 by rw [h];rfl,show EA q c=(Yy q c||decide (mQ q (bfQ q c)≠mQ q (afQ q c))) by unfold EA;rw [As A0,As A0,As A0,B0 A0]];exact I
 · rw [show IE q.kd=215 by rw [h];rfl,show EA q c=(Xd q c||decide (c.t=q.ot)) by unfold EA;rw [As A0,As A0,As A0,As A0]];exact J
theorem kK(g:1<=k/\k<=7):∀(args:AN) (w:A6),(callFunc (IE k) args).run prog w= .ok (.enter (IE k) args) w:=by
 obtain h|h|h|h|h|h|h:k=1\/k=2\/k=3\/k=4\/k=5\/k=6\/k=7:=by omega
 all_goals (subst h;simp only [IE];first|exact call204|exact call206|exact call208|exact call210|exact call213|exact call215)
theorem BS.kind(h:BS q):1<=q.kd/\q.kd<=7:=by have:=h.2.2.2;omega
theorem Od(q:QM)(c:Chg):BC prog 157 #[.agg q.Ao6,.agg c.Ao4] [] (.bool (decide (BS q)&&(decide c.ok&&EA q c))):=by
 refine Se func157 ntmps157 [0,1] ?_;intro u R;refine A1<|Ze (Bx #[_,_,_,_,_,_,_])<|AF fun pq=>Ze (Bx #[_,_,_,_,_,_,_,_,_,_])<|AF fun pc=>A3 Y<|Zq<|BJ (n:=18) (0::1::3::7::15::31::63::127::127::383::1023::2047::127::127::12543::32767::65535::131071::[]) 49298 AG AG V<|Fc 0 V Wh (A9 (cs:=#[_,_,_,_,_,_,_]) F2 CM Y B5 An)<|Yw 1 3 V (Zu [_] Y call33 Y V (KC q))<|C3<|A2 2 V (AJ Y)<|Ck (t:=7) Y (fun g=>?_) (fun g=>?_);·
  rw [g];refine D4 3 V Wh (A9 (cs:=#[_,_,_,_,_,_,_,_,_,_]) GC C5 Y B5 An)<|Yw 4 31 V (Zu [_] Y call176 Y V (V4 c))<|C3<|A2 5 V (AR Y Y)<|A2 6 V (AJ Y)<|Ck (t:=11) Y (fun h2=>?_) (fun h2=>?_);·
   rw [h2];refine B1 8 V (AV (off:=0) CN V rfl A5 Y)<|D4 9 V Wh (Bj AE Y An)<|D4 12 V Wh (A9 (cs:=#[_,_,_,_,_,_,_]) F2 CM Y B5 An)<|D4 13 V Wh (A9 (cs:=#[_,_,_,_,_,_,_,_,_,_]) GC C5 Y B5 An)<|Zz (l:=[7])<|BE [true,true,true] [(13,(_,_)),(12,(_,_)),(9,(_,_))] V rfl (Zw [] Y call182 Y V (OJ)) ?_ Co Ay;rintro _ _ ⟨_,⟨X,es,W,lm,O,U,rfl,J,K,rfl⟩,rfl⟩;refine ⟨Zk (Zk (Zk (Ae))),?_⟩;have E:BS q:=HH g
   obtain ⟨pf,m⟩:=pV K J.keys E.kind;refine D4 10 rfl Wh (QR IW Sh Sp J (fun _ _=>trivial) (trivial) ((by rw [m];exact rfl:_=Value.agg #[.func (.func (IE q.kd)) #[] #[],pf])) Y Y)<|B1 11 rfl (X6 Sf rfl isAgg254 Y rfl)<|Zz (l:=[14])<|BE [true,false,false,true] [(10,(_,_)),(9,(_,_))] rfl rfl (Zw [_,_] Y call183 Y rfl (KN q E.2.1 (by have:=E.2.2.2;omega) c)) ?_ Co Ay;rintro _ _ ⟨_,⟨Z,p2,s1,s2,rfl,G,I,rfl⟩,rfl⟩;refine BT<|Yw 15 65535 V (Zu [_] Y (kK E.kind) Y V (dW q c E G I))<|C3<|A2 16 V (AR Y Y)<|A2 17 V (BF Y)<|Ao<|Zn [4] ?_;refine Zx<|AA<|AC V results157 Y (by exact ⟨by simp [g,h2],V⟩)
  rw [h2];refine AW 7 V<|AW 8 V<|AW 9 V<|AW 10 V<|AW 11 V<|AW 12 V<|AW 13 V<|AW 14 V<|AW 15 V<|A2 16 V (AL Y Y)<|A2 17 V (BF Y)<|Ao<|Zn [4] ?_;refine Zx<|AA<|AC V results157 Y (by exact ⟨by simp [g,h2],V⟩)
 rw [g];refine AW 3 V<|AW 4 V<|A2 5 V (AL Y Y)<|A2 6 V (AJ Y)<|AW 7 V<|AW 8 V<|AW 9 V<|AW 10 V<|AW 11 V<|AW 12 V<|AW 13 V<|AW 14 V<|AW 15 V<|A2 16 V (AL Y Y)<|A2 17 V (BF Y)<|Ao<|Zn [4] ?_;refine Zx<|AA<|AC V results157 Y (by exact ⟨by simp [g],V⟩)
def ivQ(n:Int):A4:=I4 n
theorem jK(e:AM)(g c:Nat)(z:A4)(h:c<=maxLen):BZ 1 e (I6 g 0 c) 0 [] [(g,.cells (List.replicate c z).toArray e (0,0))]:=⟨rfl,.inr ⟨g,c,_,(0,0),rfl,rfl,C2 _,h,by simp,by simp,BU _⟩⟩
variable{rows:List AY}{i:Nat}
theorem kD(h:rows[i]?=some r):Cy q (rows.take (i+1))=Cy q (rows.take i)++[Bh r q.bq]:=by
 unfold Cy;rw [C8 h,Dg];rfl
theorem LC(q:QM)(rows:List AY):(Cy q rows).length=rows.length:=by unfold Cy;rw [zu]
theorem uX(h:rows[i]?=some r):(Cy q rows)[i]?=some (Bh r q.bq):=by unfold Cy;rw [FG,h];rfl
variable{M:List AU}
theorem eD(hv:Da M v rows){X:Int}{O:Bool}(st:Nat->Int×Bool)(h0:st 0=(X,O))(E:Nat)(us:List A4)(J:∀(args:AN) (w:A6),(callFunc E args).run prog w= .ok (.enter E args) w)(hf:∀(i:Nat) (r:AY),rows[i]?=some r->BC prog E (.agg #[.slice none 0 0,I4 (st i).1,.bool (st i).2]:: .agg r.Ao5::us).toArray [M] (.agg #[.slice none 0 0,I4 (st (i+1)).1,.bool (st (i+1)).2])):BC prog 78 #[v,.agg #[.slice none 0 0,I4 X,.bool O],.func (.func E) #[] us.toArray] [M] (.agg #[.slice none 0 0,I4 (st rows.length).1,.bool (st rows.length).2]):=by
 have ax:=mL;obtain ⟨p,cap,rfl,⟨hl,af⟩,hg⟩:=id hv;refine Se func78 ntmps78 [0,1,2] ?_;intro u R;refine A1<|Ze (Bx #[_,_,_])<|AF fun Z=>Ze (Al GW #[_,_,_])<|AF fun re=>AD<|Zq<|A1<|Zm Y<|Zv (AP B4 Y)<|Zm Y<|AD<|AX<|Zb [11,2,4,6,9,10] ?_;refine BB (e0:=[(11,_)]) (fun m e H=>∃(i:Nat),m=rows.length -i/\(i<=rows.length)/\e=[(11,I4 (i:Int))]/\H=[[(Z,.cells #[.slice none 0 0,I4 (st i).1,.bool (st i).2] 38 (0,0))]]) (by exact ⟨0,rfl,C2 _,rfl,by rw [h0]⟩) Wp ?_;rintro _ _ _ ⟨i,rfl,hi,rfl,rfl⟩;refine A1<|Zv (Au Y Y)<|AD<|Zq<|Ak Y (fun I=>?_) (fun I=>?_);·
  obtain ⟨r,U⟩:∃r,rows[i]?=some r:=⟨_,zn I⟩;obtain ⟨g,off,cur,T,zz,rfl,K,W,G⟩:=hg i r U;refine AB<|Zx<|Zq<|AX<|A1<|Ap (AO B4 Ax Y Y A0)<|Ca (cs:=[(g,.cells cur T zz)]) (by simp [K]) (A9 (cs:=r.Ao5) C7 Ax Y A0 G) V rfl<|Ze (Al Dd #[_,_,_,_,_])<|AF fun rb=>Xe (Xw Ax r.Ao5)<|AD<|Zg<|Zm Y<|Zo Wh (A9 (cs:=#[_,_,_]) CC B6 Y B5 An)<|Zo Wh (A9 (cs:=#[_,_,_,_,_]) C7 Ax Y B5 An)<|Xr [_,_] Y (J) Y rfl (hf i r U)<|Xe (BN B6 Y Y HU Wu (by exact (rfl:_=(#[.slice none 0 0,I4 (st (i+1)).1,.bool (st (i+1)).2]:AN))) Ek B5 (by exact BU _))<|Z0<|A8<|Zx<|Zg<|Ya (n:=1) Y Y<|Zm Y<|Z0<|Zn [11,2,4,6,9,10] ?_;refine AZ (e':=[(11,_)]) (by exact ⟨i+1,V,by omega,V,V⟩)
 have ei:i=rows.length:=by omega
 subst ei;refine Aw<|Zt<|Zt<|AQ<|Zx<|A1<|Zo Wh (A9 (cs:=#[_,_,_]) CC B6 Y B5 An)<|Xe (Xw B6 _)<|AD<|AA<|DI V results78 Y Wh (Ar CC B6 Wn (V)) (by exact ⟨V,V⟩)
theorem Te{cap:Nat}{ms:List Int}(hc:GR M p (ms.map ivQ))(hl:ms.length<=maxLen)(af:ms.length<=cap){W:Int}{U:Bool}(st:Nat->Int×Bool)(h0:st 0=(W,U))(E:Nat)(us:List A4)(K:∀(args:AN) (w:A6),(callFunc E args).run prog w= .ok (.enter E args) w)(hf:∀(i:Nat) (x:Int),ms[i]?=some x->BC prog E (.agg #[.slice none 0 0,I4 (st i).1,.bool (st i).2]::I4 x::us).toArray [M] (.agg #[.slice none 0 0,I4 (st (i+1)).1,.bool (st (i+1)).2])):BC prog 80 #[.slice p ms.length cap,.agg #[.slice none 0 0,I4 W,.bool U],.func (.func E) #[] us.toArray] [M] (.agg #[.slice none 0 0,I4 (st ms.length).1,.bool (st ms.length).2]):=by
 have ax:=mL;refine Se func80 ntmps80 [0,1,2] ?_;intro u R;refine A1<|Ze (Bx #[_,_,_])<|AF fun X=>Ze (Al GW #[_,_,_])<|AF fun re=>AD<|Zq<|A1<|Zm Y<|Zv (AP Fi Y)<|Zm Y<|AD<|AX<|Zb [11,2,4,6,9,10] ?_;refine BB (e0:=[(11,_)]) (fun m e H=>∃(i:Nat),m=ms.length -i/\(i<=ms.length)/\e=[(11,I4 (i:Int))]/\H=[[(X,.cells #[.slice none 0 0,I4 (st i).1,.bool (st i).2] 38 (0,0))]]) (by exact ⟨0,rfl,C2 _,rfl,by rw [h0]⟩) Wp ?_;rintro _ _ _ ⟨i,rfl,hi,rfl,rfl⟩;refine A1<|Zv (Au Y Y)<|AD<|Zq<|Ak Y (fun J=>?_) (fun J=>?_);·
  obtain ⟨x,hx⟩:∃x,ms[i]?=some x:=⟨_,zn J⟩;obtain ⟨g,off,cur,T,zz,rfl,O,I⟩:=hc i (ivQ x) (by rw [FG,hx];rfl);have G:cur[off+i]?=some (I4 x):=I
  refine AB<|Zx<|Zq<|AX<|A1<|Ap (BP Fi A5 Y Y CT)<|Ca (cs:=[(g,.cells cur T zz)]) (by simp [O]) (Bj AE Y G) rfl rfl<|A3 Y<|Zg<|Zm Y<|Zo Wh (A9 (cs:=#[_,_,_]) CC B6 Y B5 An)<|Zm Y<|Xr [_,_] Y (K) Y rfl (hf i x hx)<|Xe (BN B6 Y Y HU Wu (by exact (rfl:_=(#[.slice none 0 0,I4 (st (i+1)).1,.bool (st (i+1)).2]:AN))) Ek B5 (by exact BU _))<|Z0<|A8<|Zx<|Zg<|Ya (n:=1) Y Y<|Zm Y<|Z0<|Zn [11,2,4,6,9,10] ?_;refine AZ (e':=[(11,_)]) (by exact ⟨i+1,V,by omega,V,V⟩)
 have Z:i=ms.length:=by omega
 subst Z;refine Aw<|Zt<|Zt<|AQ<|Zx<|A1<|Zo Wh (A9 (cs:=#[_,_,_]) CC B6 Y B5 An)<|Xe (Xw B6 _)<|AD<|AA<|DI V results80 Y Wh (Ar CC B6 Wn (V)) (by exact ⟨V,V⟩)
theorem NR(hv:Da M v rows)(q:QM)(O:0<=q.bq/\q.bq<=3)(hb:rows.length<=1000000000000):Bz prog 81 #[.agg q.Ao6,v] [M] (fun r H'=>∃s,BZ 1 3 r (Cy q rows).length ((Cy q rows).map ivQ) s/\H'=[s,M]):=by
 have bn:=mL;obtain ⟨p,cap,rfl,⟨hl,bf⟩,hg⟩:=id hv;refine Se func81 ntmps81 [0,1] ?_;intro u R;refine A1<|Ze (Bx #[_,_,_,_,_,_,_])<|AF fun bq=>A3 Y<|A1<|Zm Y<|Zv (AP B4 Y)<|Ze (Gy (by_:=8) (l:=0) Fi (V:Tryz.prog.info? 3=some Tryz.t3) V rfl V rfl Y Y ?_ ?_ ?_) ?_
 (focus (omega))
 (focus (omega))
 (focus (omega))
 rintro _ _ ⟨mk,rfl,rfl⟩;refine A3 Y<|Zq<|A1<|Zm Y<|Zv (AP B4 Y)<|Zm Y<|AD<|AX<|Zb [5,13,2,11,12] ?_;refine BB (e0:=[(5,_),(13,_)]) (fun m e H=>∃(i:Nat) (W:A4) (K:List AU),m=rows.length -i/\(i<=rows.length/\BZ 1 3 W i ((Cy q (rows.take i)).map ivQ) K)/\e=[(5,W),(13,I4 (i:Int))]/\H=[K]) (by exact ⟨0,_,_,rfl,⟨C2 _,by rw [Hj];exact jK _ _ _ (I4 0) A0⟩,rfl,rfl⟩) Wp ?_;rintro _ _ _ ⟨i,W,K,rfl,⟨hi,G⟩,rfl,rfl⟩;obtain ⟨qo,co,rfl⟩:=G.form;refine A1<|Zv (Au Y Y)<|AD<|Zq<|Ak Y (fun J=>?_) (fun J=>?_);·
  obtain ⟨r,X⟩:∃r,rows[i]?=some r:=⟨_,zn J⟩;obtain ⟨g,off,cur,T,zz,rfl,U,Z,I⟩:=hg i r X;refine AB<|Zx<|Zq<|AX<|A1<|Ap (AO B4 Ax Y Y A0)<|Ca (cs:=[(g,.cells cur T zz)]) (by simp [U]) (A9 (cs:=r.Ao5) C7 Ax Y A0 I) V rfl<|Ze (Al Dd #[_,_,_,_,_])<|AF fun rb=>Xe (Xw Ax r.Ao5)<|AD<|Zg<|Zm Y<|Zo Wh (A9 (cs:=#[_,_,_,_,_]) C7 Ax Y B5 An)<|Zh 5 CN V rfl A5 Y<|Zl AE Y<|Xr [_,_] Y Q2 Y V (GU r q.bq O)<|Ze (Af (vs:=[_]) (cs:=[_]) Fi A5 HL Y V rfl V rfl V)<|AF fun gb=>Ze (BR (by_:=8) (sz:=1) Fi (V:Tryz.prog.info? 3=some Tryz.t3) V rfl V rfl Y (G) Y (Dy 1 gb 1 1 3 (0,0) [I4 (Bh r q.bq)] V) Wo Wo GF A0 A0) ?_;rintro _ _ ⟨cu,E,rfl⟩;obtain ⟨ax,af,rfl⟩:=E.form;refine AH Y<|Zn [2,5,11,12,13] ?_;refine A8<|Zx<|Zg<|Ya (n:=1) Y Y<|Zm Y<|Z0<|Zn [5,13,2,11,12] ?_;refine AZ (e':=[(5,_),(13,_)]) (by exact ⟨i+1,_,_,rfl,⟨by omega,BH E rfl (by rw [kD X,Dg];rfl)⟩,rfl,rfl⟩)
 have ei:i=rows.length:=by omega
 subst ei;refine Aw<|Zt<|Zt<|AQ<|Zx<|A1<|Zm Y<|A3 Y<|AA<|AC rfl results81 Y (by exact ⟨K,BH G (LC q rows).symm (by rw [G0]),rfl⟩)
theorem Nq(v:A4)(g:v.oneCell'=true)(hc:v.cells=#[v]):Bz prog 83 #[v] [] (fun r H'=>∃b,r= .func (.func 146) #[] #[I5 b]/\H'=[[(b,.cells #[v] 154 (0,0))]]):=by
 refine Se func83 ntmps83 [0] ?_;intro u R;refine A1<|Ze (Ik Y (cs:=#[v]) hc)<|AF fun b=>A3 Y<|A1<|Zv (Bt (vs:=[]) (us:=[_]) Y Y)<|A3 Y<|AA<|AC V results83 Y (by exact ⟨b,V,V⟩)
theorem l7(v n:Int)(f:Bool)(b g:Nat)(lt:Int->Int->Bool)(m:∀(args:AN) (w:A6),(callFunc g args).run prog w= .ok (.enter g args) w)(E:∀x y:Int,BC prog g #[I4 x,I4 y] [] (.bool (lt x y))):BC prog 146 #[.agg #[.slice none 0 0,I4 v,.bool f],I4 n,I5 b] [[(b,.cells #[.func (.func g) #[] #[]] 154 (0,0))]] (.agg #[.slice none 0 0,I4 (if !f||lt n v then n else v),.bool true]):=by
 refine Se func146 ntmps146 [0,1,2] ?_;intro u R;refine A1<|Ze (Bx #[_,_,_])<|AF fun I=>Ze (Al GW #[_,_,_])<|AF fun bs=>AD<|Zq<|A1<|Zh 2 Cp V rfl Cl Y<|Zl DH Y ?_;refine Zv (Cj Y)<|Zm Y<|Ah (t:=9) Y V (fun G=>?_) (fun G=>?_);·
  refine A7 Y V<|A7 Y V<|A7 Y V<|A7 Y V<|A7 Y V<|Zv (AR Y Y)<|AD<|CQ Y<|Zg<|Zm Y<|Zh 1 Cp V rfl A5 Y<|Xe (Zs A5 Y Y V (hi:=by(simp;done))) ?_;refine Z0<|Zn [3,5] ?_;refine Zx<|A1<|Zh 2 Cp V rfl Cl Y<|Xe (Zs Cl Y Y V (hi:=by(simp;done))) ?_;refine AD<|A1<|Zo Wh (A9 (cs:=#[_,_,_]) CC B6 Y B5 An) ?_;refine Xe (Xw B6 _) ?_;refine AD<|AA<|DI V results146 Y Wh (Ar CC B6 Wn (V)) (by exact ⟨by simp_all;rfl,V⟩)
 refine Yl isAgg154 Y ?_;refine Zf Y Y<|Yf 1 Cp V rfl A5 Y<|Yl AE Y ?_;refine Xr [_,_] Y (m) Y V (E n v) ?_;refine Zv (AL Y Y)<|AD<|Ad Y (fun h2=>?_) (fun h2=>?_);·
  refine Zg<|Zm Y<|Zh 1 Cp V rfl A5 Y<|Xe (Zs A5 Y Y V (hi:=by(simp;done))) ?_;refine Z0<|Zn [3,5] ?_;refine Zx<|A1<|Zh 2 Cp V rfl Cl Y<|Xe (Zs Cl Y Y V (hi:=by(simp;done))) ?_;refine AD<|A1<|Zo Wh (A9 (cs:=#[_,_,_]) CC B6 Y B5 An) ?_;refine Xe (Xw B6 _) ?_;refine AD<|AA<|DI V results146 Y Wh (Ar CC B6 Wn (V)) (by exact ⟨by simp_all;rfl,V⟩)
 refine AB<|Zx<|A1<|Zh 2 Cp V rfl Cl Y<|Xe (Zs Cl Y Y V (hi:=by(simp;done))) ?_;refine Z0<|Zn [3,5] ?_;refine Zx<|A1<|Zo Wh (A9 (cs:=#[_,_,_]) CC B6 Y B5 An) ?_;refine Xe (Xw B6 _) ?_;refine AD<|AA<|DI V results146 Y Wh (Ar CC B6 Wn (V)) (by exact ⟨by simp_all;rfl,V⟩)
theorem dx(x y:Int):BC prog 84 #[I4 x,I4 y] [] (.bool (decide (x<y))):=by
 refine Se func84 ntmps84 [0,1] ?_;intro u R;refine A1<|A3 Y<|A1<|Zm Y<|Zm Y<|Zv (ET Y Y)<|A3 Y<|AA<|AC V results84 Y (by exact ⟨by rfl,V⟩)
theorem dw(x y:Int):BC prog 85 #[I4 x,I4 y] [] (.bool (decide (y<x))):=by
 refine Se func85 ntmps85 [0,1] ?_;intro u R;refine A1<|A3 Y<|A1<|Zm Y<|Zm Y<|Zv (EI Y Y)<|A3 Y<|AA<|AC V results85 Y (by exact ⟨by rfl,V⟩)
theorem eB(v:Int)(f:Bool)(r:AY)(h:-9223372036854775807<=v/\v<=9223372036854775806):BC prog 79 #[.agg #[.slice none 0 0,I4 v,.bool f],.agg r.Ao5] [] (.agg #[.slice none 0 0,I4 (v+1),.bool f]):=by
 refine Se func79 ntmps79 [0,1] ?_;intro u R;refine A1<|Ze (Bx #[_,_,_])<|AF fun m=>Ze (Bx #[_,_,_,_,_])<|AF fun E=>Ze (Al GW #[_,_,_])<|AF fun g=>AD<|A1<|Zh 1 Cp V rfl A5 Y<|Zl AE Y<|Yi Y Y<|Zh 1 Cp V rfl A5 Y<|Xe (Zs A5 Y Y V (hi:=by(simp;done)))<|AD<|A1<|Zo Wh (A9 (cs:=#[_,_,_]) CC B6 Y B5 An)<|Xe (Xw B6 _)<|AD<|AA<|DI V results79 Y Wh (Ar CC B6 Wn (V)) (by exact ⟨V,V⟩)
theorem dz(v n:Int)(f:Bool)(h:-9223372036854775807<=v+n/\v+n<=9223372036854775806):BC prog 82 #[.agg #[.slice none 0 0,I4 v,.bool f],I4 n] [] (.agg #[.slice none 0 0,I4 (v+n),.bool f]):=by
 refine Se func82 ntmps82 [0,1] ?_;intro u R;refine A1<|Ze (Bx #[_,_,_])<|AF fun m=>Ze (Al GW #[_,_,_])<|AF fun g=>AD<|A1<|Zh 1 Cp V rfl A5 Y<|Zl AE Y<|Zm Y<|Yi Y Y<|Zh 1 Cp V rfl A5 Y<|Xe (Zs A5 Y Y V (hi:=by(simp;done)))<|AD<|A1<|Zo Wh (A9 (cs:=#[_,_,_]) CC B6 Y B5 An)<|Xe (Xw B6 _)<|AD<|AA<|DI V results82 Y Wh (Ar CC B6 Wn (V)) (by exact ⟨V,V⟩)
def vv(r:AY):A4:= .agg r.Ao5
theorem ow{g:List (Int×A4)}{G:Int}(hn:(lm.map (·.1)).Nodup)(m:(g.map (·.1)).Nodup)(E:∀p,p∈g↔p=(G,v)\/(p∈lm/\p.1≠G))(k:Int):JR k g=if k=G then some v else JR k lm:=by
 split
 · rename_i h
   rw [h];exact J5 m ((E _).2 (.inl V))
 · rename_i h
   cases hg:JR k lm with
   |some x=>exact J5 m ((E _).2 (.inr ⟨Vg hg,h⟩))
   |none=>
    cases hg2:JR k g with
    |none=>rfl
    |some x=>
     rcases (E _).1 (Vg hg2)with e|⟨e,_⟩
     · injection e with e1 e2;exact absurd e1 h
     · rw [J5 hn e]at hg;cases hg
variable{others:List AY}{x:AY}
theorem VT(h:others[i]?=some x)(k:Int):Dz q (others.take (i+1)) k=(Dz q (others.take i) k).or (if x.t=q.ot/\x.k=k then some x else none):=by
 unfold Dz;rw [C8 h,List.find?_append];congr 1;simp only [List.find?_cons,List.find?_nil];split<;>simp_all
def U9(q:QM)(others:List AY)(lm:List (Int×A4)):Prop:=∀k,JR k lm=(Dz q others k).map vv
theorem Sq(h:others[i]?=some x)(m:U9 q (others.take i) lm)(hx:¬x.t=q.ot\/(Dz q (others.take i) x.k).isSome=true):U9 q (others.take (i+1)) lm:=by
 intro k;rw [m k,VT h k];cases hg:Dz q (others.take i) k with
 |some y=>rfl
 |none=>
  rw [As];· rfl
  · rintro ⟨g,rfl⟩
    rcases hx with hx|hx
    · exact hx g
    · rw [hg]at hx;cases hx
theorem je{g:List (Int×A4)}(h:others[i]?=some x)(I:U9 q (others.take i) lm)(hx:x.t=q.ot)(E:(Dz q (others.take i) x.k).isSome=false)(hn:(lm.map (·.1)).Nodup)(m:(g.map (·.1)).Nodup)(J:∀p,p∈g↔p=(x.k,vv x)\/(p∈lm/\p.1≠x.k)):U9 q (others.take (i+1)) g:=by
 intro k;rw [ow hn m J k,VT h k];split
 · rename_i hk
   have:Dz q (others.take i) k=none:=by
    rw [hk];cases hg:Dz q (others.take i) x.k with
    |none=>rfl
    |some y=>rw [hg]at E;cases E
   rw [this,B0 ⟨hx,hk.symm⟩];rfl
 · rename_i hk
   rw [I k,As (fun G=>hk G.2.symm)];cases Dz q (others.take i) k<;>rfl
variable{y:AY}
theorem VU(g:U9 q others lm)(k:Int)(hy:y=(Dz q others k).getD ⟨0,0,⟨0,0,0⟩⟩):(JR k lm).getD (.agg #[I4 (⟨0,0,⟨0,0,0⟩⟩:AY).t,I4 (⟨0,0,⟨0,0,0⟩⟩:AY).k,I4 (⟨0,0,⟨0,0,0⟩⟩:AY).v.a,I4 (⟨0,0,⟨0,0,0⟩⟩:AY).v.b,I4 (⟨0,0,⟨0,0,0⟩⟩:AY).v.c])= .agg y.Ao5/\(JR k lm).isSome=(Dz q others k).isSome:=by
 rw [g k,hy];cases Dz q others k<;>exact ⟨rfl,rfl⟩
theorem VS(hy:y=(Dz q others k).getD ⟨0,0,⟨0,0,0⟩⟩)(h:(Dz q others k).isSome=true):Dz q others k=some y:=by
 rw [hy];cases hp:Dz q others k with
 |none=>rw [hp]at h;cases h
 |some x=>rfl
theorem MF{sz:Nat}{e:AM}{n c k:Nat}{xs:List A4}{s:List AU}(h:BZ sz e (.slice p n c) k xs s):GR s p xs:=by
 intro j u E;obtain ⟨I,⟨_,rfl,_⟩|⟨g,cap,cur,z,hv,rfl,_,_,_,m,_⟩⟩:=h
 · have:xs=[]:=Lq A0
   subst this;cases E
 · injection hv with h1 h2 h3
   subst h1;refine ⟨g,0,cur,e,z,V,by simp,?_⟩;have G:=(zt.1 E).1
   rw [<-m,Gk,B0 A0,HS]at E;rwa [C6]
theorem QY(h:rows[i]?=some r):JL q (rows.take (i+1)) others=JL q (rows.take i) others++JK q others r:=by
 unfold JL;rw [C8 h,Ly,List.flatMap_singleton]
theorem VV(h:Dz q others (Bh r q.bq)=some y):JK q others r=[r,y]:=by unfold JK;rw [h]
theorem jf(h:Dz q others (Bh r q.bq)=none):JK q others r=[]:=by unfold JK;rw [h]
theorem oG(q:QM)(others:List AY)(r:AY):(JK q others r).length<=2:=by unfold JK;split<;>simp
theorem TS(q:QM)(rows others:List AY):(JL q rows others).length<=2*rows.length:=by
 induction rows with
 |nil=>simp [JL]
 |cons r rows ih=>
  have:=oG q others r;unfold JL at*;rw [HF,zq,D3];omega
set_option maxHeartbeats 1000000 in
theorem ZE{vo:A4}(hv:Da M v rows)(ho:Da M vo others)(q:QM)(gy:0<=q.bq/\q.bq<=3)(hb:rows.length<=100000000000):Bz prog 86 #[.agg q.Ao6,v,vo] [M] (fun r H'=>∃s,BZ 5 98 r (JL q rows others).length (Ac (JL q rows others)) s/\H'=[s,M]):=by
 have qA:=mL;obtain ⟨p,cap,rfl,⟨hl,qx⟩,hg⟩:=id hv;obtain ⟨po,p9,rfl,⟨qz,pg⟩,kz⟩:=id ho;refine Se func86 ntmps86 [0,1,2] ?_;intro u R;refine A1<|Ze (Bx #[_,_,_,_,_,_,_])<|AF fun bq=>A3 Y<|A1<|Ze (Pt)<|AF fun mb=>A3 Y<|Zq<|A1<|Zm Y<|Zv (AP B4 Y)<|Zm Y<|AD<|AX<|Zb [19,1,3,6,7,17,18] ?_;refine BB (e0:=[(19,_)]) (fun m e H=>∃(i:Nat) (es:Array MapEntry) (X:Nat) (lm:List (Int×A4)),m=others.length -i/\(i<=others.length/\FH (fun k:Int=>I4 k) es X lm/\U9 q (others.take i) lm)/\e=[(19,I4 (i:Int))]/\H=[[(mb,.map es X)]]) (by exact ⟨0,#[],0,[],V,⟨C2 _,TM _,fun k=>rfl⟩,V,V⟩) Wp ?_;rintro _ _ _ ⟨i,es,X,lm,rfl,⟨hi,U,O⟩,rfl,rfl⟩;refine A1<|Zv (Au Y Y)<|AD<|Zq<|Ak Y (fun E=>?_) (fun E=>?_);·
  obtain ⟨x,hx⟩:∃x,others[i]?=some x:=⟨_,zn E⟩;obtain ⟨g1,q9,Z,T1,o8,rfl,l8,pz,ax⟩:=kz i x hx;refine AB<|Zx<|Zq<|AX<|A1<|Ap (AO B4 Ax Y Y A0)<|Ca (cs:=[(g1,.cells Z T1 o8)]) (by simp [l8]) (A9 (cs:=x.Ao5) C7 Ax Y A0 ax) V rfl<|Ze (Al Dd #[_,_,_,_,_])<|AF fun bx=>Xe (Xw Ax x.Ao5)<|AD<|Zq ?_;obtain ⟨y0,d9⟩:∃y,y=(Dz q (others.take i) x.k).getD ⟨0,0,⟨0,0,0⟩⟩:=⟨_,rfl⟩;refine Zg<|Zm Y<|Zh 1 Ds V rfl A5 Y<|Zl AE Y<|Zo Wh (QQ IW underlying215 Dd U (fun _ _=>trivial) (trivial) (VU O x.k d9) Y Y)<|Zm Y<|Zd Y V<|Zd Y V<|Ze (Al Dd #[_,_,_,_,_])<|AF fun bt=>Xe (Xw Ax y0.Ao5)<|AH Y<|Zn [1,3,6,7,9,11,17,18,19] ?_;refine Zx<|Zq ?_;obtain ⟨y0,d9⟩:∃y,y=(Dz q (others.take i) x.k).getD ⟨0,0,⟨0,0,0⟩⟩:=⟨_,rfl⟩;refine Zg<|Zh 0 Ds V rfl A5 Y<|Zl AE Y<|Zh 6 CN V rfl A5 Y<|Zl AE Y<|Zv (Br Y Y)<|Zm Y<|Ai (t:=35) Y V (fun h1=>?_) (fun h1=>?_);·
   refine Zf Y Y<|Yg (Cj Y)<|Zv (AR Y Y)<|AD<|Ad Y (fun h2=>?_) (fun h2=>?_);·
    refine Zg<|Zm Y<|Zh 1 Ds V rfl A5 Y<|Zl AE Y<|Zo Wh (A9 (cs:=#[_,_,_,_,_]) C7 Ax Y B5 An)<|Ze (MQ IW underlying215 U (fun _ _=>trivial) (trivial) Y Y Y Wo) ?_;rintro _ _ ⟨rfl,qg,qd,mR,G,lv,rfl⟩;have gq:U9 q (others.take (i+1)) mR:=je hx O h1 (by simpa using h2) U.keys G.keys lv
    refine Z0<|Zn [1,3,6,7,17,18,19] ?_;refine A8<|Zx<|Zg<|Ya (n:=1) Y Y<|Zm Y<|Z0<|Zn [19,1,3,6,7,17,18] ?_;refine AZ (e':=[(19,_)]) (by exact ⟨i+1,_,_,_,V,⟨by omega,G,gq⟩,V,V⟩)
   refine AB<|A8<|Zx<|Zg<|Ya (n:=1) Y Y<|Zm Y<|Z0<|Zn [19,1,3,6,7,17,18] ?_;refine AZ (e':=[(19,_)]) (by exact ⟨i+1,es,X,lm,rfl,⟨by omega,U,Sq hx O (by first|exact .inl A0|exact .inr (by simpa using h2))⟩,rfl,rfl⟩)
  refine A7 Y V<|A7 Y V<|Zv (AL Y Y)<|AD<|Dj Y<|AB<|A8<|Zx<|Zg<|Ya (n:=1) Y Y<|Zm Y<|Z0<|Zn [19,1,3,6,7,17,18] ?_;refine AZ (e':=[(19,_)]) (by exact ⟨i+1,es,X,lm,rfl,⟨by omega,U,Sq hx O (by first|exact .inl A0|exact .inr (by simpa using h2))⟩,rfl,rfl⟩)
 have ei:i=others.length:=by omega
 subst ei;rw [G0]at O;refine Aw<|Zt<|Zt<|AQ<|Zx<|Zq<|A1<|Zo Wh (A9 (cs:=#[_,_,_,_,_,_,_]) F2 CM Y B5 An)<|Zm Y<|Zc [_,_] Y call81 Y V (NR hv q gy A0) ?_;rintro _ _ ⟨_,⟨sm,cO,rfl⟩,rfl⟩;obtain ⟨gm,cm,rfl⟩:=cO.form;refine Zv (AP Fi Y)<|Zm Y<|AD<|AX<|Bl ?_;have kv:GR sm gm ((Cy q rows).map ivQ):=MF cO
 have pq:=LC q rows;refine Zb [6,48,1,7,46,47] ?_;refine BB (e0:=[(6,_),(48,_)]) (fun m e H=>∃(i:Nat) (w:A4) (so:List AU),m=rows.length -i/\(i<=rows.length/\BZ 5 98 w (JL q (rows.take i) others).length (Ac (JL q (rows.take i) others)) so)/\e=[(6,w),(48,I4 (i:Int))]/\H=[so]) (by exact ⟨0,.slice none 0 0,[],rfl,⟨C2 _,by rw [Hj];exact Ba 5 _⟩,rfl,rfl⟩) Wp ?_;rintro _ _ _ ⟨i,w,so,rfl,⟨hi,g⟩,rfl,rfl⟩;obtain ⟨qo,co,rfl⟩:=g.form;have qw:(JL q (rows.take i) others).length<=2*i:=SZ (TS _ _ _) (by rw [zy];omega)
 refine A1<|Zv (Au Y Y)<|AD<|Zq<|Ak Y (fun E=>?_) (fun E=>?_);·
  obtain ⟨r,hr⟩:∃r,rows[i]?=some r:=⟨_,zn A0⟩;obtain ⟨g2,ek,I,T2,o9,rfl,G,bf⟩:=kv i (ivQ (Bh r q.bq)) (by rw [FG,uX hr];rfl);have cu:I[ek+i]?=some (I4 (Bh r q.bq)):=bf
  obtain ⟨W,K⟩:∃y,y=(Dz q others (Bh r q.bq)).getD ⟨0,0,⟨0,0,0⟩⟩:=⟨_,rfl⟩;refine AB<|Zx<|Zq<|AX<|A1<|Zm Y<|Ap (BP Fi A5 Y Y CT)<|Ca (cs:=[(g2,.cells I T2 o9)]) (by simp [G]) (Bj AE Y cu) rfl rfl<|Za Y<|A3 Y<|A1<|Zm Y<|Zm Y<|Zo Wh (QQ IW underlying215 Dd U (fun _ _=>trivial) (trivial) (VU O (Bh r q.bq) K) Y Y)<|Zm Y<|Zd Y rfl<|Zd Y rfl<|Ze (Al Dd #[_,_,_,_,_])<|AF fun qb=>Xe (Xw Ax W.Ao5)<|AH Y<|Zn [1,6,7,12,14,15,46,47,48] ?_;refine Zx<|A1<|Zm Y<|AD<|Ad Y (fun h5=>?_) (fun h5=>?_);·
   obtain ⟨g3,qa,af,T3,p8,rfl,l9,q8,bn⟩:=hg i r hr;refine BJ (n:=9) (0::0::0::6::14::0::62::127::255::[]) 192 AG AG V<|A2 0 V (AJ Y)<|A2 1 V (AJ Y)<|A2 2 V (AJ Y)<|A2 3 V (AO B4 Ax Y Y A0)<|Gf (b:=g3) (x:= .cells af T3 p8) (D':=31) 4 V rfl V (by simp [l9]) (A9 (cs:=r.Ao5) C7 Ax Y A0 bn) ?_;refine Fc 5 V Wh (A9 (cs:=#[_,_,_,_,_]) C7 Ax Y B5 An)<|Yw 6 127 V (Af (vs:=[_,_]) (cs:=[_,_,_,_,_,_,_,_,_,_]) B4 Ax Dd Y V rfl V rfl V)<|AF fun gb=>Yw 7 255 V (BR (by_:=40) (sz:=5) B4 (V:Tryz.prog.info? 98=some Tryz.t98) V rfl V rfl Y (g) Y (Dy 5 gb 2 2 98 (0,0) [I4 r.t,I4 r.k,I4 r.v.a,I4 r.v.b,I4 r.v.c,I4 W.t,I4 W.k,I4 W.v.a,I4 W.v.b,I4 W.v.c] V) Wo Wo GF A0 A0) ?_;rintro _ _ ⟨r9,J,rfl⟩;obtain ⟨qh,qc,rfl⟩:=J.form;refine A2 8 V (BF Y)<|Ao<|A8<|Zx<|Zg<|Ya (n:=1) Y Y<|Zm Y<|Z0<|Zn [6,48,1,7,46,47] ?_;refine AZ (e':=[(6,_),(48,_)]) (by exact ⟨i+1,_,_,rfl,⟨by omega,BH J (by rw [QY hr,VV (VS K h5),zq];rfl) (by rw [QY hr,VV (VS K h5),Bf];rfl)⟩,rfl,rfl⟩)
  refine AB<|A8<|Zx<|Zg<|Ya (n:=1) Y Y<|Zm Y<|Z0<|Zn [6,48,1,7,46,47] ?_;refine AZ (e':=[(6,_),(48,_)]) (by exact ⟨i+1,_,so,rfl,⟨by omega,by rw [QY hr,jf (kc.1 (by simpa using h5)),H3];exact g⟩,rfl,rfl⟩)
 have ei:i=rows.length:=by omega
 subst ei;rw [G0]at g⊢;refine Aw<|Zt<|Zt<|AQ<|Zx<|A1<|Zm Y<|A3 Y<|AA<|AC V results86 Y (by exact ⟨so,g,V⟩)
end Go.Proofs.YtlkdhannldcfbaaGreatDoor
