/- query.Valid. -/
import Derived.Test.YtelliknjeemfoaaGreatDoorQe1
set_option linter.unusedVariables false
set_option linter.unusedSimpArgs false
namespace Go.Proofs.YtelliknjeemfoaaGreatDoor
open Go.Proofs.Tryz
open Go Go.RowKit Gw
set_option maxRecDepth 100000
attribute [local irreducible] Gw.At Gw.Nx Gw.Ops
def FR(q:QM):Prop:=(0<=q.tb/\q.tb<=3)/\(0<=q.cl/\q.cl<=3)/\(-1000000000<=q.lo/\q.lo<=q.hi/\q.hi<=1000000000)
instance(q:QM):Decidable (FR q):=by unfold FR;infer_instance
def PK(q:QM):Prop:=1<=q.bq/\q.bq<=3
instance(q:QM):Decidable (PK q):=by unfold PK;infer_instance
variable{q:QM}
theorem wi(h:q.kd=1):BG q↔FR q/\q.cl=0/\q.lo=q.hi/\(1<=q.lo/\q.lo<=1000000)/\q.bq=0/\q.ot=0:=by unfold BG FR;omega
theorem wg(h:q.kd=2\/q.kd=3):BG q↔FR q/\q.bq=0/\q.ot=0:=by unfold BG FR;omega
theorem we(h:q.kd=4\/q.kd=5\/q.kd=6):BG q↔FR q/\PK q/\q.ot=0:=by unfold BG FR PK;omega
theorem wb(h:q.kd=7):BG q↔FR q/\(0<=q.ot/\q.ot<=3)/\PK q:=by unfold BG FR PK;omega
theorem zP(h:q.kd=1):decide (BG q)=decide (FR q/\q.cl=0/\q.lo=q.hi/\(1<=q.lo/\q.lo<=1000000)/\q.bq=0/\q.ot=0):=decide_eq_decide.2 (wi h)
theorem yQ(h:q.kd=2\/q.kd=3):decide (BG q)=decide (FR q/\q.bq=0/\q.ot=0):=decide_eq_decide.2 (wg h)
theorem yP(h:q.kd=4\/q.kd=5\/q.kd=6):decide (BG q)=decide (FR q/\PK q/\q.ot=0):=decide_eq_decide.2 (we h)
theorem zO(h:q.kd=7):decide (BG q)=decide (FR q/\(0<=q.ot/\q.ot<=3)/\PK q):=decide_eq_decide.2 (wb h)
theorem oQ(h:¬q.kd=1)(I:¬q.kd=7)(m:¬q.kd=4)(B:¬q.kd=5)(G:¬q.kd=6)(h2:¬q.kd=2)(g:¬q.kd=3):¬BG q:=by unfold BG;omega
variable{b0:Bool}
theorem ov(h:q.kd=4\/q.kd=5\/q.kd=6)(g:b0=decide (FR q)):((b0&&decide (PK q))&&decide (q.ot=0))=decide (BG q):=by
 rw [yP h,g];simp [Bool.and_assoc]
theorem ox(h:q.kd=2\/q.kd=3)(g:b0=decide (FR q)):((b0&&decide (q.bq=0))&&decide (q.ot=0))=decide (BG q):=by
 rw [yQ h,g];simp [Bool.and_assoc]
theorem yN(h:q.kd=7)(g:b0=decide (FR q))(e0:b0=true):((decide (0<=q.ot/\q.ot<=3)&&decide (PK q))&&decide ((0:Int)=0))=decide (BG q):=by
 have m:FR q:=IF (g.symm.trans e0);rw [zO h];simp [m]
theorem yO{x y:Bool}(h:q.kd=7)(g:b0=decide (FR q))(e0:b0=false):((false&&x)&&y)=decide (BG q):=by
 have m:¬FR q:=cE (g.symm.trans e0);rw [zO h];simp [m]
variable{b:Bool}
theorem zG{z:Int}(g:((b&&decide (PK q))&&decide (z=0))=decide (BG q))(e:b=true):((decide (1<=q.bq/\q.bq<=3)&&decide ((0:Int)=0))&&decide (z=0))=decide (BG q):=by
 rw [<-g,e,show decide (PK q)=decide (1<=q.bq/\q.bq<=3) from decide_eq_decide.2 Iff.rfl];simp only [Wa,decide_true,lE]
theorem zT{x y:Bool}{z:Int}(g:((b&&decide (PK q))&&decide (z=0))=decide (BG q))(e:b=false):((false&&x)&&y)=decide (BG q):=by
 rw [<-g,e];simp
theorem Jy(n lo hi:Int):Az prog 68 #[I0 n,I0 lo,I0 hi] [] (.bool (decide (lo<=n/\n<=hi))):=by
 refine Se func68 ntmps68 [0,1,2] ?_;intro u R;refine A3<|AH Y<|AN Y<|Zm Y<|Zv (IL Y Y)<|Zm Y<|Ae (t:=10) Y V (fun g=>?_) (fun g=>?_);focus
  refine Zf Y Y<|Zf Y Y<|Yg (N9 Y Y)<|Zv (AL Y Y) ?_
 rotate_left
 focus
  refine AG<|C5<|Zv (AO Y Y) ?_
 all_goals
  refine Ax Y<|AX V results68 Y (by exact ⟨by simp [g],V⟩)
theorem JR(q:QM):Az prog 28 #[.agg q.A89] [] (.bool (decide (BG q))):=by
 refine Se func28 ntmps28 [0] ?_;intro u R;refine A3<|Ze (Bx #[_,_,_,_,_,_,_])<|AF fun K=>AH Y<|Zb [1] ?_;refine Ch (e0:=[]) (H0:=[]) (fun e H=>∃(b0:Bool),(b0=decide (FR q))/\e=[(3,.bool b0)]/\H=[]) Wp ?hx_1 ?hy_1
 case hx_1=>
  refine Zg<|Zh 1 DB V rfl A6 Y<|Zl AE Y ?_;refine Xr [_,_,_] Y call68 Y V (Jy _ _ _) ?_;refine Zm Y<|Ae (t:=7) Y V (fun X=>?_) (fun X=>?_);focus
   refine Yf 2 DB V rfl A6 Y<|Yl AE Y ?_;refine Xr [_,_,_] Y call68 Y V (Jy _ _ _) ?_;refine BT Y Y<|Zm Y<|Ae (t:=12) Y V (fun Z=>?_) (fun Z=>?_);focus
    refine Yf 3 DB V rfl A6 Y<|Yl AE Y ?_;refine Yf 4 DB V rfl A6 Y<|Yl AE Y ?_;refine Xr [_,_,_] Y call68 Y V (Jy _ _ _) ?_;refine BT Y Y<|Zm Y<|Ae (t:=19) Y V (fun a3=>?_) (fun a3=>?_);refine Yf 4 DB V rfl A6 Y<|Yl AE Y ?_;refine Yg (N9 Y Y)<|BT Y Y<|B1 Y<|HM (e:=[(3,_)]) (h:=by exact ⟨_,by unfold FR;exact decide_eq_decide.2 A0,V,V⟩)
   rotate_left
   focus
    refine AG<|AG<|C5<|BW Y Y<|Zm Y ?_
  rotate_left 2
  focus
   refine AG<|C5<|BW Y Y<|Zm Y<|AG<|AG<|C5<|BW Y Y<|Zm Y ?_
  all_goals
   refine AG<|C5<|BW Y Y<|B1 Y<|HM (e:=[(3,_)]) (h:=by exact ⟨_,by unfold FR;exact (F0 A0).symm,V,V⟩)
 rintro _ _ ⟨b0,g,rfl,rfl⟩;refine Zq<|A3<|Zh 0 DB V rfl A6 Y<|Zl AE Y ?_;refine A5<|AP<|Zb [3,25,1] ?_;refine Ch (e0:=[(3,_),(25,_)]) (H0:=[[(K,_)]]) (fun e H=>∃(b:Bool) (y z:Int),(((b&&decide (y=0))&&decide (z=0))=decide (BG q))/\e=[(3,.bool b)]/\H=[[(K,.cells #[I0 q.kd,I0 q.tb,I0 q.cl,I0 q.lo,I0 q.hi,I0 y,I0 z] 31 (0,0))]]) Wp ?hx_6 ?hy_6
 case hx_6=>
  refine AP<|Zb [3,25,1] ?_;refine Ch (e0:=[(3,_),(25,_)]) (H0:=[[(K,_)]]) (fun e H=>∃(b:Bool) (z:Int),(((b&&decide (PK q))&&decide (z=0))=decide (BG q))/\e=[(3,.bool b)]/\H=[[(K,.cells #[I0 q.kd,I0 q.tb,I0 q.cl,I0 q.lo,I0 q.hi,I0 q.bq,I0 z] 31 (0,0))]]) Wp ?hx_7 ?hy_7
  case hx_7=>
   refine AP<|Zq<|AP<|Zq<|AP<|Zq<|Zq<|A3<|Zv (CJ Y Y)<|AH Y<|Ap Y (fun G=>?_) (fun G=>?_);·
    refine BB<|Zt<|Zt<|AV<|Zx<|B7 Y<|Zm Y<|Ab (t:=38) Y V (fun O=>?_) (fun O=>?_);focus
     have W:FR q:=IF (g.symm.trans O);refine Yf 2 DB V rfl A6 Y<|Yl AE Y ?_;refine Yg (CJ Y Y)<|BT Y Y<|Zm Y<|Ae (t:=43) Y V (fun c1=>?_) (fun c1=>?_);focus
      refine Yf 3 DB V rfl A6 Y<|Yl AE Y ?_;refine Yf 4 DB V rfl A6 Y<|Yl AE Y ?_;refine Yg (CJ Y Y)<|BT Y Y<|Zm Y<|Ae (t:=50) Y V (fun c2=>?_) (fun c2=>?_);focus
       refine Yf 3 DB V rfl A6 Y<|Yl AE Y ?_;refine Xr [_,_,_] Y call68 Y V (Jy _ _ _) ?_;refine BT Y Y<|Zm Y<|Ae (t:=55) Y V (fun c3=>?_) (fun c3=>?_);focus
        refine Yf 5 DB V rfl A6 Y<|Yl AE Y ?_;refine Yg (CJ Y Y)<|BT Y Y<|Zm Y<|Ae (t:=60) Y V (fun c4=>?_) (fun c4=>?_);refine Yf 6 DB V rfl A6 Y<|Yl AE Y ?_;refine Yg (CJ Y Y)<|BT Y Y<|B1 Y<|Zn [2] ?_;refine Zx<|AJ<|Zt<|Ag<|Zt<|Ag<|Zt<|Ag<|Zt<|Ag<|Zt<|AX rfl ff Y (by exact ⟨by rw [zP G];exact congrArg Value.bool (decide_eq_decide.2 ⟨fun h=>⟨W,by omega⟩,fun h=>by omega⟩),rfl⟩)
       rotate_left
       focus
        refine AG<|C5<|BW Y Y<|Zm Y ?_
      rotate_left 2
      focus
       refine AG<|C5<|BW Y Y<|Zm Y<|AG<|C5<|BW Y Y<|Zm Y ?_
     rotate_left 3
     focus
      refine AG<|AG<|C5<|BW Y Y<|Zm Y<|AG<|C5<|BW Y Y<|Zm Y<|AG<|C5<|BW Y Y<|Zm Y ?_
    rotate_left 4
    focus
     have W:¬FR q:=cE (g.symm.trans O);refine AG<|C5<|BW Y Y<|Zm Y<|AG<|AG<|C5<|BW Y Y<|Zm Y<|AG<|C5<|BW Y Y<|Zm Y<|AG<|C5<|BW Y Y<|Zm Y ?_
    all_goals
     refine AG<|C5<|BW Y Y<|B1 Y<|Zn [2] ?_;refine Zx<|AJ<|Zt<|Ag<|Zt<|Ag<|Zt<|Ag<|Zt<|Ag<|Zt<|AX rfl ff Y (by exact ⟨by rw [zP G];exact congrArg Value.bool (F0 (fun h=>by first|exact W h.1|omega)).symm,rfl⟩)
   refine B4<|Zq<|A3<|Zv (CJ Y Y)<|AH Y<|Ap Y (fun I=>?_) (fun I=>?_);·
    refine BB<|Zt<|Zt<|BR V<|Zt<|AV<|Zx<|AN Y<|Zm Y<|Ab (t:=66) Y V (fun e0=>?_) (fun e0=>?_);·
     refine Yf 6 DB V rfl A6 Y<|Yl AE Y ?_;refine Xr [_,_,_] Y call68 Y V (Jy _ _ _) ?_;refine BT Y Y<|AH Y<|Zg<|Zh 6 DB V rfl A6 Y<|Xe (Zs A6 Y Y V) ?_;refine Z0<|Zn [1,3] ?_;refine A9<|HM (e:=[(3,_)]) (h:=by exact ⟨_,_,yN I g e0,V,V⟩)
    refine AG<|C5<|BW Y Y<|AH Y<|Zg<|Zh 6 DB V rfl A6 Y<|Xe (Zs A6 Y Y V) ?_;refine Z0<|Zn [1,3] ?_;refine A9<|HM (e:=[(3,_)]) (h:=by exact ⟨_,0,yO I g e0,V,V⟩)
   refine B4<|Zq<|Zq<|A3<|Zv (CJ Y Y)<|AH Y<|Ap Y (fun B=>?_) (fun B=>?_);focus
    refine B4<|Ap Y (fun B=>?_) (fun B=>?_);·
     refine BB<|Zt<|Zt<|BR V<|Zt<|BR V<|Zt<|AV<|HM (e:=[(3,_)]) (h:=by exact ⟨_,_,ov A0 g,V,V⟩)
    focus
     refine B4<|Zq<|A3<|Zv (CJ Y Y)<|AH Y<|Ap Y (fun m=>?_) (fun m=>?_);focus
      refine AC ?_
     rotate_left
     focus
      refine Zg<|Zv (CJ Y Y)<|Za Y<|Z0 ?_
   rotate_left 2
   focus
    refine A3<|Zv (CJ Y Y)<|AH Y<|Ap Y (fun B=>?_) (fun B=>?_);focus
     refine B4<|Ap Y (fun B=>?_) (fun B=>?_);·
      refine BB<|Zt<|Zt<|BR V<|Zt<|BR V<|Zt<|AV<|HM (e:=[(3,_)]) (h:=by exact ⟨_,_,ov A0 g,V,V⟩)
     focus
      refine B4<|Zq<|A3<|Zv (CJ Y Y)<|AH Y<|Ap Y (fun m=>?_) (fun m=>?_);focus
       refine AC ?_
      rotate_left
      refine Zg<|Zv (CJ Y Y)<|AH Y<|Ap Y (fun m=>?_) (fun m=>?_);·
       refine BB<|Zt<|BR V<|Zt<|BR V<|Zt<|BR V<|Zt<|AV<|HM (e:=[(3,_)]) (h:=by exact ⟨_,_,_,ox A0 g,V,V⟩)
      refine B4<|BB<|BR V<|Zt<|BR V<|Zt<|BR V<|Zt<|BR V<|Zt<|AV<|CD<|B1 Y<|Zn [2] ?_;refine Zx<|AJ<|AX V ff Y (by exact ⟨congrArg Value.bool (F0 (oQ G I A0 A0 A0 A0 A0)).symm,V⟩)
    rotate_left
    focus
     refine Zg<|Zv (CJ Y Y)<|AH Y<|Ap Y (fun B=>?_) (fun B=>?_);·
      refine BB<|Zt<|Zt<|BR V<|Zt<|BR V<|Zt<|AV<|HM (e:=[(3,_)]) (h:=by exact ⟨_,_,ov A0 g,V,V⟩)
     focus
      refine B4<|Zq<|A3<|Zv (CJ Y Y)<|AH Y<|Ap Y (fun m=>?_) (fun m=>?_);·
       refine B4<|Ap Y (fun m=>?_) (fun m=>?_);·
        refine BB<|Zt<|BR V<|Zt<|BR V<|Zt<|BR V<|Zt<|AV<|HM (e:=[(3,_)]) (h:=by exact ⟨_,_,_,ox A0 g,V,V⟩)
       refine B4<|BB<|BR V<|Zt<|BR V<|Zt<|BR V<|Zt<|BR V<|Zt<|AV<|CD<|B1 Y<|Zn [2] ?_;refine Zx<|AJ<|AX V ff Y (by exact ⟨congrArg Value.bool (F0 (oQ G I A0 A0 A0 A0 A0)).symm,V⟩)
      focus
       refine Zg<|Zv (CJ Y Y)<|B1 Y<|Zn [1,3,34] ?_
   all_goals
    refine Zx<|Ap Y (fun m=>?_) (fun m=>?_);·
     refine BB<|Zt<|BR V<|Zt<|BR V<|Zt<|BR V<|Zt<|AV<|HM (e:=[(3,_)]) (h:=by exact ⟨_,_,_,ox A0 g,V,V⟩)
    refine B4<|BB<|BR V<|Zt<|BR V<|Zt<|BR V<|Zt<|BR V<|Zt<|AV<|CD<|Ax Y<|AX V ff Y (by exact ⟨congrArg Value.bool (F0 (oQ G I A0 A0 A0 A0 A0)).symm,V⟩)
  rintro _ _ ⟨b,z,J,rfl,rfl⟩;refine AN Y<|Zm Y<|Ab (t:=73) Y V (fun U=>?_) (fun U=>?_);·
   refine Yf 5 DB V rfl A6 Y<|Yl AE Y ?_;refine Xr [_,_,_] Y call68 Y V (Jy _ _ _) ?_;refine BT Y Y<|AH Y<|Zg<|Zh 5 DB V rfl A6 Y<|Xe (Zs A6 Y Y V) ?_;refine Z0<|A9<|HM (e:=[(3,_)]) (h:=by exact ⟨_,_,_,zG J U,V,V⟩)
  refine AG<|C5<|BW Y Y<|AH Y<|Zg<|Zh 5 DB V rfl A6 Y<|Xe (Zs A6 Y Y V) ?_;refine Z0<|A9<|HM (e:=[(3,_)]) (h:=by exact ⟨_,0,z,zT J U,V,V⟩)
 rintro _ _ ⟨b,y,z,J,rfl,rfl⟩;refine B7 Y<|Zm Y<|Ab (t:=80) Y V (fun g0=>?_) (fun g0=>?_);focus
  refine Yf 5 DB V rfl A6 Y<|Yl AE Y ?_;refine Yg (CJ Y Y)<|BT Y Y<|Zm Y<|Ae (t:=85) Y V (fun g1=>?_) (fun g1=>?_);focus
   refine Yf 6 DB V rfl A6 Y<|Yl AE Y ?_;refine Yg (CJ Y Y)<|Zv (AL Y Y) ?_
  rotate_left
  focus
   refine AG<|C5<|Zv (AO Y Y) ?_
 rotate_left 2
 focus
  refine AG<|C5<|BW Y Y<|Zm Y<|AG<|C5<|Zv (AO Y Y) ?_
 all_goals
  refine Ax Y<|Zt<|Ag<|Zt<|AX rfl ff Y (by exact ⟨by rw [<-J];simp [*],rfl⟩)
def Ib(p:B8)(o:Option AU)(s:List A8):Prop:=match o with
 |none=>p=none/\s=[]
 |some r=>∃b,p=some ⟨b,0,none⟩/\s=[(b,.cells r.A88 61 (0,0))]
theorem Ib.some_{p:B8}{o:Option AU}{s:List A8}(h:Ib p o s):p.isSome=o.isSome:=by
 cases o with
 |none=>rw [h.1];rfl
 |some r=>obtain ⟨b,rfl,_⟩:=h;rfl
theorem ZQ(q:QM)(c:Chg)(g:Bool)(v:V3):Ia q g (ER c g v)=Ia q g ⟨c.t,c.k,v⟩:=by
 cases g with
 |false=>rfl
 |true=>rfl
theorem rV{r:AU}(h:b=false\/¬(r.t=q.tb/\q.lo<=Bj r q.cl/\Bj r q.cl<=q.hi)):Ia q b r=none:=by
 unfold Ia inQ;rcases h with h|h
 · rw [h];rfl
 · rw [F0 h,Bool.and_false];rfl
theorem xI{r:AU}(h:b=true)(h2:r.t=q.tb/\q.lo<=Bj r q.cl/\Bj r q.cl<=q.hi):Ia q b r=some r:=by
 unfold Ia inQ;rw [h,DO h2];rfl
theorem Hy:Fw prog 3 (fun k:Int=>I0 k) (fun _=>True):=Cc D3
theorem OI(q:QM)(G:0<=q.cl/\q.cl<=3)(B:0<=q.bq/\q.bq<=3)(bq:Nat)(r:AU)(b:Bool):BQ prog 213 #[.agg r.A88,.bool b,I1 bq] [[(bq,.cells q.A89 31 (0,0))]] (fun v H'=>∃p s,v= .tuple #[.pointer p,I0 (mQ q (Ia q b r))]/\Ib p (Ia q b r) s/\H'=[s,[(bq,.cells q.A89 31 (0,0))]]):=by
 refine Se func213 ntmps213 [0,1,2] ?_;intro u R;refine A3<|Ze (Bx #[_,_,_,_,_])<|AF fun I=>Za Y<|AH Y<|A3<|Zo Wh (AA (cs:=#[_,_,_,_,_]) DE B3 Y B9 B2)<|Zh 2 DB V rfl A6 Y<|Zl AE Y<|Xr [_,_] Y UP Y V (G5 r q.cl G)<|AH Y<|B7 Y<|Zv (Bh Y)<|Zm Y<|Ab (t:=14) Y V (fun m=>?_) (fun m=>?_);·
  refine AG<|AG<|C5<|BT Y Y<|Zm Y<|AG<|AG<|BT Y Y<|Zm Y<|AG<|AG<|BT Y Y<|Z0<|Zn [2,3,32] ?_;refine Zx<|Cg Y<|Zq<|Bc<|Zg<|Za Y<|Ax Y<|Zt<|Di V results213 Y Y (by
   have g:Ia q b r=none:=rV (by exact .inl (by simpa using m));exact ⟨none,[],by rw [g];rfl,by rw [g];exact ⟨rfl,rfl⟩,rfl⟩)
 refine Yf 0 H3 V rfl A6 Y<|Yl AE Y<|Yf 1 DB V rfl A6 Y<|Yl AE Y<|Yg (GK Y Y)<|BW Y Y<|Zm Y<|Ae (t:=21) Y V (fun h2=>?_) (fun h2=>?_);focus
  refine AG<|AG<|BT Y Y<|Zm Y<|AG<|AG<|BT Y Y<|Z0<|Zn [2,3,32] ?_;refine Zx<|Cg Y ?_
 rotate_left
 focus
  refine Zf Y Y<|Yf 3 DB V rfl A6 Y<|Yl AE Y<|Yg (Dz Y Y)<|BW Y Y<|Zm Y<|Ae (t:=27) Y V (fun J=>?_) (fun J=>?_);focus
   refine AG<|AG<|BT Y Y<|Z0<|Zn [2,3,32] ?_;refine Zx<|Cg Y ?_
  rotate_left
  focus
   refine Zf Y Y<|Yf 4 DB V rfl A6 Y<|Yl AE Y<|Yg (Ev Y Y)<|BW Y Y<|Z0<|Zn [2,3,32] ?_;refine Zx<|Ap Y (fun K=>?_) (fun K=>?_);rotate_left;refine AC<|CD<|Zo Wh (AA (cs:=#[_,_,_,_,_]) DE B3 Y B9 B2)<|Zh 5 DB V rfl A6 Y<|Zl AE Y<|Xr [_,_] Y UP Y V (G5 r q.bq B)<|Za Y<|Ax Y<|Di V results213 Y Y (by
    have g:Ia q b r=some r:=xI (by simpa using m) A0;exact ⟨_,_,by rw [g];rfl,by rw [g];exact ⟨I,rfl,rfl⟩,rfl⟩)
 all_goals
  refine Zq<|Bc<|Zg<|Za Y<|Ax Y<|Zt<|Di V results213 Y Y (by
   have g:Ia q b r=none:=rV (by exact .inr A0);exact ⟨none,[],by rw [g];rfl,by rw [g];exact ⟨rfl,rfl⟩,rfl⟩)
theorem Uv(c:Chg):Az prog 214 #[.agg c.A87] [] (.tuple #[.agg #[I0 (ER c c.had c.o).t,I0 (ER c c.had c.o).k,I0 (ER c c.had c.o).v.a,I0 (ER c c.had c.o).v.b,I0 (ER c c.had c.o).v.c],.bool c.had]):=by
 refine Se func214 ntmps214 [0] ?_;intro u R;refine A3<|Ze (Bx #[_,_,_,_,_,_,_,_,_,_])<|AF fun g=>Ze (Al G1 #[_,_,_,_,_])<|AF fun m=>AH Y<|A3<|Zo Wh (AA (cs:=#[_,_,_,_,_,_,_,_,_,_]) HG Cd Y B9 B2)<|Zh 2 CC V rfl FA Y<|Zl GW Y<|Zh 3 CC V rfl E0 Y<|Zo Wh (AA (cs:=#[_,_,_]) HS E0 Y B9 B2)<|Xr [_,_,_] Y call175 Y V (WY c c.had c.o)<|Zd Y V<|Zd Y V<|Xe (Xw B3 _)<|B1 Y<|Zn [2,3] ?_;refine Zx<|AJ<|CP V results214 Y Wh (Av DE B3 Wn (V)) Y (by exact ⟨V,V⟩)
set_option maxHeartbeats 1000000 in
theorem Jc(q:QM)(G:0<=q.cl/\q.cl<=3)(B:0<=q.bq/\q.bq<=3)(c:Chg):BQ prog 151 #[.agg q.A89,.agg c.A87] [] (fun v H'=>∃I J s1 s2,v= .agg (q.HH c I J (mQ q (bfQ q c)) (mQ q (afQ q c)))/\Ib I (bfQ q c) s1/\Ib J (afQ q c) s2/\H'=[s1,s2]):=by
 refine Se func151 ntmps151 [0,1] ?_;intro u R;refine A3<|Ze (Bx #[_,_,_,_,_,_,_])<|AF fun bq=>Ze (Bx #[_,_,_,_,_,_,_,_,_,_])<|AF fun U=>Ze (Dm zeroValue259 (cs:=#[I0 0,I0 0,I0 0,I0 0,I0 0,I0 0,I0 0,I0 0,I0 0,.bool false,I0 0,I0 0,I0 0,.bool false,I0 0,I0 0,I0 0,.pointer none,.pointer none,I0 0,I0 0]) AD)<|AF fun X=>A5<|A3<|Zo Wh (AA (cs:=#[_,_,_,_,_,_,_]) FG D4 Y B9 B2) ?_;refine Zo Wh (AA (cs:=#[_,_,_,_,_,_,_,_,_,_]) HG Cd Y B9 B2) ?_;refine Zv (BM (vs:=[(0,.agg q.A89),(1,.agg c.A87)]) (cs:=(q.HH c none none 0 0)) Y (Aa (pl:=#[(0,7),(7,10),(17,1),(18,1),(19,1),(20,1)]) zeroValue259 Fl (fun _=>by kernel_rfl) AD))<|Ze (Dm zeroValue259 (cs:=#[I0 0,I0 0,I0 0,I0 0,I0 0,I0 0,I0 0,I0 0,I0 0,.bool false,I0 0,I0 0,I0 0,.bool false,I0 0,I0 0,I0 0,.pointer none,.pointer none,I0 0,I0 0]) AD)<|AF fun W=>Xe (BF cA Y Y ju Wu (by exact D9 rfl) Fm An (by exact BA _)) ?_;refine A5<|A3<|Zv (Bg (vs:=[]) (us:=[_]) Y Y)<|AH Y<|AN Y<|Zo Wh (AA (cs:=#[_,_,_,_,_,_,_,_,_,_]) HG Cd Y B9 B2) ?_;refine Xr [_] Y call214 Y V (Uv c) ?_;refine Zd Y V<|Zd Y V<|Zc [_,_] Y call213 Y V (OI q G B bq (ER c c.had c.o) c.had) ?_;rintro _ _ ⟨_,⟨I,s1,rfl,g,rfl⟩,rfl⟩;have K:Ia q c.had (ER c c.had c.o)=bfQ q c:=ZQ q c c.had c.o
 rw [K]at g⊢;refine Zm Y<|Zd Y V<|Zd Y V<|Zh 17 Fl V rfl NO Y<|Xe (Zs NO Y Y V (hi:=by(simp;done))) ?_;refine Zh 19 Fl V rfl A6 Y<|Xe (Zs A6 Y Y V (hi:=by(simp;done))) ?_;refine Z0<|Zn [3,4,5,6] ?_;refine Zx<|AN Y<|Zo Wh (AA (cs:=#[_,_,_,_,_,_,_,_,_,_]) HG Cd Y B9 B2) ?_;refine Xr [_] Y call122 Y V (OM c) ?_;refine Zd Y V<|Zd Y V<|Zc [_,_] Y call213 Y V (OI q G B bq (ER c c.has c.n) c.has) ?_;rintro _ _ ⟨_,⟨J,s2,rfl,m,rfl⟩,rfl⟩;have O:Ia q c.has (ER c c.has c.n)=afQ q c:=ZQ q c c.has c.n
 rw [O]at m⊢;refine Zm Y<|Zd Y V<|Zd Y V<|Zh 18 Fl V rfl NO Y<|Xe (Zs NO Y Y V (hi:=by(simp;done))) ?_;refine Zh 20 Fl V rfl A6 Y<|Xe (Zs A6 Y Y V (hi:=by(simp;done))) ?_;refine Z0<|Zn [4,5] ?_;refine CD<|Zo Wh (AA cn cA Y B9 (by exact Au V)) ?_;refine Xe (BF cA Y Y ju Wu (by exact D9 rfl) Fm An (by exact BA _)) ?_;refine A5<|AJ<|Cv V results151 Y Wh (Av cn cA Wn (Au V)) (by exact ⟨I,J,s1,s2,V,g,m,V⟩)
theorem GD(q:QM)(c:Chg)(g m:B8)(o n:Int):(Value.agg (q.HH c g m o n)).cells=(q.HH c g m o n):=by simp [Value.cells]
theorem aj(q:QM)(c:Chg)(g m:B8)(o n:Int):Az prog 200 #[.agg (q.HH c g m o n)] [] (.bool (g.isSome||m.isSome)):=by
 refine Se func200 ntmps200 [0] ?_;intro u R;refine A3<|Ze (FN Y (cs:=(q.HH c g m o n)) (GD q c g m o n))<|AF fun G=>AH Y<|A3<|Zh 17 Fl V rfl NO Y<|Zl RM Y ?_;refine Zv (Fp Wc Y Y)<|Zm Y<|Ab (t:=6) Y V (fun B=>?_) (fun B=>?_);focus
  refine AG<|C5<|Zv (AL Y Y) ?_
 rotate_left
 focus
  refine Yf 18 Fl V rfl NO Y<|Yl RM Y ?_;refine Yg (Fp Wc Y Y)<|Zv (AO Y Y) ?_
 all_goals
  refine Ax Y<|AX rfl results200 Y (by exact ⟨by first|rfl|simp [B],rfl⟩)
theorem Sr(q:QM)(c:Chg)(g m:B8)(o n:Int):Az prog 202 #[.agg (q.HH c g m o n)] [] (.bool (g.isSome !=m.isSome)):=by
 refine Se func202 ntmps202 [0] ?_;intro u R;refine A3<|Ze (FN Y (cs:=(q.HH c g m o n)) (GD q c g m o n))<|AF fun B=>AH Y<|A3<|Zh 17 Fl V rfl NO Y<|Zl RM Y ?_;refine Zv (NU Wc Y Y)<|Zh 18 Fl V rfl NO Y<|Zl RM Y ?_;refine Zv (NU Wc Y Y)<|Zv (J7 Mn Y Y)<|Ax Y<|AX V results202 Y (by exact ⟨by cases g<;>cases m<;>rfl,V⟩)
theorem xk(q:QM)(c:Chg)(g m:B8)(o n:Int):Az prog 204 #[.agg (q.HH c g m o n)] [] (.bool (decide (o≠n))):=by
 refine Se func204 ntmps204 [0] ?_;intro u R;refine A3<|Ze (FN Y (cs:=(q.HH c g m o n)) (GD q c g m o n))<|AF fun B=>AH Y<|A3<|Zh 19 Fl rfl rfl A6 Y<|Zl AE Y<|Zh 20 Fl rfl rfl A6 Y<|Zl AE Y<|Zv (GK Y Y)<|Ax Y<|AX rfl results204 Y (by exact ⟨by first|rfl|simp,rfl⟩)
theorem xh(q:QM)(c:Chg)(g m:B8)(o n:Int):Az prog 206 #[.agg (q.HH c g m o n)] [] (.bool ((g.isSome !=m.isSome)||decide (o≠n))):=by
 refine Se func206 ntmps206 [0] ?_;intro u R;refine A3<|Ze (FN Y (cs:=(q.HH c g m o n)) (GD q c g m o n))<|AF fun G=>AH Y<|A3<|Zo Wh (AA cn cA Y B9 (Au V)) ?_;refine Xr [_] Y call202 Y V (Sr q c g m o n) ?_;refine Zm Y<|Ab (t:=5) Y V (fun B=>?_) (fun B=>?_);focus
  refine AG<|AG<|C5<|Zv (AL Y Y) ?_
 rotate_left
 focus
  refine Yf 19 Fl V rfl A6 Y<|Yl AE Y ?_;refine Yf 20 Fl V rfl A6 Y<|Yl AE Y ?_;refine Yg (GK Y Y)<|Zv (AO Y Y) ?_
 all_goals
  refine Ax Y<|AX V results206 Y (by exact ⟨by simp [B],V⟩)
theorem xg(q:QM)(c:Chg)(g m:B8)(o n:Int):Az prog 209 #[.agg (q.HH c g m o n)] [] (.bool ((g.isSome !=m.isSome)||decide (o≠n))):=by
 refine Se func209 ntmps209 [0] ?_;intro u R;refine A3<|Ze (FN Y (cs:=(q.HH c g m o n)) (GD q c g m o n))<|AF fun G=>AH Y<|A3<|Zo Wh (AA cn cA Y B9 (Au V)) ?_;refine Xr [_] Y call202 Y V (Sr q c g m o n) ?_;refine Zm Y<|Ab (t:=5) Y V (fun B=>?_) (fun B=>?_);focus
  refine AG<|AG<|C5<|Zv (AL Y Y) ?_
 rotate_left
 focus
  refine Yf 19 Fl V rfl A6 Y<|Yl AE Y ?_;refine Yf 20 Fl V rfl A6 Y<|Yl AE Y ?_;refine Yg (GK Y Y)<|Zv (AO Y Y) ?_
 all_goals
  refine Ax Y<|AX V results209 Y (by exact ⟨by simp [B],V⟩)
theorem xe(q:QM)(c:Chg)(g m:B8)(o n:Int):Az prog 211 #[.agg (q.HH c g m o n)] [] (.bool ((g.isSome||m.isSome)||decide (c.t=q.ot))):=by
 refine Se func211 ntmps211 [0] ?_;intro u R;refine A3<|Ze (FN Y (cs:=(q.HH c g m o n)) (GD q c g m o n))<|AF fun G=>AH Y<|A3<|Zo Wh (AA cn cA Y B9 (Au V))<|Xr [_] Y call200 Y V (aj q c g m o n)<|Zm Y<|Ab (t:=5) Y V (fun B=>?_) (fun B=>?_);focus
  refine AG<|AG<|AG<|C5<|Zv (AL Y Y) ?_
 rotate_left
 focus
  refine Yf 7 Fl V rfl Cd Y<|Yg (Ai (off:=0) CC V rfl A6 Y)<|Yl AE Y<|Yf 0 Fl V rfl D4 Y<|Yg (Ai (off:=6) DB V rfl A6 Y)<|Yl AE Y<|Yg (CJ Y Y)<|Zv (AO Y Y) ?_
 all_goals
  refine B1 Y<|Zn [2] ?_;refine Zx<|AJ<|AX V results211 Y (by exact ⟨by simp [B],V⟩)
end Go.Proofs.YtelliknjeemfoaaGreatDoor
