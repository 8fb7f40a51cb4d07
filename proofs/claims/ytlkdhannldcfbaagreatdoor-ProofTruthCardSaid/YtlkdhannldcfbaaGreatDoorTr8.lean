/- statetree: complete, Rows. -/
import Derived.Test.YtlkdhannldcfbaaGreatDoorTr7
set_option linter.unusedVariables false
set_option linter.unusedSimpArgs false
namespace Go.Proofs.YtlkdhannldcfbaaGreatDoor
open Go.Proofs.Tryz
open Go Go.RowKit Gw
set_option maxRecDepth 100000
attribute [local irreducible] Gw.At Gw.Nx Gw.Ops
def G5(M:List AU)(v:A4)(ps:List (List Bs)):Prop:=∃p cap,v= .slice p ps.length cap/\(ps.length<=maxLen/\ps.length<=cap)/\∀(i:Nat) (l:List Bs),ps[i]?=some l->∃q c,DK M (.slice q l.length c) l/\∃g off cur T zz,p=some ⟨g,off,none⟩/\(g,Obj.cells cur T zz)∈M/\cur[off+i]?=some (.slice q l.length c)
def Ql(M:List AU)(v:A4)(x:RP):Prop:=∃vr vp vt,v= .agg #[I4 x.tb,I4 x.cl,I4 x.lo,I4 x.hi,I4 x.ct,I4 x.fi,vr,vp,vt]/\Da M vr x.rows/\G5 M vp x.paths/\DK M vt x.roots
variable{v:A4}
theorem jb{e:AM}{ps:List (List Bs)}{m:List A4}{s O:List AU}(h:BZ 1 e v ps.length m s)(E:G6 O m ps)(hn:ps.length<=maxLen):G5 (s++O) v ps:=by
 rcases Lz ps.length with h0|h0
 · obtain ⟨b,cap,rfl⟩:=h.form
   exact ⟨b,cap,rfl,⟨hn,by omega⟩,fun i s I=>by rw [Lq h0]at I;simp at I⟩
 · obtain ⟨g,cap,cur,z,rfl,rfl,y,W⟩:=Iq h h0
   refine ⟨_,cap,V,⟨hn,y⟩,fun i l G=>?_⟩;have X:=(zt.1 G).1
   obtain ⟨w,K⟩:∃w,m[i]?=some w:=⟨_,zn (by have:=E.1;omega)⟩;have J:=E.2 i w l K G
   obtain ⟨q,c,U,Z,h2⟩:=id J;subst U;refine ⟨q,c,J.mono (fun c h=>DA _ h),g,0,cur,e,z,V,by simp,?_⟩;rw [C6];exact W i _ K
variable{M:List AU}
theorem G5.mono{M':List AU}{ls:List (List Bs)}(h:G5 M v ls)(m:∀c∈M,c∈M'):G5 M' v ls:=by
 obtain ⟨p,cap,e,I,G⟩:=h;refine ⟨p,cap,e,I,fun i s J=>?_⟩;obtain ⟨q,c,h0,g,off,cur,T,zz,y,E,h2⟩:=G i s J;exact ⟨q,c,h0.mono m,g,off,cur,T,zz,y,m _ E,h2⟩
theorem bg(v:A4)(p:Int)(rs:List AY)(s:List AU)(hv:Pk v p rs s)(J:BL rs)(hn:rs.length<=2000)(E:∀r∈rs,r.ok)(t c:Nat)(ht:t<=3)(hc:c<=3)(lo hi:Int)(y:lo<=hi)(m:AM)(I:Nat×Nat):
 Bz prog 48 #[v,I4 (t:Int),I4 (c:Int),I4 lo,I4 hi] [[(1,.cells (Di.map CB).toArray m I)],s] (fun r H'=>∃K mem,r= .tuple #[K,I4 0]/\Ql mem K (Eb rs t c lo hi)/\H'=[mem,[(1,.cells (Di.map CB).toArray m I)],s]):=by
 have Z:=mL;refine Dw (bu v p rs s hv J hn E t c ht hc lo hi y m I) V ?_;rintro r H' ⟨vr,vp,vt,G,sp,bf,mp,so,rfl,O,h2,U,W,rfl⟩;have X:=Fh J (t:Int) c
 have ax:toT (BI rs (t:Int) c) c hi<=(BI rs (t:Int) c).length:=Nat.min_le_right _ _;have g:=O7 (BI rs (t:Int) c) (CR (BI rs (t:Int) c) c lo) (toT (BI rs (t:Int) c) c hi -CR (BI rs (t:Int) c) c lo)
 have af:(((BI rs (t:Int) c).drop (CR (BI rs (t:Int) c) c lo)).take (toT (BI rs (t:Int) c) c hi -CR (BI rs (t:Int) c) c lo)).length<=2000:=by rw [zy,C0];omega
 refine ⟨_,⟨_,G++(sp++mp)++so,V,⟨vr,vp,vt,V,?_,?_,?_⟩,V⟩,by simp⟩;· exact (D6 O A0).mono (fun c h=>E3 _ (E3 _ h))
 · exact (jb (BH h2 g.symm rfl) U (by rw [g];omega)).mono (fun c h=>E3 _ (DA _ h))
 · exact (Eu (BH W (FO rs).symm rfl) (by rw [FO];omega)).mono (fun c h=>DA _ h)
def Xi(x:RP)(j:Nat)(r:AY):Prop:=r.ok/\r.t=x.tb/\(Bh r x.cl<x.lo->j=0)/\(x.hi<Bh r x.cl->x.rows.length<=j+1)
def RS(x:RP)(q r:AY):Prop:=Bh q x.cl<Bh r x.cl\/Bh q x.cl=Bh r x.cl/\q.k<r.k
structure Fp(x:RP):Prop where
 tc:(0<=x.tb/\x.tb<4)/\0<=x.cl/\x.cl<4
 lh:x.lo<=x.hi
 ct:0<=x.ct/\x.ct<=2000
 fi:0<=x.fi/\x.fi<=x.ct
 n:(x.rows.length:Int)<=x.ct -x.fi
 none:x.rows.length=0->x.ct=0
 all:∀(j:Nat) (r:AY),x.rows[j]?=some r->Xi x j r/\(0<j->∀q,x.rows[j -1]?=some q->RS x q r)
 first:∀r,x.rows[0]?=some r->x.fi=0\/Bh r x.cl<x.lo
 last:∀r,x.rows[x.rows.length -1]?=some r->x.fi+(x.rows.length:Int)=x.ct\/x.hi<Bh r x.cl
noncomputable instance(x:RP):Decidable (Fp x):=Classical.propDecidable _
theorem IJ{p:B7}{cap:Nat}(x:RP)(Z vt:A4)(O:Da M (.slice p x.rows.length cap) x.rows)(hc:0<=x.cl/\x.cl<=3)(J i:Nat)(r:AY)(G:x.rows[i]?=some r):BC prog 131 #[I4 (i:Int),I5 J] [[(J,.cells #[I4 x.tb,I4 x.cl,I4 x.lo,I4 x.hi,I4 x.ct,I4 x.fi,.slice p x.rows.length cap,Z,vt] 87 (0,0))],M] (I4 (Bh r x.cl)):=by
 have X:=mL;obtain ⟨p9,E,K,hl,U⟩:=O;injection K with e91 e92 e93
 subst e91 e93;obtain ⟨g,off,cur,T,zz,rfl,y,I,m⟩:=U i r G;have W:=(zt.1 G).1
 refine Se func131 ntmps131 [0,1] ?_;intro u R;refine A1<|A3 Y<|Zq<|BJ (n:=9) (0::1::0::7::15::0::32::127::255::[]) 128 AG AG V<|A2 0 V (AV (off:=6) C1 V rfl C4 Y)<|B2 1 V DO Y<|A2 2 V (AJ Y)<|A2 3 V (AO B4 Ax Y Y A0)<|Gf (b:=g) (x:= .cells cur T zz) (D':=31) 4 V rfl V (by simp [y]) (A9 (cs:=r.Ao5) C7 Ax Y A0 m) ?_;refine A2 5 V (AV (off:=1) C1 V rfl A5 Y)<|B2 6 V AE Y<|Yw 7 255 V (Zu [_,_] Y Q2 Y V (GU r x.cl hc))<|C3<|A2 8 V (BF Y)<|Ao<|Zx<|AA<|AC V results131 Y (by exact ⟨V,V⟩)
variable{x:RP}
set_option maxHeartbeats 4000000 in
theorem Nr(hv:Ql M v x):BC prog 69 #[v] [M] (.bool (decide (Fp x))):=by
 have tT:=mL;obtain ⟨vr,vp,vt,rfl,hR,hP,hT⟩:=hv;obtain ⟨p,cap,e9,hl,hg⟩:=id hR;subst e9;refine Se func69 ntmps69 [0] ?_;intro u R;refine A1<|Ze (Bx #[_,_,_,_,_,_,_,_,_])<|AF fun pb=>A3 Y<|A1<|Zh 6 C1 V rfl C4 Y<|Zl DO Y ?_;refine Zv (AP B4 Y)<|A3 Y<|Zq<|A1<|Zh 0 C1 V rfl A5 Y<|Zl AE Y ?_;refine Zh 1 C1 V rfl A5 Y<|Zl AE Y ?_;refine Xr [_,_] Y call104 Y V (RB x.tb x.cl) ?_;refine Zv (C9 Y)<|Zm Y<|Ai (t:=17) Y V (fun q8=>?_) (fun q8=>?_);·
  refine A7 Y V<|A7 Y V<|A7 Y V<|A7 Y V<|A7 Y V<|Zv (AR Y Y)<|Zm Y<|A7 Y V<|A7 Y V<|A7 Y V<|Zv (AR Y Y)<|Zm Y<|A7 Y V<|A7 Y V<|A7 Y V<|Zv (AR Y Y)<|Zm Y<|A7 Y V<|A7 Y V<|A7 Y V<|Zv (AR Y Y)<|Zm Y<|A7 Y V<|A7 Y V<|A7 Y V<|A7 Y V<|A7 Y V<|Zv (AR Y Y)<|Zm Y<|A7 Y V<|A7 Y V<|A7 Y V<|A7 Y V<|A7 Y V<|A7 Y V<|A7 Y V<|Zv (AR Y Y)<|Z0<|Zn [1,3,54] ?_;refine Zx<|CQ Y<|A1<|A3 Y<|AA<|Zt<|AC V Kd Y (by exact ⟨congrArg Value.bool (Bm (fun y:Fp x=>by have I:=y.tc;have J:=y.lh;have K:=y.ct;have O:=y.fi;have Z:=y.n;omega)).symm,V⟩)
 refine Yf 2 C1 V rfl A5 Y<|Yl AE Y ?_;refine Yf 3 C1 V rfl A5 Y<|Yl AE Y ?_;refine Yg (EI Y Y)<|Zv (AL Y Y)<|Zm Y<|Ai (t:=24) Y V (fun qa=>?_) (fun qa=>?_);·
  refine A7 Y V<|A7 Y V<|A7 Y V<|Zv (AR Y Y)<|Zm Y<|A7 Y V<|A7 Y V<|A7 Y V<|Zv (AR Y Y)<|Zm Y<|A7 Y V<|A7 Y V<|A7 Y V<|Zv (AR Y Y)<|Zm Y<|A7 Y V<|A7 Y V<|A7 Y V<|A7 Y V<|A7 Y V<|Zv (AR Y Y)<|Zm Y<|A7 Y V<|A7 Y V<|A7 Y V<|A7 Y V<|A7 Y V<|A7 Y V<|A7 Y V<|Zv (AR Y Y)<|Z0<|Zn [1,3,54] ?_;refine Zx<|CQ Y<|A1<|A3 Y<|AA<|Zt<|AC V Kd Y (by exact ⟨congrArg Value.bool (Bm (fun y:Fp x=>by have I:=y.tc;have J:=y.lh;have K:=y.ct;have O:=y.fi;have Z:=y.n;omega)).symm,V⟩)
 refine Yf 4 C1 V rfl A5 Y<|Yl AE Y ?_;refine Yg (ET Y Y)<|Zv (AL Y Y)<|Zm Y<|Ai (t:=29) Y V (fun qb=>?_) (fun qb=>?_);·
  refine A7 Y V<|A7 Y V<|A7 Y V<|Zv (AR Y Y)<|Zm Y<|A7 Y V<|A7 Y V<|A7 Y V<|Zv (AR Y Y)<|Zm Y<|A7 Y V<|A7 Y V<|A7 Y V<|A7 Y V<|A7 Y V<|Zv (AR Y Y)<|Zm Y<|A7 Y V<|A7 Y V<|A7 Y V<|A7 Y V<|A7 Y V<|A7 Y V<|A7 Y V<|Zv (AR Y Y)<|Z0<|Zn [1,3,54] ?_;refine Zx<|CQ Y<|A1<|A3 Y<|AA<|Zt<|AC V Kd Y (by exact ⟨congrArg Value.bool (Bm (fun y:Fp x=>by have I:=y.tc;have J:=y.lh;have K:=y.ct;have O:=y.fi;have Z:=y.n;omega)).symm,V⟩)
 refine Yf 4 C1 V rfl A5 Y<|Yl AE Y ?_;refine Yg (EI Y Y)<|Zv (AL Y Y)<|Zm Y<|Ai (t:=34) Y V (fun qc=>?_) (fun qc=>?_);·
  refine A7 Y V<|A7 Y V<|A7 Y V<|Zv (AR Y Y)<|Zm Y<|A7 Y V<|A7 Y V<|A7 Y V<|A7 Y V<|A7 Y V<|Zv (AR Y Y)<|Zm Y<|A7 Y V<|A7 Y V<|A7 Y V<|A7 Y V<|A7 Y V<|A7 Y V<|A7 Y V<|Zv (AR Y Y)<|Z0<|Zn [1,3,54] ?_;refine Zx<|CQ Y<|A1<|A3 Y<|AA<|Zt<|AC V Kd Y (by exact ⟨congrArg Value.bool (Bm (fun y:Fp x=>by have I:=y.tc;have J:=y.lh;have K:=y.ct;have O:=y.fi;have Z:=y.n;omega)).symm,V⟩)
 refine Yf 5 C1 V rfl A5 Y<|Yl AE Y ?_;refine Yg (ET Y Y)<|Zv (AL Y Y)<|Zm Y<|Ai (t:=39) Y V (fun qd=>?_) (fun qd=>?_);·
  refine A7 Y V<|A7 Y V<|A7 Y V<|A7 Y V<|A7 Y V<|Zv (AR Y Y)<|Zm Y<|A7 Y V<|A7 Y V<|A7 Y V<|A7 Y V<|A7 Y V<|A7 Y V<|A7 Y V<|Zv (AR Y Y)<|Z0<|Zn [1,3,54] ?_;refine Zx<|CQ Y<|A1<|A3 Y<|AA<|Zt<|AC V Kd Y (by exact ⟨congrArg Value.bool (Bm (fun y:Fp x=>by have I:=y.tc;have J:=y.lh;have K:=y.ct;have O:=y.fi;have Z:=y.n;omega)).symm,V⟩)
 refine Yf 5 C1 V rfl A5 Y<|Yl AE Y ?_;refine Yf 4 C1 V rfl A5 Y<|Yl AE Y ?_;refine Yg (EI Y Y)<|Zv (AL Y Y)<|Zm Y<|Ai (t:=46) Y V (fun qg=>?_) (fun qg=>?_);·
  refine A7 Y V<|A7 Y V<|A7 Y V<|A7 Y V<|A7 Y V<|A7 Y V<|A7 Y V<|Zv (AR Y Y)<|Z0<|Zn [1,3,54] ?_;refine Zx<|CQ Y<|A1<|A3 Y<|AA<|Zt<|AC V Kd Y (by exact ⟨congrArg Value.bool (Bm (fun y:Fp x=>by have I:=y.tc;have J:=y.lh;have K:=y.ct;have O:=y.fi;have Z:=y.n;omega)).symm,V⟩)
 refine Zf Y Y<|Yf 4 C1 V rfl A5 Y<|Yl AE Y ?_;refine Yf 5 C1 V rfl A5 Y<|Yl AE Y ?_
 (refine DV Y (HV Y Y (IntWalk.i64_in _ ?_)) rfl rfl ?_;(focus (first|omega|(simp;omega))))
 refine Yg (EI Y Y)<|Zv (AL Y Y)<|Z0<|Zn [1,3,54] ?_;refine Zx<|Ak Y (fun qh=>?_) (fun qh=>?_);·
  refine A1<|A3 Y<|AA<|Zt<|AC V Kd Y (by exact ⟨congrArg Value.bool (Bm (fun y:Fp x=>by have I:=y.tc;have J:=y.lh;have K:=y.ct;have O:=y.fi;have Z:=y.n;omega)).symm,V⟩)
 refine AB<|Zx<|Zq<|A1<|Zm Y<|Zv (Bb (n:=0) Y Y)<|AD<|Ak Y (fun hz=>?_) (fun hz=>?_);·
  refine A1<|Zh 4 C1 V rfl A5 Y<|Zl AE Y ?_;refine Zv (Br Y Y)<|A3 Y<|AA<|Zt<|AC V Kd Y (by exact ⟨GL ⟨fun y=>⟨by omega,by omega,by omega,by omega,by omega,fun _=>y,fun j r U=>by have:=(zt.1 U).1;omega,fun r U=>by have:=(zt.1 U).1;omega,fun r U=>by have:=(zt.1 U).1;omega⟩,fun y=>y.none hz⟩,V⟩)
 refine AB<|Zx<|A1<|Zv (Bt (vs:=[]) (us:=[_]) Y Y)<|A3 Y<|Zq<|A1<|Zh 6 C1 V rfl C4 Y<|Zl DO Y ?_;refine Zv (AP B4 Y)<|Zm Y<|AD<|AX<|Zb [64,1,3,4,62,63] ?_;refine BB (e0:=[(64,_)]) (fun m e H=>∃(i:Nat),m=x.rows.length -i/\(i<=x.rows.length/\∀(j:Nat) (r:AY),j<i->x.rows[j]?=some r->Xi x j r/\(0<j->∀q,x.rows[j -1]?=some q->RS x q r))/\e=[(64,I4 (i:Int))]/\H=[]) (by exact ⟨0,V,⟨C2 _,by intro j r U;omega⟩,V,V⟩) Wp ?_;rintro _ _ _ ⟨i,rfl,⟨hi,X⟩,rfl,rfl⟩;refine A1<|Zv (Au Y Y)<|AD<|Zq<|Ak Y (fun pq=>?_) (fun pq=>?_);·
  obtain ⟨r,hr⟩:∃r,x.rows[i]?=some r:=⟨_,zn pq⟩;obtain ⟨g,off,cur,T,zz,rfl,qA,sw,p9⟩:=hg i r hr;refine AB<|Zx<|Zq<|AX<|A1<|Zm Y<|Ap (AO B4 Ax Y Y A0)<|Ca (cs:=[(g,.cells cur T zz)]) (by simp [qA]) (A9 (cs:=r.Ao5) C7 Ax Y A0 p9) V rfl ?_;refine Ze (Al Dd #[_,_,_,_,_])<|AF fun rb=>Za Y<|Xe (Xw Ax r.Ao5) ?_;refine AD<|A1<|Zm Y<|Zm Y<|Xr [_] Y call131 Y V (IJ x vp vt hR A0 pb i r hr) ?_;refine A3 Y<|Zb [1,3,4,5,6,7,62,63,64] ?_;refine CL (e0:=[]) (H0:=[]) (fun e H=>∃(u9:Unit),(Xi x i r)/\e=[]/\H=[]) Wp ?hx_10 ?hy_10
  case hx_10=>
   refine A1<|Zo Wh (A9 (cs:=#[_,_,_,_,_]) C7 Ax Y B5 An) ?_;refine Xr [_] Y call132 Y V (SF r) ?_;refine Zv (C9 Y)<|Zm Y<|Ai (t:=75) Y V (fun qo=>?_) (fun qo=>?_);·
    refine A7 Y V<|A7 Y V<|A7 Y V<|A7 Y V<|A7 Y V<|Zv (AR Y Y)<|Zm Y<|A7 Y V<|A7 Y V<|A7 Y V<|A7 Y V<|A7 Y V<|A7 Y V<|A7 Y V<|A7 Y V<|Zv (AR Y Y)<|Zm Y<|A7 Y V<|A7 Y V<|A7 Y V<|A7 Y V<|A7 Y V<|A7 Y V<|A7 Y V<|A7 Y V<|A7 Y V<|A7 Y V<|Zv (AR Y Y)<|Z0<|Zn [1,3,4,5,6,7,62,63,64,103] ?_;refine Zx<|CQ Y<|A1<|A3 Y<|AA<|Zt<|Ab<|Zt<|Zt<|Ab<|Zt<|AC rfl Kd Y (by exact ⟨congrArg Value.bool (Bm (fun y:Fp x=>by obtain ⟨⟨I,J,K,O⟩,_⟩:=y.all i r hr;contradiction)).symm,rfl⟩)
   refine Yf 0 Ds V rfl A5 Y<|Yl AE Y ?_;refine Yf 0 C1 V rfl A5 Y<|Yl AE Y ?_;refine Yg (IC Y Y)<|Zv (AL Y Y)<|Zm Y<|Ai (t:=82) Y V (fun qw=>?_) (fun qw=>?_);·
    refine A7 Y V<|A7 Y V<|A7 Y V<|A7 Y V<|A7 Y V<|A7 Y V<|A7 Y V<|A7 Y V<|Zv (AR Y Y)<|Zm Y<|A7 Y V<|A7 Y V<|A7 Y V<|A7 Y V<|A7 Y V<|A7 Y V<|A7 Y V<|A7 Y V<|A7 Y V<|A7 Y V<|Zv (AR Y Y)<|Z0<|Zn [1,3,4,5,6,7,62,63,64,103] ?_;refine Zx<|CQ Y<|A1<|A3 Y<|AA<|Zt<|Ab<|Zt<|Zt<|Ab<|Zt<|AC rfl Kd Y (by exact ⟨congrArg Value.bool (Bm (fun y:Fp x=>by obtain ⟨⟨I,J,K,O⟩,_⟩:=y.all i r hr;omega)).symm,rfl⟩)
   refine Zf Y Y<|Yf 2 C1 V rfl A5 Y<|Yl AE Y ?_;refine Yg (ET Y Y)<|Zf Y Y ?_;refine Ai (t:=87) Y V (fun l9=>?_) (fun l9=>?_);·
    refine Zf Y Y<|Yg (CO (n:=0) Y Y)<|Yg (AR Y Y)<|Zv (AL Y Y)<|Zm Y<|Ai (t:=92) Y V (fun lv=>?_) (fun lv=>?_);·
     refine A7 Y V<|A7 Y V<|A7 Y V<|A7 Y V<|A7 Y V<|A7 Y V<|A7 Y V<|A7 Y V<|A7 Y V<|A7 Y V<|Zv (AR Y Y)<|Z0<|Zn [1,3,4,5,6,7,62,63,64,103] ?_;refine Zx<|CQ Y<|A1<|A3 Y<|AA<|Zt<|Ab<|Zt<|Zt<|Ab<|Zt<|AC rfl Kd Y (by exact ⟨congrArg Value.bool (Bm (fun y:Fp x=>by obtain ⟨⟨I,J,K,O⟩,_⟩:=y.all i r hr;omega)).symm,rfl⟩)
    refine Zf Y Y<|Yf 3 C1 V rfl A5 Y<|Yl AE Y ?_;refine Yg (EI Y Y)<|Zf Y Y ?_;refine Ai (t:=97) Y V (fun mR=>?_) (fun mR=>?_);·
     refine Zf Y Y<|Zf Y Y ?_
     (refine DV Y (Bo (n:=1) Y Y ?_ ?_) rfl rfl ?_;(focus (first|omega|(simp;omega)));(focus (first|omega|(simp;omega))))
     refine Yg (Au Y Y)<|Yg (AR Y Y)<|Zv (AL Y Y)<|Z0<|Zn [1,3,4,5,6,7,62,63,64,103] ?_;refine Zx<|Ak Y (fun o8=>?_) (fun o8=>?_);·
      refine A1<|A3 Y<|AA<|Zt<|Ab<|Zt<|Zt<|Ab<|Zt<|AC rfl Kd Y (by exact ⟨congrArg Value.bool (Bm (fun y:Fp x=>by obtain ⟨⟨I,J,K,O⟩,_⟩:=y.all i r hr;omega)).symm,rfl⟩)
     refine AB<|Zn [1,3,4,5,6,7,62,63,64] ?_;refine Aq (e':=[]) (by exact ⟨(),⟨by exact G2.1 dp,by omega,fun h=>by omega,fun h=>by omega⟩,V,V⟩)
    refine A7 Y V<|A7 Y V<|A7 Y V<|A7 Y V<|Yg (AL Y Y)<|Zv (AL Y Y)<|Z0<|Zn [1,3,4,5,6,7,62,63,64,103] ?_;refine Zx<|Dj Y<|AB<|Zn [1,3,4,5,6,7,62,63,64] ?_;refine Aq (e':=[]) (by exact ⟨(),⟨by exact G2.1 dp,by omega,fun h=>by omega,fun h=>by omega⟩,V,V⟩)
   refine A7 Y V<|A7 Y V<|Yg (AL Y Y)<|Zv (AL Y Y)<|Zm Y<|Zf Y Y<|Yf 3 C1 V rfl A5 Y<|Yl AE Y ?_;refine Yg (EI Y Y)<|Zf Y Y ?_;refine Ai (t:=97) Y V (fun o9=>?_) (fun o9=>?_);·
    refine Zf Y Y<|Zf Y Y ?_
    (refine DV Y (Bo (n:=1) Y Y ?_ ?_) rfl rfl ?_;(focus (first|omega|(simp;omega)));(focus (first|omega|(simp;omega))))
    refine Yg (Au Y Y)<|Yg (AR Y Y)<|Zv (AL Y Y)<|Z0<|Zn [1,3,4,5,6,7,62,63,64,103] ?_;refine Zx<|Ak Y (fun p8=>?_) (fun p8=>?_);·
     refine A1<|A3 Y<|AA<|Zt<|Ab<|Zt<|Zt<|Ab<|Zt<|AC rfl Kd Y (by exact ⟨congrArg Value.bool (Bm (fun y:Fp x=>by obtain ⟨⟨I,J,K,O⟩,_⟩:=y.all i r hr;omega)).symm,rfl⟩)
    refine AB<|Zn [1,3,4,5,6,7,62,63,64] ?_;refine Aq (e':=[]) (by exact ⟨(),⟨by exact G2.1 dp,by omega,fun h=>by omega,fun h=>by omega⟩,V,V⟩)
   refine A7 Y V<|A7 Y V<|A7 Y V<|A7 Y V<|Yg (AL Y Y)<|Zv (AL Y Y)<|Z0<|Zn [1,3,4,5,6,7,62,63,64,103] ?_;refine Zx<|Dj Y<|AB<|Zn [1,3,4,5,6,7,62,63,64] ?_;refine Aq (e':=[]) (by exact ⟨(),⟨by exact G2.1 dp,by omega,fun h=>by omega,fun h=>by omega⟩,V,V⟩)
  rintro _ _ ⟨u9,cu,rfl,rfl⟩;refine Zq<|BJ (n:=30) (0::1::3::7::7::7::39::119::255::511::1023::1023::1023::5119::15359::32767::65535::131071::262143::131071::655359::131071::2228223::7995391::16383999::33161215::67108863::134217727::268435455::536870911::[]) 16512 AG AG V<|A2 0 V (AJ Y)<|A2 1 V (CO (n:=0) Y Y)<|A2 2 V (AJ Y)<|Cc (t:=106) Y (fun cO=>?_) (fun cO=>?_);·
   rw [CA cO];obtain ⟨q,hq⟩:∃q,x.rows[i -1]?=some q:=⟨_,zn A0⟩;obtain ⟨g2,sO,ek,T2,sj,gm,pz,kv,gq⟩:=hg (i -1) q hq;injection gm with gm
   injection gm with e291 e292
   subst e291 e292;have qz:ek[off+(i -1)*5+1]?=some (I4 q.k):=by rw [PU gq kv 1 A0];rfl
   refine B1 3 V (AJ Y)<|B1 4 V (AJ Y)<|B1 5 V (AJ Y) ?_
   (refine B1 6 rfl (Bo (n:=1) Y Y ?_ ?_) ?_;(focus (first|omega|(simp;omega)));(focus (first|omega|(simp;omega))))
   refine Yw 7 255 V (Zu [_] Y call131 Y V (IJ x vp vt hR A0 pb (i -1) q hq))<|C3<|B1 8 V (ET Y Y)<|B1 9 V (AJ Y)<|Cc (t:=113) Y (fun l8=>?_) (fun l8=>?_);·
    rw [CA l8];refine AW 10 V<|AW 11 V<|AW 12 V<|AW 13 V<|AW 14 V<|AW 15 V<|AW 16 V<|AW 17 V<|AW 18 V<|AW 19 V<|AW 20 V<|AW 21 V<|AW 22 V<|AW 23 V<|AW 24 V<|AW 25 V<|AW 26 V<|AW 27 V<|B1 28 V (AR Y Y)<|A2 29 V (AR Y Y)<|Ao<|Zn [1,3,4,62,63,64,133] ?_;refine Zx<|CQ Y<|A1<|A3 Y<|AA<|Ab<|Zt<|Zt<|Ab<|Zt<|AC V Kd Y (by exact ⟨congrArg Value.bool (Bm (fun y:Fp x=>by have ha:=(y.all i r hr).2 cO q hq;unfold RS at ha;omega)).symm,V⟩)
   rw [Bm l8];refine B1 10 V (AJ Y)<|B1 11 V (AJ Y)<|B1 12 V (AJ Y) ?_
   (refine B1 13 rfl (Bo (n:=1) Y Y ?_ ?_) ?_;(focus (first|omega|(simp;omega)));(focus (first|omega|(simp;omega))))
   refine Yw 14 32767 V (Zu [_] Y call131 Y V (IJ x vp vt hR A0 pb (i -1) q hq))<|C3<|B1 15 V (Br Y Y)<|B1 16 V (AJ Y)<|Cc (t:=120) Y (fun kz=>?_) (fun kz=>?_);·
    rw [CA kz];refine B1 17 V (AV (off:=1) Ds V rfl A5 Y)<|D4 18 V Wh (Bj AE Y An) ?_;refine B1 19 V (AV (off:=6) C1 V rfl C4 Y)<|D4 20 V Wh (Bj DO Y An) ?_;refine B1 21 V (AJ Y) ?_
    (refine B1 22 rfl (Bo (n:=1) Y Y ?_ ?_) ?_;(focus (first|omega|(simp;omega)));(focus (first|omega|(simp;omega))))
    refine B1 23 V (AO B4 Ax Y Y A0)<|B1 24 V (Aj (off:=1) Ds V rfl A5 Y)<|XB (b:=g) (x:= .cells ek T2 sj) (D':=67108863) 25 Y V rfl V (by simp [pz]) (Bj AE Y qz) ?_;refine B1 26 V (KI Y Y)<|B1 27 V (AR Y Y)<|B1 28 V (AL Y Y)<|A2 29 V (AR Y Y)<|Ao<|Zn [1,3,4,62,63,64,133] ?_;refine Zx<|Ak Y (fun qx=>?_) (fun qx=>?_);·
     refine A1<|A3 Y<|AA<|Ab<|Zt<|Zt<|Ab<|Zt<|AC V Kd Y (by exact ⟨congrArg Value.bool (Bm (fun y:Fp x=>by have ha:=(y.all i r hr).2 cO q hq;unfold RS at ha;omega)).symm,V⟩)
    refine AB<|A8<|Zx<|Zg<|Ya (n:=1) Y Y<|Zm Y<|Z0<|Zn [64,1,3,4,62,63] ?_;refine AZ (e':=[(64,_)]) (by
     exact ⟨i+1,V,⟨by omega,fun j r9 U E=>by
      rcases DP j i with y|y
      · exact X j r9 y E
      · obtain rfl:j=i:=A0
        rw [hr]at E;injection E with E;subst E
        refine ⟨cu,fun pg q9 W=>?_⟩
        (rw [hq]at W;injection W with W;subst W;unfold RS;omega)⟩,rfl,rfl⟩)
   rw [Bm kz];refine AW 17 V<|AW 18 V<|AW 19 V<|AW 20 V<|AW 21 V<|AW 22 V<|AW 23 V<|AW 24 V<|AW 25 V<|AW 26 V<|B1 27 V (AL Y Y)<|B1 28 V (AL Y Y)<|A2 29 V (AR Y Y)<|Ao<|Zn [1,3,4,62,63,64,133] ?_;refine Zx<|Dj Y<|AB<|A8<|Zx<|Zg<|Ya (n:=1) Y Y<|Zm Y<|Z0<|Zn [64,1,3,4,62,63] ?_;refine AZ (e':=[(64,_)]) (by
    exact ⟨i+1,V,⟨by omega,fun j r9 U E=>by
     rcases DP j i with y|y
     · exact X j r9 y E
     · obtain rfl:j=i:=A0
       rw [hr]at E;injection E with E;subst E
       refine ⟨cu,fun pg q9 W=>?_⟩
       (rw [hq]at W;injection W with W;subst W;unfold RS;omega)⟩,rfl,rfl⟩)
  rw [Bm cO];refine AW 3 V<|AW 4 V<|AW 5 V<|AW 6 V<|AW 7 V<|AW 8 V<|AW 9 V<|AW 10 V<|AW 11 V<|AW 12 V<|AW 13 V<|AW 14 V<|AW 15 V<|AW 16 V<|AW 17 V<|AW 18 V<|AW 19 V<|AW 20 V<|AW 21 V<|AW 22 V<|AW 23 V<|AW 24 V<|AW 25 V<|AW 26 V<|AW 27 V<|AW 28 V<|A2 29 V (AL Y Y)<|Ao<|Zn [1,3,4,62,63,64,133] ?_;refine Zx<|Dj Y<|AB<|A8<|Zx<|Zg<|Ya (n:=1) Y Y<|Zm Y<|Z0<|Zn [64,1,3,4,62,63] ?_;refine AZ (e':=[(64,_)]) (by
   exact ⟨i+1,V,⟨by omega,fun j r9 U E=>by
    rcases DP j i with y|y
    · exact X j r9 y E
    · obtain rfl:j=i:=A0
      rw [hr]at E;injection E with E;subst E
      refine ⟨cu,fun pg q9 W=>?_⟩
      (exfalso;omega)⟩,rfl,rfl⟩)
 obtain ⟨r0,gy⟩:∃r,x.rows[0]?=some r:=⟨_,zn A0⟩;obtain ⟨rl,d9⟩:∃r,x.rows[x.rows.length -1]?=some r:=⟨_,zn A0⟩;have G:Fp x↔(x.fi=0\/Bh r0 x.cl<x.lo)/\(x.fi+(x.rows.length:Int)=x.ct\/x.hi<Bh rl x.cl):=⟨fun h=>⟨h.first r0 gy,h.last rl d9⟩,fun h=>⟨by omega,by omega,by omega,by omega,by omega,fun h0=>absurd h0 hz,fun j r U=>X j r (by have:=(zt.1 U).1;omega) U,fun r U=>by rw [gy]at U;injection U with U;rw [<-U];exact h.1,fun r U=>by rw [d9]at U;injection U with U;rw [<-U];exact h.2⟩⟩
 refine Aw<|Zt<|Zt<|AQ<|Zx<|Zq<|BJ (n:=29) (0::1::3::7::15::31::15::79::255::511::1023::2047::4095::2047::16383::2047::34815::131071::262143::524287::524287::1572863::4194303::524287::8912895::33554431::67108863::134217727::268435455::[]) 4194336 AG AG V<|A2 0 V (AV (off:=5) C1 V rfl A5 Y)<|B2 1 V AE Y ?_;refine A2 2 V (Br Y Y)<|A2 3 V (AJ Y)<|Cc (t:=138) Y (fun af=>?_) (fun af=>?_);·
  rw [CA af];refine AW 4 V<|AW 5 V<|AW 6 V<|AW 7 V<|AW 8 V<|A2 9 V (AR Y Y)<|A2 10 V (AJ Y)<|B1 11 V (AV (off:=5) C1 V rfl A5 Y)<|D4 12 V Wh (Bj AE Y An) ?_;refine B1 13 V (AJ Y) ?_
  (refine B1 14 rfl (EU Y Y (IntWalk.i64_in _ ?_)) ?_;(focus (first|omega|(simp;omega))))
  refine B1 15 V (AV (off:=4) C1 V rfl A5 Y)<|D4 16 V Wh (Bj AE Y An) ?_;refine B1 17 V (Br Y Y)<|B1 18 V (AJ Y)<|Cc (t:=153) Y (fun ax=>?_) (fun ax=>?_);·
   rw [CA ax];refine AW 19 V<|AW 20 V<|AW 21 V<|AW 22 V<|AW 23 V<|AW 24 V<|AW 25 V<|B1 26 V (AR Y Y)<|A2 27 V (AR Y Y)<|A2 28 V (BF Y)<|Ao<|Zn [2] ?_;refine Zx<|AA<|AC V Kd Y (by exact ⟨by exact congrArg Value.bool (CA (G.2 ⟨by omega,by omega⟩)).symm,V⟩)
  rw [Bm ax];refine B1 19 V (AJ Y)<|B1 20 V (AJ Y) ?_
  (refine B1 21 rfl (Bo (n:=1) Y Y ?_ ?_) ?_;(focus (first|omega|(simp;omega)));(focus (first|omega|(simp;omega))))
  refine B1 23 V (AV (off:=3) C1 V rfl A5 Y)<|D4 24 V Wh (Bj AE Y An) ?_;refine Yz 22 4194303 33554431 [24,16,12,1] [true,false,false,false] [(24,(_,_))] V Y V rfl V rfl (Zu [_] Y call131 Y V (IJ x vp vt hR A0 pb (x.rows.length -1) rl d9))<|C3<|BT<|B1 25 V (EI Y Y)<|B1 26 V (AL Y Y)<|A2 27 V (AR Y Y)<|A2 28 V (BF Y)<|Ao<|Zn [2] ?_;refine Zx<|AA<|AC V Kd Y (by exact ⟨by exact GL ⟨fun y=>G.2 ⟨by omega,by omega⟩,fun y=>by have:=G.1 y;omega⟩,V⟩)
 rw [Bm af];refine B1 4 V (AJ Y)<|B1 6 V (AV (off:=2) C1 V rfl A5 Y)<|D4 7 V Wh (Bj AE Y An) ?_;refine Yz 5 31 255 [7,1] [true,false] [(7,(_,_))] V Y V rfl V rfl (Zu [_] Y call131 Y V (IJ x vp vt hR A0 pb 0 r0 gy))<|C3<|BT<|B1 8 V (ET Y Y)<|A2 9 V (AL Y Y)<|A2 10 V (AJ Y)<|Cc (t:=145) Y (fun bf=>?_) (fun bf=>?_);·
  rw [CA bf];refine B1 11 V (AV (off:=5) C1 V rfl A5 Y)<|D4 12 V Wh (Bj AE Y An) ?_;refine B1 13 V (AJ Y) ?_
  (refine B1 14 rfl (EU Y Y (IntWalk.i64_in _ ?_)) ?_;(focus (first|omega|(simp;omega))))
  refine B1 15 V (AV (off:=4) C1 V rfl A5 Y)<|D4 16 V Wh (Bj AE Y An) ?_;refine B1 17 V (Br Y Y)<|B1 18 V (AJ Y)<|Cc (t:=153) Y (fun bn=>?_) (fun bn=>?_);·
   rw [CA bn];refine AW 19 V<|AW 20 V<|AW 21 V<|AW 22 V<|AW 23 V<|AW 24 V<|AW 25 V<|B1 26 V (AR Y Y)<|A2 27 V (AR Y Y)<|A2 28 V (BF Y)<|Ao<|Zn [2] ?_;refine Zx<|AA<|AC V Kd Y (by exact ⟨by exact congrArg Value.bool (CA (G.2 ⟨by omega,by omega⟩)).symm,V⟩)
  rw [Bm bn];refine B1 19 V (AJ Y)<|B1 20 V (AJ Y) ?_
  (refine B1 21 rfl (Bo (n:=1) Y Y ?_ ?_) ?_;(focus (first|omega|(simp;omega)));(focus (first|omega|(simp;omega))))
  refine B1 23 V (AV (off:=3) C1 V rfl A5 Y)<|D4 24 V Wh (Bj AE Y An) ?_;refine Yz 22 4194303 33554431 [24,16,12,7] [true,false,false,false] [(24,(_,_))] V Y V rfl V rfl (Zu [_] Y call131 Y V (IJ x vp vt hR A0 pb (x.rows.length -1) rl d9))<|C3<|BT<|B1 25 V (EI Y Y)<|B1 26 V (AL Y Y)<|A2 27 V (AR Y Y)<|A2 28 V (BF Y)<|Ao<|Zn [2] ?_;refine Zx<|AA<|AC V Kd Y (by exact ⟨by exact GL ⟨fun y=>G.2 ⟨by omega,by omega⟩,fun y=>by have:=G.1 y;omega⟩,V⟩)
 rw [Bm bf];refine AW 11 V<|AW 12 V<|AW 13 V<|AW 14 V<|AW 15 V<|AW 16 V<|AW 17 V<|AW 18 V<|AW 19 V<|AW 20 V<|AW 21 V<|AW 22 V<|AW 23 V<|AW 24 V<|AW 25 V<|AW 26 V<|A2 27 V (AL Y Y)<|A2 28 V (BF Y)<|Ao<|Zn [2] ?_;refine Zx<|AA<|AC V Kd Y (by exact ⟨by exact congrArg Value.bool (Bm (fun y=>by have:=G.1 y;omega)).symm,V⟩)
def inB(x:RP)(r:AY):Bool:=decide (x.lo<=Bh r x.cl/\Bh r x.cl<=x.hi)
noncomputable def ES(x:RP):List AY:=if Fp x then x.rows.filter (inB x)else []
theorem Q6(h:Fp x):ES x=x.rows.filter (inB x):=B0 h
theorem wu(h:¬Fp x):ES x=[]:=As h
theorem qf{i:Nat}{r:AY}(g:x.rows[i]?=some r)(h:inB x r=true):(x.rows.take (i+1)).filter (inB x)=(x.rows.take i).filter (inB x)++[r]:=by rw [C8 g,KB];simp [h]
theorem XM{i:Nat}{r:AY}(g:x.rows[i]?=some r)(h:inB x r=false):(x.rows.take (i+1)).filter (inB x)=(x.rows.take i).filter (inB x):=by rw [C8 g,KB];simp [h]
set_option maxHeartbeats 4000000 in
theorem V9(hv:Ql M v x):Bz prog 156 #[v] [M] (fun r H'=>∃vr sr,r= .tuple #[vr,.bool (decide (Fp x))]/\BZ 5 98 vr (ES x).length (Ac (ES x)) sr/\H'=[sr,M]):=by
 have gm:=mL;obtain ⟨vr,vp,vt,rfl,hR,hP,hT⟩:=id hv;obtain ⟨p,cap,e9,hl,hg⟩:=id hR;subst e9;refine Se func156 ntmps156 [0] ?_;intro u R;refine A1<|Ze (Bx #[_,_,_,_,_,_,_,_,_])<|AF fun pb=>Za Y<|A3 Y<|Zq<|A1<|Zo Wh (A9 (cs:=#[_,_,_,_,_,_,_,_,_]) LI DE Y B5 An)<|Xr [_] Y call69 Y V (Nr hv)<|Zv (C9 Y)<|AD<|Ak Y (fun y=>?_) (fun y=>?_);·
  refine Bl<|A1<|Za Y<|A3 Y<|AA<|Zt<|Dv rfl results156 Y Y (by exact ⟨.slice none 0 0,[],by rw [Bm y],by rw [wu y];exact Ba 5 _,rfl⟩)
 have y:=G2.1 y;have bn:=y.tc
 have cu:=y.ct;have cO:=y.n
 have d9:=y.fi;refine AB<|Zx<|A1<|A3 Y<|Zq<|A1<|Zh 6 C1 V rfl C4 Y<|Zl DO Y<|Zv (AP B4 Y)<|Zm Y<|AD<|AX<|Bl<|Zb [4,14,1,12,13] ?_;refine BB (e0:=[(4,_),(14,_)]) (fun m e H=>∃(i:Nat) (vo:A4) (K:List AU),m=x.rows.length -i/\(i<=x.rows.length/\BZ 5 98 vo ((x.rows.take i).filter (inB x)).length (Ac ((x.rows.take i).filter (inB x))) K)/\e=[(4,vo),(14,I4 (i:Int))]/\H=[K]) (by exact ⟨0,.slice none 0 0,[],rfl,⟨C2 _,by rw [Hj];exact Ba 5 _⟩,rfl,rfl⟩) Wp ?_;rintro _ _ _ ⟨i,vo,K,rfl,⟨hi,G⟩,rfl,rfl⟩;obtain ⟨qo,co,rfl⟩:=G.form;have ek:((x.rows.take i).filter (inB x)).length<=i:=SZ (SJ _ _) (cI _ _)
 refine A1<|Zv (Au Y Y)<|AD<|Zq<|Ak Y (fun U=>?_) (fun U=>?_);·
  obtain ⟨r,J⟩:∃r,x.rows[i]?=some r:=⟨_,zn U⟩;obtain ⟨g,off,cur,T,zz,rfl,Z,af,O⟩:=hg i r J;refine AB<|Zx<|Zq<|AX<|A1<|Ap (AO B4 Ax Y Y A0)<|Ca (cs:=[(g,.cells cur T zz)]) (by simp [Z]) (A9 (cs:=r.Ao5) C7 Ax Y A0 O) V rfl<|Ze (Al Dd #[_,_,_,_,_])<|AF fun rb=>Xe (Xw Ax r.Ao5)<|AD<|A1<|Zo Wh (A9 (cs:=#[_,_,_,_,_]) C7 Ax Y B5 An)<|Zh 1 C1 V rfl A5 Y<|Zl AE Y<|Xr [_,_] Y Q2 Y V (GU r x.cl A0)<|A3 Y<|A1<|Zm Y<|Zh 2 C1 V rfl A5 Y<|Zl AE Y<|Zv (I1 Y Y)<|Zm Y<|Ai (t:=26) Y V (fun W=>?_) (fun W=>?_);·
   refine Zf Y Y<|Yf 3 C1 V rfl A5 Y<|Yl AE Y<|Yg (KI Y Y)<|Zv (AR Y Y)<|Z0<|Zn [1,4,6,12,13,14,31] ?_;refine Zx<|Ak Y (fun X=>?_) (fun X=>?_);·
    have E:inB x r=true:=CA A0;refine Zg<|Zm Y<|Zo Wh (A9 (cs:=#[_,_,_,_,_]) C7 Ax Y B5 An)<|Ze (Af (vs:=[_]) (cs:=[_,_,_,_,_]) B4 Ax Dd Y V rfl V rfl V)<|AF fun gb=>Ze (BR (by_:=40) (sz:=5) B4 (V:Tryz.prog.info? 98=some Tryz.t98) V rfl V rfl Y (G) Y (Dy 5 gb 1 1 98 (0,0) [I4 r.t,I4 r.k,I4 r.v.a,I4 r.v.b,I4 r.v.c] V) Wo Wo GF A0 A0) ?_;rintro _ _ ⟨gq,I,rfl⟩;obtain ⟨bf,ax,rfl⟩:=I.form;refine AH Y<|A8<|Zx<|Zg<|Ya (n:=1) Y Y<|Zm Y<|Z0<|Zn [4,14,1,12,13] ?_;refine AZ (e':=[(4,_),(14,_)]) (by exact ⟨i+1,_,_,rfl,⟨by omega,BH I (by rw [qf J E,zq];rfl) (by rw [qf J E,Bf];rfl)⟩,rfl,rfl⟩)
   have E:inB x r=false:=Bm A0;refine AB<|A8<|Zx<|Zg<|Ya (n:=1) Y Y<|Zm Y<|Z0<|Zn [4,14,1,12,13] ?_;refine AZ (e':=[(4,_),(14,_)]) (by exact ⟨i+1,_,K,rfl,⟨by omega,BH G (by rw [XM J E]) (by rw [XM J E])⟩,rfl,rfl⟩)
  have E:inB x r=false:=Bm A0;refine A7 Y V<|A7 Y V<|A7 Y V<|A7 Y V<|Zv (AL Y Y)<|Z0<|Zn [1,4,6,12,13,14,31] ?_;refine Zx<|Dj Y<|AB<|A8<|Zx<|Zg<|Ya (n:=1) Y Y<|Zm Y<|Z0<|Zn [4,14,1,12,13] ?_;refine AZ (e':=[(4,_),(14,_)]) (by exact ⟨i+1,_,K,rfl,⟨by omega,BH G (by rw [XM J E]) (by rw [XM J E])⟩,rfl,rfl⟩)
 have ei:i=x.rows.length:=by omega
 subst ei;rw [G0]at G⊢;refine Aw<|Zt<|Zt<|AQ<|Zx<|A1<|Zm Y<|Za Y<|A3 Y<|AA<|Dv rfl results156 Y Y (by exact ⟨.slice qo _ co,K,by rw [CA y],by rw [Q6 y];exact G,rfl⟩)
end Go.Proofs.YtlkdhannldcfbaaGreatDoor
