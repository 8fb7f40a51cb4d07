/- statetree: complete, Rows. -/
import Derived.Test.YthhakdmlpngcmaaGreatDoorTr7
set_option linter.unusedVariables false
set_option linter.unusedSimpArgs false
namespace Go.Proofs.YthhakdmlpngcmaaGreatDoor
open Go.Proofs.Tryz
open Go Go.RowKit Gw
set_option maxRecDepth 100000
attribute [local irreducible] Gw.At Gw.Nx Gw.Ops
def MW(M:List A9)(v:A4)(ps:List (List Bs)):Prop:=∃p cap,v= .slice p ps.length cap/\(ps.length<=maxLen/\ps.length<=cap)/\∀(i:Nat) (l:List Bs),ps[i]?=some l->∃q c,Ed M (.slice q l.length c) l/\∃g off cur T zz,p=some ⟨g,off,none⟩/\(g,Obj.cells cur T zz)∈M/\cur[off+i]?=some (.slice q l.length c)
def Y7(M:List A9)(v:A4)(x:RP):Prop:=∃vr vp vt,v= .agg #[I0 x.tb,I0 x.cl,I0 x.lo,I0 x.hi,I0 x.ct,I0 x.fi,vr,vp,vt]/\Di M vr x.rows/\MW M vp x.paths/\Ed M vt x.roots
variable{v:A4}{s:List A9}
theorem Vi{e:AK}{ps:List (List Bs)}{m:List A4}{W:List A9}(h:Bc 1 e v ps.length m s)(G:LP W m ps)(J:ps.length<=maxLen):MW (s++W) v ps:=by
 rcases PF ps.length with h0|h0
 · obtain ⟨b,cap,rfl⟩:=h.form
   exact ⟨b,cap,rfl,⟨J,by omega⟩,fun i s K=>by rw [Lz h0]at K;simp at K⟩
 · obtain ⟨g,cap,cur,z,rfl,rfl,B,X⟩:=Lg h h0
   refine ⟨_,cap,V,⟨J,B⟩,fun i l I=>?_⟩;have af:=(C4.1 I).1
   obtain ⟨w,U⟩:∃w,m[i]?=some w:=⟨_,BT (by have:=G.1;omega)⟩;have O:=G.2 i w l U I
   obtain ⟨q,c,e1,h1,h2⟩:=id O;subst e1;refine ⟨q,c,O.mono (fun c h=>GB _ h),g,0,cur,e,z,V,by simp,?_⟩;rw [D4];exact X i _ U
variable{M' M:List A9}
theorem MW.mono{ls:List (List Bs)}(h:MW M v ls)(m:∀c∈M,c∈M'):MW M' v ls:=by
 obtain ⟨p,cap,e,I,G⟩:=h;refine ⟨p,cap,e,I,fun i s J=>?_⟩;obtain ⟨q,c,h0,g,off,cur,T,zz,e1,B,h2⟩:=G i s J;exact ⟨q,c,h0.mono m,g,off,cur,T,zz,e1,m _ B,h2⟩
theorem eT(v:A4)(p:Int)(rs:List AU)(s:List A9)(hv:PY v p rs s)(K:BN rs)(hn:rs.length<=2000)(G:∀r∈rs,r.ok)(t c:Nat)(ht:t<=3)(hc:c<=3)(lo hi:Int)(B:lo<=hi)(m:AK)(J:Nat×Nat):
 BS prog 90 #[v,I0 (t:Int),I0 (c:Int),I0 lo,I0 hi] [[(4,.cells (Ez.map Cw).toArray m J)],s] (fun r H'=>∃O mem,r= .tuple #[O,I0 0]/\Y7 mem O (Ew rs t c lo hi)/\H'=[mem,[(4,.cells (Ez.map Cw).toArray m J)],s]):=by
 have ax:=mL;refine Ga (eU v p rs s hv K hn G t c ht hc lo hi B m J) V ?_;rintro r H' ⟨vr,vp,vt,I,sp,cO,mp,so,rfl,U,h2,W,X,rfl⟩;have af:=JG K (t:Int) c
 have cu:toT (BP rs (t:Int) c) c hi<=(BP rs (t:Int) c).length:=pA _ _;have g:=fD (BP rs (t:Int) c) (CR (BP rs (t:Int) c) c lo) (toT (BP rs (t:Int) c) c hi -CR (BP rs (t:Int) c) c lo)
 have bn:(((BP rs (t:Int) c).drop (CR (BP rs (t:Int) c) c lo)).take (toT (BP rs (t:Int) c) c hi -CR (BP rs (t:Int) c) c lo)).length<=2000:=by rw [CD,CH];omega
 refine ⟨_,⟨_,I++(sp++mp)++so,V,⟨vr,vp,vt,V,?_,?_,?_⟩,V⟩,by simp⟩;· exact (Cy U A0).mono (fun c h=>Ek _ (Ek _ h))
 · exact (Vi (Ba h2 g.symm rfl) W (by rw [g];omega)).mono (fun c h=>Ek _ (GB _ h))
 · exact (Ho (Ba X (YJ rs).symm rfl) (by rw [YJ];omega)).mono (fun c h=>GB _ h)
def Y6(x:RP)(j:Nat)(r:AU):Prop:=r.ok/\r.t=x.tb/\(Bj r x.cl<x.lo->j=0)/\(x.hi<Bj r x.cl->x.rows.length<=j+1)
def UX(x:RP)(q r:AU):Prop:=Bj q x.cl<Bj r x.cl\/Bj q x.cl=Bj r x.cl/\q.k<r.k
structure Gg(x:RP):Prop where
 tc:(0<=x.tb/\x.tb<4)/\0<=x.cl/\x.cl<4
 lh:x.lo<=x.hi
 ct:0<=x.ct/\x.ct<=2000
 fi:0<=x.fi/\x.fi<=x.ct
 n:(x.rows.length:Int)<=x.ct -x.fi
 none:x.rows.length=0->x.ct=0
 all:∀(j:Nat) (r:AU),x.rows[j]?=some r->Y6 x j r/\(0<j->∀q,x.rows[j -1]?=some q->UX x q r)
 first:∀r,x.rows[0]?=some r->x.fi=0\/Bj r x.cl<x.lo
 last:∀r,x.rows[x.rows.length -1]?=some r->x.fi+(x.rows.length:Int)=x.ct\/x.hi<Bj r x.cl
noncomputable instance(x:RP):Decidable (Gg x):=Classical.propDecidable _
variable{p:B8}{cap:Nat}
theorem Hm(x:RP)(vp vt:A4)(U:Di M (.slice p x.rows.length cap) x.rows)(hc:0<=x.cl/\x.cl<=3)(K i:Nat)(r:AU)(I:x.rows[i]?=some r):BJ prog 270 #[I0 (i:Int),I1 K] [[(K,.cells #[I0 x.tb,I0 x.cl,I0 x.lo,I0 x.hi,I0 x.ct,I0 x.fi,.slice p x.rows.length cap,vp,vt] 171 (0,0))],M] (I0 (Bj r x.cl)):=by
 have af:=mL;obtain ⟨p9,G,O,hl,W⟩:=U;injection O with e91 e92 e93
 subst e91 e93;obtain ⟨g,off,cur,T,zz,rfl,B,J,m⟩:=W i r I;have X:=(C4.1 I).1
 refine Se func270 ntmps270 [0,1] ?_;intro u R;refine A1<|A5 Y<|Zq<|Aw (n:=9) (0::1::0::7::15::0::32::127::255::[]) 128 AF AF V<|A3 0 V (AA (off:=6) E6 V rfl D3 Y)<|BE 1 V GF Y<|A3 2 V (AO Y)<|A3 3 V (Ad C1 B3 Y Y A0)<|CV (b:=g) (x:= .cells cur T zz) (D':=31) 4 V rfl V (by simp [B]) (AB (cs:=r.A94) Cp B3 Y A0 m) ?_;refine A3 5 V (AA (off:=1) E6 V rfl AE Y)<|BE 6 V AH Y<|Yw 7 255 V (Zu [_,_] Y RM Y V (GD r x.cl hc))<|D0<|A3 8 V (Aq Y)<|Ag<|Zx<|AJ<|AP V results270 Y (by exact ⟨V,V⟩)
variable{x:RP}
set_option maxHeartbeats 4000000 in
theorem Ur(hv:Y7 M v x):BJ prog 234 #[v] [M] (.bool (decide (Gg x))):=by
 have vz:=mL;obtain ⟨vr,vp,vt,rfl,hR,hP,hT⟩:=hv;obtain ⟨p,cap,e9,hl,hg⟩:=id hR;subst e9;refine Se func234 ntmps234 [0] ?_;intro u R;refine A1<|Ze (Bx #[_,_,_,_,_,_,_,_,_])<|AG fun pb=>A5 Y<|A1<|Zh 6 E6 V rfl D3 Y<|Zl GF Y ?_;refine Zv (Ab C1 Y)<|A5 Y<|Zq<|A1<|Zh 0 E6 V rfl AE Y<|Zl AH Y ?_;refine Zh 1 E6 V rfl AE Y<|Zl AH Y ?_;refine Xr [_,_] Y call138 Y V (Qv x.tb x.cl) ?_;refine Zv (Cz Y)<|Zm Y<|Ao (t:=17) Y V (fun qb=>?_) (fun qb=>?_);·
  refine A7 Y V<|A7 Y V<|A7 Y V<|A7 Y V<|A7 Y V<|Zv (AX Y Y)<|Zm Y<|A7 Y V<|A7 Y V<|A7 Y V<|Zv (AX Y Y)<|Zm Y<|A7 Y V<|A7 Y V<|A7 Y V<|Zv (AX Y Y)<|Zm Y<|A7 Y V<|A7 Y V<|A7 Y V<|Zv (AX Y Y)<|Zm Y<|A7 Y V<|A7 Y V<|A7 Y V<|A7 Y V<|A7 Y V<|Zv (AX Y Y)<|Zm Y<|A7 Y V<|A7 Y V<|A7 Y V<|A7 Y V<|A7 Y V<|A7 Y V<|A7 Y V<|Zv (AX Y Y)<|Z0<|Zn [1,3,54] ?_;refine Zx<|DR Y<|A1<|A5 Y<|AJ<|Zt<|AP V LI Y (by exact ⟨congrArg Value.bool (Cl (fun B:Gg x=>by have J:=B.tc;have K:=B.lh;have O:=B.ct;have U:=B.fi;have ax:=B.n;omega)).symm,V⟩)
 refine Yf 2 E6 V rfl AE Y<|Yl AH Y ?_;refine Yf 3 E6 V rfl AE Y<|Yl AH Y ?_;refine Yg (Ef Y Y)<|Zv (AL Y Y)<|Zm Y<|Ao (t:=24) Y V (fun qj=>?_) (fun qj=>?_);·
  refine A7 Y V<|A7 Y V<|A7 Y V<|Zv (AX Y Y)<|Zm Y<|A7 Y V<|A7 Y V<|A7 Y V<|Zv (AX Y Y)<|Zm Y<|A7 Y V<|A7 Y V<|A7 Y V<|Zv (AX Y Y)<|Zm Y<|A7 Y V<|A7 Y V<|A7 Y V<|A7 Y V<|A7 Y V<|Zv (AX Y Y)<|Zm Y<|A7 Y V<|A7 Y V<|A7 Y V<|A7 Y V<|A7 Y V<|A7 Y V<|A7 Y V<|Zv (AX Y Y)<|Z0<|Zn [1,3,54] ?_;refine Zx<|DR Y<|A1<|A5 Y<|AJ<|Zt<|AP V LI Y (by exact ⟨congrArg Value.bool (Cl (fun B:Gg x=>by have J:=B.tc;have K:=B.lh;have O:=B.ct;have U:=B.fi;have ax:=B.n;omega)).symm,V⟩)
 refine Yf 4 E6 V rfl AE Y<|Yl AH Y ?_;refine Yg (EI Y Y)<|Zv (AL Y Y)<|Zm Y<|Ao (t:=29) Y V (fun ql=>?_) (fun ql=>?_);·
  refine A7 Y V<|A7 Y V<|A7 Y V<|Zv (AX Y Y)<|Zm Y<|A7 Y V<|A7 Y V<|A7 Y V<|Zv (AX Y Y)<|Zm Y<|A7 Y V<|A7 Y V<|A7 Y V<|A7 Y V<|A7 Y V<|Zv (AX Y Y)<|Zm Y<|A7 Y V<|A7 Y V<|A7 Y V<|A7 Y V<|A7 Y V<|A7 Y V<|A7 Y V<|Zv (AX Y Y)<|Z0<|Zn [1,3,54] ?_;refine Zx<|DR Y<|A1<|A5 Y<|AJ<|Zt<|AP V LI Y (by exact ⟨congrArg Value.bool (Cl (fun B:Gg x=>by have J:=B.tc;have K:=B.lh;have O:=B.ct;have U:=B.fi;have ax:=B.n;omega)).symm,V⟩)
 refine Yf 4 E6 V rfl AE Y<|Yl AH Y ?_;refine Yg (Ef Y Y)<|Zv (AL Y Y)<|Zm Y<|Ao (t:=34) Y V (fun qo=>?_) (fun qo=>?_);·
  refine A7 Y V<|A7 Y V<|A7 Y V<|Zv (AX Y Y)<|Zm Y<|A7 Y V<|A7 Y V<|A7 Y V<|A7 Y V<|A7 Y V<|Zv (AX Y Y)<|Zm Y<|A7 Y V<|A7 Y V<|A7 Y V<|A7 Y V<|A7 Y V<|A7 Y V<|A7 Y V<|Zv (AX Y Y)<|Z0<|Zn [1,3,54] ?_;refine Zx<|DR Y<|A1<|A5 Y<|AJ<|Zt<|AP V LI Y (by exact ⟨congrArg Value.bool (Cl (fun B:Gg x=>by have J:=B.tc;have K:=B.lh;have O:=B.ct;have U:=B.fi;have ax:=B.n;omega)).symm,V⟩)
 refine Yf 5 E6 V rfl AE Y<|Yl AH Y ?_;refine Yg (EI Y Y)<|Zv (AL Y Y)<|Zm Y<|Ao (t:=39) Y V (fun qw=>?_) (fun qw=>?_);·
  refine A7 Y V<|A7 Y V<|A7 Y V<|A7 Y V<|A7 Y V<|Zv (AX Y Y)<|Zm Y<|A7 Y V<|A7 Y V<|A7 Y V<|A7 Y V<|A7 Y V<|A7 Y V<|A7 Y V<|Zv (AX Y Y)<|Z0<|Zn [1,3,54] ?_;refine Zx<|DR Y<|A1<|A5 Y<|AJ<|Zt<|AP V LI Y (by exact ⟨congrArg Value.bool (Cl (fun B:Gg x=>by have J:=B.tc;have K:=B.lh;have O:=B.ct;have U:=B.fi;have ax:=B.n;omega)).symm,V⟩)
 refine Yf 5 E6 V rfl AE Y<|Yl AH Y ?_;refine Yf 4 E6 V rfl AE Y<|Yl AH Y ?_;refine Yg (Ef Y Y)<|Zv (AL Y Y)<|Zm Y<|Ao (t:=46) Y V (fun qx=>?_) (fun qx=>?_);·
  refine A7 Y V<|A7 Y V<|A7 Y V<|A7 Y V<|A7 Y V<|A7 Y V<|A7 Y V<|Zv (AX Y Y)<|Z0<|Zn [1,3,54] ?_;refine Zx<|DR Y<|A1<|A5 Y<|AJ<|Zt<|AP V LI Y (by exact ⟨congrArg Value.bool (Cl (fun B:Gg x=>by have J:=B.tc;have K:=B.lh;have O:=B.ct;have U:=B.fi;have ax:=B.n;omega)).symm,V⟩)
 refine Zf Y Y<|Yf 4 E6 V rfl AE Y<|Yl AH Y ?_;refine Yf 5 E6 V rfl AE Y<|Yl AH Y ?_
 (refine Gx Y (FU Y Y (IntWalk.i64_in _ ?_)) rfl rfl ?_;(focus (first|omega|(simp;omega))))
 refine Yg (Ef Y Y)<|Zv (AL Y Y)<|Z0<|Zn [1,3,54] ?_;refine Zx<|Av Y (fun qz=>?_) (fun qz=>?_);·
  refine A1<|A5 Y<|AJ<|Zt<|AP V LI Y (by exact ⟨congrArg Value.bool (Cl (fun B:Gg x=>by have J:=B.tc;have K:=B.lh;have O:=B.ct;have U:=B.fi;have ax:=B.n;omega)).symm,V⟩)
 refine AC<|Zx<|Zq<|A1<|Zm Y<|Zv (Cj (n:=0) Y Y)<|A6<|Av Y (fun hz=>?_) (fun hz=>?_);·
  refine A1<|Zh 4 E6 V rfl AE Y<|Zl AH Y ?_;refine Zv (CO Y Y)<|A5 Y<|AJ<|Zt<|AP V LI Y (by exact ⟨UE ⟨fun B=>⟨by omega,by omega,by omega,by omega,by omega,fun _=>B,fun j r W=>by have:=(C4.1 W).1;omega,fun r W=>by have:=(C4.1 W).1;omega,fun r W=>by have:=(C4.1 W).1;omega⟩,fun B=>B.none hz⟩,V⟩)
 refine AC<|Zx<|A1<|Zv (Bf (vs:=[]) (us:=[_]) Y Y)<|A5 Y<|Zq<|A1<|Zh 6 E6 V rfl D3 Y<|Zl GF Y ?_;refine Zv (Ab C1 Y)<|Zm Y<|A6<|AR<|Zb [64,1,3,4,62,63] ?_;refine BF (e0:=[(64,_)]) (fun m e H=>∃(i:Nat),m=x.rows.length -i/\(i<=x.rows.length/\∀(j:Nat) (r:AU),j<i->x.rows[j]?=some r->Y6 x j r/\(0<j->∀q,x.rows[j -1]?=some q->UX x q r))/\e=[(64,I0 (i:Int))]/\H=[]) (by exact ⟨0,V,⟨C7 _,by intro j r W;omega⟩,V,V⟩) Wp ?_;rintro _ _ _ ⟨i,rfl,⟨hi,af⟩,rfl,rfl⟩;refine A1<|Zv (Ay Y Y)<|A6<|Zq<|Av Y (fun pz=>?_) (fun pz=>?_);·
  obtain ⟨r,hr⟩:∃r,x.rows[i]?=some r:=⟨_,BT pz⟩;obtain ⟨g,off,cur,T,zz,rfl,sO,vo,pg⟩:=hg i r hr;refine AC<|Zx<|Zq<|AR<|A1<|Zm Y<|BZ (Ad C1 B3 Y Y A0)<|CS (cs:=[(g,.cells cur T zz)]) (by simp [sO]) (AB (cs:=r.A94) Cp B3 Y A0 pg) V rfl ?_;refine Ze (Al EV #[_,_,_,_,_])<|AG fun rb=>Za Y<|Xe (Xw B3 r.A94) ?_;refine A6<|A1<|Zm Y<|Zm Y<|Xr [_] Y call270 Y V (Hm x vp vt hR A0 pb i r hr) ?_;refine A5 Y<|Zb [1,3,4,5,6,7,62,63,64] ?_;refine Ch (e0:=[]) (H0:=[]) (fun e H=>∃(u9:Unit),(Y6 x i r)/\e=[]/\H=[]) Wp ?hx_10 ?hy_10
  case hx_10=>
   refine A1<|Zo Wh (AB (cs:=#[_,_,_,_,_]) Cp B3 Y B5 Ax) ?_;refine Xr [_] Y call195 Y V (SN r) ?_;refine Zv (Cz Y)<|Zm Y<|Ao (t:=75) Y V (fun sj=>?_) (fun sj=>?_);·
    refine A7 Y V<|A7 Y V<|A7 Y V<|A7 Y V<|A7 Y V<|Zv (AX Y Y)<|Zm Y<|A7 Y V<|A7 Y V<|A7 Y V<|A7 Y V<|A7 Y V<|A7 Y V<|A7 Y V<|A7 Y V<|Zv (AX Y Y)<|Zm Y<|A7 Y V<|A7 Y V<|A7 Y V<|A7 Y V<|A7 Y V<|A7 Y V<|A7 Y V<|A7 Y V<|A7 Y V<|A7 Y V<|Zv (AX Y Y)<|Z0<|Zn [1,3,4,5,6,7,62,63,64,103] ?_;refine Zx<|DR Y<|A1<|A5 Y<|AJ<|Zt<|Ac<|Zt<|Zt<|Ac<|Zt<|AP rfl LI Y (by exact ⟨congrArg Value.bool (Cl (fun B:Gg x=>by obtain ⟨⟨J,K,O,U⟩,_⟩:=B.all i r hr;contradiction)).symm,rfl⟩)
   refine Yf 0 Fo V rfl AE Y<|Yl AH Y ?_;refine Yf 0 E6 V rfl AE Y<|Yl AH Y ?_;refine Yg (KI Y Y)<|Zv (AL Y Y)<|Zm Y<|Ao (t:=82) Y V (fun sw=>?_) (fun sw=>?_);·
    refine A7 Y V<|A7 Y V<|A7 Y V<|A7 Y V<|A7 Y V<|A7 Y V<|A7 Y V<|A7 Y V<|Zv (AX Y Y)<|Zm Y<|A7 Y V<|A7 Y V<|A7 Y V<|A7 Y V<|A7 Y V<|A7 Y V<|A7 Y V<|A7 Y V<|A7 Y V<|A7 Y V<|Zv (AX Y Y)<|Z0<|Zn [1,3,4,5,6,7,62,63,64,103] ?_;refine Zx<|DR Y<|A1<|A5 Y<|AJ<|Zt<|Ac<|Zt<|Zt<|Ac<|Zt<|AP rfl LI Y (by exact ⟨congrArg Value.bool (Cl (fun B:Gg x=>by obtain ⟨⟨J,K,O,U⟩,_⟩:=B.all i r hr;omega)).symm,rfl⟩)
   refine Zf Y Y<|Yf 2 E6 V rfl AE Y<|Yl AH Y ?_;refine Yg (EI Y Y)<|Zf Y Y ?_;refine Ao (t:=87) Y V (fun l8=>?_) (fun l8=>?_);·
    refine Zf Y Y<|Yg (DN (n:=0) Y Y)<|Yg (AX Y Y)<|Zv (AL Y Y)<|Zm Y<|Ao (t:=92) Y V (fun l9=>?_) (fun l9=>?_);·
     refine A7 Y V<|A7 Y V<|A7 Y V<|A7 Y V<|A7 Y V<|A7 Y V<|A7 Y V<|A7 Y V<|A7 Y V<|A7 Y V<|Zv (AX Y Y)<|Z0<|Zn [1,3,4,5,6,7,62,63,64,103] ?_;refine Zx<|DR Y<|A1<|A5 Y<|AJ<|Zt<|Ac<|Zt<|Zt<|Ac<|Zt<|AP rfl LI Y (by exact ⟨congrArg Value.bool (Cl (fun B:Gg x=>by obtain ⟨⟨J,K,O,U⟩,_⟩:=B.all i r hr;omega)).symm,rfl⟩)
    refine Zf Y Y<|Yf 3 E6 V rfl AE Y<|Yl AH Y ?_;refine Yg (Ef Y Y)<|Zf Y Y ?_;refine Ao (t:=97) Y V (fun o8=>?_) (fun o8=>?_);·
     refine Zf Y Y<|Zf Y Y ?_
     (refine Gx Y (CQ (n:=1) Y Y ?_ ?_) rfl rfl ?_;(focus (first|omega|(simp;omega)));(focus (first|omega|(simp;omega))))
     refine Yg (Ay Y Y)<|Yg (AX Y Y)<|Zv (AL Y Y)<|Z0<|Zn [1,3,4,5,6,7,62,63,64,103] ?_;refine Zx<|Av Y (fun o9=>?_) (fun o9=>?_);·
      refine A1<|A5 Y<|AJ<|Zt<|Ac<|Zt<|Zt<|Ac<|Zt<|AP rfl LI Y (by exact ⟨congrArg Value.bool (Cl (fun B:Gg x=>by obtain ⟨⟨J,K,O,U⟩,_⟩:=B.all i r hr;omega)).symm,rfl⟩)
     refine AC<|Zn [1,3,4,5,6,7,62,63,64] ?_;refine BB (e':=[]) (by exact ⟨(),⟨by exact Hs.1 fN,by omega,fun h=>by omega,fun h=>by omega⟩,V,V⟩)
    refine A7 Y V<|A7 Y V<|A7 Y V<|A7 Y V<|Yg (AL Y Y)<|Zv (AL Y Y)<|Z0<|Zn [1,3,4,5,6,7,62,63,64,103] ?_;refine Zx<|DI Y<|AC<|Zn [1,3,4,5,6,7,62,63,64] ?_;refine BB (e':=[]) (by exact ⟨(),⟨by exact Hs.1 fN,by omega,fun h=>by omega,fun h=>by omega⟩,V,V⟩)
   refine A7 Y V<|A7 Y V<|Yg (AL Y Y)<|Zv (AL Y Y)<|Zm Y<|Zf Y Y<|Yf 3 E6 V rfl AE Y<|Yl AH Y ?_;refine Yg (Ef Y Y)<|Zf Y Y ?_;refine Ao (t:=97) Y V (fun p8=>?_) (fun p8=>?_);·
    refine Zf Y Y<|Zf Y Y ?_
    (refine Gx Y (CQ (n:=1) Y Y ?_ ?_) rfl rfl ?_;(focus (first|omega|(simp;omega)));(focus (first|omega|(simp;omega))))
    refine Yg (Ay Y Y)<|Yg (AX Y Y)<|Zv (AL Y Y)<|Z0<|Zn [1,3,4,5,6,7,62,63,64,103] ?_;refine Zx<|Av Y (fun p9=>?_) (fun p9=>?_);·
     refine A1<|A5 Y<|AJ<|Zt<|Ac<|Zt<|Zt<|Ac<|Zt<|AP rfl LI Y (by exact ⟨congrArg Value.bool (Cl (fun B:Gg x=>by obtain ⟨⟨J,K,O,U⟩,_⟩:=B.all i r hr;omega)).symm,rfl⟩)
    refine AC<|Zn [1,3,4,5,6,7,62,63,64] ?_;refine BB (e':=[]) (by exact ⟨(),⟨by exact Hs.1 fN,by omega,fun h=>by omega,fun h=>by omega⟩,V,V⟩)
   refine A7 Y V<|A7 Y V<|A7 Y V<|A7 Y V<|Yg (AL Y Y)<|Zv (AL Y Y)<|Z0<|Zn [1,3,4,5,6,7,62,63,64,103] ?_;refine Zx<|DI Y<|AC<|Zn [1,3,4,5,6,7,62,63,64] ?_;refine BB (e':=[]) (by exact ⟨(),⟨by exact Hs.1 fN,by omega,fun h=>by omega,fun h=>by omega⟩,V,V⟩)
  rintro _ _ ⟨u9,dn,rfl,rfl⟩;refine Zq<|Aw (n:=30) (0::1::3::7::7::7::39::119::255::511::1023::1023::1023::5119::15359::32767::65535::131071::262143::131071::655359::131071::2228223::7995391::16383999::33161215::67108863::134217727::268435455::536870911::[]) 16512 AF AF V<|A3 0 V (AO Y)<|A3 1 V (DN (n:=0) Y Y)<|A3 2 V (AO Y)<|DD (t:=106) Y (fun ek=>?_) (fun ek=>?_);·
   rw [D2 ek];obtain ⟨q,hq⟩:∃q,x.rows[i -1]?=some q:=⟨_,BT A0⟩;obtain ⟨g2,vw,gq,T2,ve,gy,qa,j5,ic⟩:=hg (i -1) q hq;injection gy with gy
   injection gy with e291 e292
   subst e291 e292;have sM:gq[off+(i -1)*5+1]?=some (I0 q.k):=by rw [PO ic j5 1 A0];rfl
   refine B1 3 V (AO Y)<|B1 4 V (AO Y)<|B1 5 V (AO Y) ?_
   (refine B1 6 rfl (CQ (n:=1) Y Y ?_ ?_) ?_;(focus (first|omega|(simp;omega)));(focus (first|omega|(simp;omega))))
   refine Yw 7 255 V (Zu [_] Y call270 Y V (Hm x vp vt hR A0 pb (i -1) q hq))<|D0<|B1 8 V (EI Y Y)<|B1 9 V (AO Y)<|DD (t:=113) Y (fun l5=>?_) (fun l5=>?_);·
    rw [D2 l5];refine AN 10 V<|AN 11 V<|AN 12 V<|AN 13 V<|AN 14 V<|AN 15 V<|AN 16 V<|AN 17 V<|AN 18 V<|AN 19 V<|AN 20 V<|AN 21 V<|AN 22 V<|AN 23 V<|AN 24 V<|AN 25 V<|AN 26 V<|AN 27 V<|B1 28 V (AX Y Y)<|A3 29 V (AX Y Y)<|Ag<|Zn [1,3,4,62,63,64,133] ?_;refine Zx<|DR Y<|A1<|A5 Y<|AJ<|Ac<|Zt<|Zt<|Ac<|Zt<|AP V LI Y (by exact ⟨congrArg Value.bool (Cl (fun B:Gg x=>by have ha:=(B.all i r hr).2 ek q hq;unfold UX at ha;omega)).symm,V⟩)
   rw [Cl l5];refine B1 10 V (AO Y)<|B1 11 V (AO Y)<|B1 12 V (AO Y) ?_
   (refine B1 13 rfl (CQ (n:=1) Y Y ?_ ?_) ?_;(focus (first|omega|(simp;omega)));(focus (first|omega|(simp;omega))))
   refine Yw 14 32767 V (Zu [_] Y call270 Y V (Hm x vp vt hR A0 pb (i -1) q hq))<|D0<|B1 15 V (CO Y Y)<|B1 16 V (AO Y)<|DD (t:=120) Y (fun kv=>?_) (fun kv=>?_);·
    rw [D2 kv];refine B1 17 V (AA (off:=1) Fo V rfl AE Y)<|DP 18 V Wh (BD AH Y Ax) ?_;refine B1 19 V (AA (off:=6) E6 V rfl D3 Y)<|DP 20 V Wh (BD GF Y Ax) ?_;refine B1 21 V (AO Y) ?_
    (refine B1 22 rfl (CQ (n:=1) Y Y ?_ ?_) ?_;(focus (first|omega|(simp;omega)));(focus (first|omega|(simp;omega))))
    refine B1 23 V (Ad C1 B3 Y Y A0)<|B1 24 V (Ap (off:=1) Fo V rfl AE Y)<|J2 (b:=g) (x:= .cells gq T2 ve) (D':=67108863) 25 Y V rfl V (by simp [qa]) (BD AH Y sM) ?_;refine B1 26 V (KJ Y Y)<|B1 27 V (AX Y Y)<|B1 28 V (AL Y Y)<|A3 29 V (AX Y Y)<|Ag<|Zn [1,3,4,62,63,64,133] ?_;refine Zx<|Av Y (fun sJ=>?_) (fun sJ=>?_);·
     refine A1<|A5 Y<|AJ<|Ac<|Zt<|Zt<|Ac<|Zt<|AP V LI Y (by exact ⟨congrArg Value.bool (Cl (fun B:Gg x=>by have ha:=(B.all i r hr).2 ek q hq;unfold UX at ha;omega)).symm,V⟩)
    refine AC<|A8<|Zx<|Zg<|Ya (n:=1) Y Y<|Zm Y<|Z0<|Zn [64,1,3,4,62,63] ?_;refine Aa (e':=[(64,_)]) (by
     exact ⟨i+1,V,⟨by omega,fun j r9 W G=>by
      rcases FA j i with B|B
      · exact af j r9 B G
      · obtain rfl:j=i:=A0
        rw [hr]at G;injection G with G;subst G
        refine ⟨dn,fun pq q9 X=>?_⟩
        (rw [hq]at X;injection X with X;subst X;unfold UX;omega)⟩,rfl,rfl⟩)
   rw [Cl kv];refine AN 17 V<|AN 18 V<|AN 19 V<|AN 20 V<|AN 21 V<|AN 22 V<|AN 23 V<|AN 24 V<|AN 25 V<|AN 26 V<|B1 27 V (AL Y Y)<|B1 28 V (AL Y Y)<|A3 29 V (AX Y Y)<|Ag<|Zn [1,3,4,62,63,64,133] ?_;refine Zx<|DI Y<|AC<|A8<|Zx<|Zg<|Ya (n:=1) Y Y<|Zm Y<|Z0<|Zn [64,1,3,4,62,63] ?_;refine Aa (e':=[(64,_)]) (by
    exact ⟨i+1,V,⟨by omega,fun j r9 W G=>by
     rcases FA j i with B|B
     · exact af j r9 B G
     · obtain rfl:j=i:=A0
       rw [hr]at G;injection G with G;subst G
       refine ⟨dn,fun pq q9 X=>?_⟩
       (rw [hq]at X;injection X with X;subst X;unfold UX;omega)⟩,rfl,rfl⟩)
  rw [Cl ek];refine AN 3 V<|AN 4 V<|AN 5 V<|AN 6 V<|AN 7 V<|AN 8 V<|AN 9 V<|AN 10 V<|AN 11 V<|AN 12 V<|AN 13 V<|AN 14 V<|AN 15 V<|AN 16 V<|AN 17 V<|AN 18 V<|AN 19 V<|AN 20 V<|AN 21 V<|AN 22 V<|AN 23 V<|AN 24 V<|AN 25 V<|AN 26 V<|AN 27 V<|AN 28 V<|A3 29 V (AL Y Y)<|Ag<|Zn [1,3,4,62,63,64,133] ?_;refine Zx<|DI Y<|AC<|A8<|Zx<|Zg<|Ya (n:=1) Y Y<|Zm Y<|Z0<|Zn [64,1,3,4,62,63] ?_;refine Aa (e':=[(64,_)]) (by
   exact ⟨i+1,V,⟨by omega,fun j r9 W G=>by
    rcases FA j i with B|B
    · exact af j r9 B G
    · obtain rfl:j=i:=A0
      rw [hr]at G;injection G with G;subst G
      refine ⟨dn,fun pq q9 X=>?_⟩
      (exfalso;omega)⟩,rfl,rfl⟩)
 obtain ⟨r0,j3⟩:∃r,x.rows[0]?=some r:=⟨_,BT A0⟩;obtain ⟨rl,gm⟩:∃r,x.rows[x.rows.length -1]?=some r:=⟨_,BT A0⟩;have I:Gg x↔(x.fi=0\/Bj r0 x.cl<x.lo)/\(x.fi+(x.rows.length:Int)=x.ct\/x.hi<Bj rl x.cl):=⟨fun h=>⟨h.first r0 j3,h.last rl gm⟩,fun h=>⟨by omega,by omega,by omega,by omega,by omega,fun h0=>absurd h0 hz,fun j r W=>af j r (by have:=(C4.1 W).1;omega) W,fun r W=>by rw [j3]at W;injection W with W;rw [<-W];exact h.1,fun r W=>by rw [gm]at W;injection W with W;rw [<-W];exact h.2⟩⟩
 refine Az<|Zt<|Zt<|AV<|Zx<|Zq<|Aw (n:=29) (0::1::3::7::15::31::15::79::255::511::1023::2047::4095::2047::16383::2047::34815::131071::262143::524287::524287::1572863::4194303::524287::8912895::33554431::67108863::134217727::268435455::[]) 4194336 AF AF V<|A3 0 V (AA (off:=5) E6 V rfl AE Y)<|BE 1 V AH Y ?_;refine A3 2 V (CO Y Y)<|A3 3 V (AO Y)<|DD (t:=138) Y (fun bn=>?_) (fun bn=>?_);·
  rw [D2 bn];refine AN 4 V<|AN 5 V<|AN 6 V<|AN 7 V<|AN 8 V<|A3 9 V (AX Y Y)<|A3 10 V (AO Y)<|B1 11 V (AA (off:=5) E6 V rfl AE Y)<|DP 12 V Wh (BD AH Y Ax) ?_;refine B1 13 V (AO Y) ?_
  (refine B1 14 rfl (Ha Y Y (IntWalk.i64_in _ ?_)) ?_;(focus (first|omega|(simp;omega))))
  refine B1 15 V (AA (off:=4) E6 V rfl AE Y)<|DP 16 V Wh (BD AH Y Ax) ?_;refine B1 17 V (CO Y Y)<|B1 18 V (AO Y)<|DD (t:=153) Y (fun cu=>?_) (fun cu=>?_);·
   rw [D2 cu];refine AN 19 V<|AN 20 V<|AN 21 V<|AN 22 V<|AN 23 V<|AN 24 V<|AN 25 V<|B1 26 V (AX Y Y)<|A3 27 V (AX Y Y)<|A3 28 V (Aq Y)<|Ag<|Zn [2] ?_;refine Zx<|AJ<|AP V LI Y (by exact ⟨by exact congrArg Value.bool (D2 (I.2 ⟨by omega,by omega⟩)).symm,V⟩)
  rw [Cl cu];refine B1 19 V (AO Y)<|B1 20 V (AO Y) ?_
  (refine B1 21 rfl (CQ (n:=1) Y Y ?_ ?_) ?_;(focus (first|omega|(simp;omega)));(focus (first|omega|(simp;omega))))
  refine B1 23 V (AA (off:=3) E6 V rfl AE Y)<|DP 24 V Wh (BD AH Y Ax) ?_;refine Yz 22 4194303 33554431 [24,16,12,1] [true,false,false,false] [(24,(_,_))] V Y V rfl V rfl (Zu [_] Y call270 Y V (Hm x vp vt hR A0 pb (x.rows.length -1) rl gm))<|D0<|Bk<|B1 25 V (Ef Y Y)<|B1 26 V (AL Y Y)<|A3 27 V (AX Y Y)<|A3 28 V (Aq Y)<|Ag<|Zn [2] ?_;refine Zx<|AJ<|AP V LI Y (by exact ⟨by exact UE ⟨fun B=>I.2 ⟨by omega,by omega⟩,fun B=>by have:=I.1 B;omega⟩,V⟩)
 rw [Cl bn];refine B1 4 V (AO Y)<|B1 6 V (AA (off:=2) E6 V rfl AE Y)<|DP 7 V Wh (BD AH Y Ax) ?_;refine Yz 5 31 255 [7,1] [true,false] [(7,(_,_))] V Y V rfl V rfl (Zu [_] Y call270 Y V (Hm x vp vt hR A0 pb 0 r0 j3))<|D0<|Bk<|B1 8 V (EI Y Y)<|A3 9 V (AL Y Y)<|A3 10 V (AO Y)<|DD (t:=145) Y (fun cO=>?_) (fun cO=>?_);·
  rw [D2 cO];refine B1 11 V (AA (off:=5) E6 V rfl AE Y)<|DP 12 V Wh (BD AH Y Ax) ?_;refine B1 13 V (AO Y) ?_
  (refine B1 14 rfl (Ha Y Y (IntWalk.i64_in _ ?_)) ?_;(focus (first|omega|(simp;omega))))
  refine B1 15 V (AA (off:=4) E6 V rfl AE Y)<|DP 16 V Wh (BD AH Y Ax) ?_;refine B1 17 V (CO Y Y)<|B1 18 V (AO Y)<|DD (t:=153) Y (fun d9=>?_) (fun d9=>?_);·
   rw [D2 d9];refine AN 19 V<|AN 20 V<|AN 21 V<|AN 22 V<|AN 23 V<|AN 24 V<|AN 25 V<|B1 26 V (AX Y Y)<|A3 27 V (AX Y Y)<|A3 28 V (Aq Y)<|Ag<|Zn [2] ?_;refine Zx<|AJ<|AP V LI Y (by exact ⟨by exact congrArg Value.bool (D2 (I.2 ⟨by omega,by omega⟩)).symm,V⟩)
  rw [Cl d9];refine B1 19 V (AO Y)<|B1 20 V (AO Y) ?_
  (refine B1 21 rfl (CQ (n:=1) Y Y ?_ ?_) ?_;(focus (first|omega|(simp;omega)));(focus (first|omega|(simp;omega))))
  refine B1 23 V (AA (off:=3) E6 V rfl AE Y)<|DP 24 V Wh (BD AH Y Ax) ?_;refine Yz 22 4194303 33554431 [24,16,12,7] [true,false,false,false] [(24,(_,_))] V Y V rfl V rfl (Zu [_] Y call270 Y V (Hm x vp vt hR A0 pb (x.rows.length -1) rl gm))<|D0<|Bk<|B1 25 V (Ef Y Y)<|B1 26 V (AL Y Y)<|A3 27 V (AX Y Y)<|A3 28 V (Aq Y)<|Ag<|Zn [2] ?_;refine Zx<|AJ<|AP V LI Y (by exact ⟨by exact UE ⟨fun B=>I.2 ⟨by omega,by omega⟩,fun B=>by have:=I.1 B;omega⟩,V⟩)
 rw [Cl cO];refine AN 11 V<|AN 12 V<|AN 13 V<|AN 14 V<|AN 15 V<|AN 16 V<|AN 17 V<|AN 18 V<|AN 19 V<|AN 20 V<|AN 21 V<|AN 22 V<|AN 23 V<|AN 24 V<|AN 25 V<|AN 26 V<|A3 27 V (AL Y Y)<|A3 28 V (Aq Y)<|Ag<|Zn [2] ?_;refine Zx<|AJ<|AP V LI Y (by exact ⟨by exact congrArg Value.bool (Cl (fun B=>by have:=I.1 B;omega)).symm,V⟩)
def inB(x:RP)(r:AU):Bool:=decide (x.lo<=Bj r x.cl/\Bj r x.cl<=x.hi)
noncomputable def ER(x:RP):List AU:=if Gg x then x.rows.filter (inB x)else []
theorem dw(h:Gg x):ER x=x.rows.filter (inB x):=As h
theorem tN(h:¬Gg x):ER x=[]:=An h
variable{i:Nat}
theorem vH{r:AU}(g:x.rows[i]?=some r)(h:inB x r=true):(x.rows.take (i+1)).filter (inB x)=(x.rows.take i).filter (inB x)++[r]:=by rw [Bl g,Hj];simp [h]
theorem Xi{r:AU}(g:x.rows[i]?=some r)(h:inB x r=false):(x.rows.take (i+1)).filter (inB x)=(x.rows.take i).filter (inB x):=by rw [Bl g,Hj];simp [h]
set_option maxHeartbeats 4000000 in
theorem lQ(hv:Y7 M v x):BS prog 186 #[v] [M] (fun r H'=>∃vr sr,r= .tuple #[vr,.bool (decide (Gg x))]/\Bc 5 80 vr (ER x).length (Ae (ER x)) sr/\H'=[sr,M]):=by
 have gy:=mL;obtain ⟨vr,vp,vt,rfl,hR,hP,hT⟩:=id hv;obtain ⟨p,cap,e9,hl,hg⟩:=id hR;subst e9;refine Se func186 ntmps186 [0] ?_;intro u R;refine A1<|Ze (Bx #[_,_,_,_,_,_,_,_,_])<|AG fun pb=>Za Y<|A5 Y<|Zq<|A1<|Zo Wh (AB (cs:=#[_,_,_,_,_,_,_,_,_]) isAgg171 N2 Y B5 Ax)<|Xr [_] Y call234 Y V (Ur hv)<|Zv (Cz Y)<|A6<|Av Y (fun B=>?_) (fun B=>?_);·
  refine Be<|A1<|Za Y<|A5 Y<|AJ<|Zt<|DF rfl results186 Y Y (by exact ⟨.slice none 0 0,[],by rw [Cl B],by rw [tN B];exact Bi 5 _,rfl⟩)
 have B:=Hs.1 B;have d9:=B.tc
 have dn:=B.ct;have ek:=B.n
 have gm:=B.fi;refine AC<|Zx<|A1<|A5 Y<|Zq<|A1<|Zh 6 E6 V rfl D3 Y<|Zl GF Y<|Zv (Ab C1 Y)<|Zm Y<|A6<|AR<|Be<|Zb [4,14,1,12,13] ?_;refine BF (e0:=[(4,_),(14,_)]) (fun m e H=>∃(i:Nat) (vo:A4) (O:List A9),m=x.rows.length -i/\(i<=x.rows.length/\Bc 5 80 vo ((x.rows.take i).filter (inB x)).length (Ae ((x.rows.take i).filter (inB x))) O)/\e=[(4,vo),(14,I0 (i:Int))]/\H=[O]) (by exact ⟨0,.slice none 0 0,[],rfl,⟨C7 _,by rw [J0];exact Bi 5 _⟩,rfl,rfl⟩) Wp ?_;rintro _ _ _ ⟨i,vo,O,rfl,⟨hi,I⟩,rfl,rfl⟩;obtain ⟨qo,co,rfl⟩:=I.form;have gq:((x.rows.take i).filter (inB x)).length<=i:=R0 (NO _ _) (List.length_take_le _ _)
 refine A1<|Zv (Ay Y Y)<|A6<|Zq<|Av Y (fun W=>?_) (fun W=>?_);·
  obtain ⟨r,K⟩:∃r,x.rows[i]?=some r:=⟨_,BT W⟩;obtain ⟨g,off,cur,T,zz,rfl,ax,bn,U⟩:=hg i r K;refine AC<|Zx<|Zq<|AR<|A1<|BZ (Ad C1 B3 Y Y A0)<|CS (cs:=[(g,.cells cur T zz)]) (by simp [ax]) (AB (cs:=r.A94) Cp B3 Y A0 U) V rfl<|Ze (Al EV #[_,_,_,_,_])<|AG fun rb=>Xe (Xw B3 r.A94)<|A6<|A1<|Zo Wh (AB (cs:=#[_,_,_,_,_]) Cp B3 Y B5 Ax)<|Zh 1 E6 V rfl AE Y<|Zl AH Y<|Xr [_,_] Y RM Y V (GD r x.cl A0)<|A5 Y<|A1<|Zm Y<|Zh 2 E6 V rfl AE Y<|Zl AH Y<|Zv (GV Y Y)<|Zm Y<|Ao (t:=26) Y V (fun X=>?_) (fun X=>?_);·
   refine Zf Y Y<|Yf 3 E6 V rfl AE Y<|Yl AH Y<|Yg (KJ Y Y)<|Zv (AX Y Y)<|Z0<|Zn [1,4,6,12,13,14,31] ?_;refine Zx<|Av Y (fun af=>?_) (fun af=>?_);·
    have G:inB x r=true:=D2 A0;refine Zg<|Zm Y<|Zo Wh (AB (cs:=#[_,_,_,_,_]) Cp B3 Y B5 Ax)<|Ze (Ai (vs:=[_]) (cs:=[_,_,_,_,_]) C1 B3 EV Y V rfl V rfl V)<|AG fun gb=>Ze (BV (by_:=40) (sz:=5) C1 (V:Tryz.prog.info? 80=some Tryz.t80) V rfl V rfl Y (I) Y (Db 5 gb 1 1 80 (0,0) [I0 r.t,I0 r.k,I0 r.v.a,I0 r.v.b,I0 r.v.c] V) Wo Wo G0 A0 A0) ?_;rintro _ _ ⟨ic,J,rfl⟩;obtain ⟨cO,cu,rfl⟩:=J.form;refine AW Y<|A8<|Zx<|Zg<|Ya (n:=1) Y Y<|Zm Y<|Z0<|Zn [4,14,1,12,13] ?_;refine Aa (e':=[(4,_),(14,_)]) (by exact ⟨i+1,_,_,rfl,⟨by omega,Ba J (by rw [vH K G,BW];rfl) (by rw [vH K G,Bo];rfl)⟩,rfl,rfl⟩)
   have G:inB x r=false:=Cl A0;refine AC<|A8<|Zx<|Zg<|Ya (n:=1) Y Y<|Zm Y<|Z0<|Zn [4,14,1,12,13] ?_;refine Aa (e':=[(4,_),(14,_)]) (by exact ⟨i+1,_,O,rfl,⟨by omega,Ba I (by rw [Xi K G]) (by rw [Xi K G])⟩,rfl,rfl⟩)
  have G:inB x r=false:=Cl A0;refine A7 Y V<|A7 Y V<|A7 Y V<|A7 Y V<|Zv (AL Y Y)<|Z0<|Zn [1,4,6,12,13,14,31] ?_;refine Zx<|DI Y<|AC<|A8<|Zx<|Zg<|Ya (n:=1) Y Y<|Zm Y<|Z0<|Zn [4,14,1,12,13] ?_;refine Aa (e':=[(4,_),(14,_)]) (by exact ⟨i+1,_,O,rfl,⟨by omega,Ba I (by rw [Xi K G]) (by rw [Xi K G])⟩,rfl,rfl⟩)
 have ei:i=x.rows.length:=by omega
 subst ei;rw [GC]at I⊢;refine Az<|Zt<|Zt<|AV<|Zx<|A1<|Zm Y<|Za Y<|A5 Y<|AJ<|DF rfl results186 Y Y (by exact ⟨.slice qo _ co,O,by rw [D2 B],by rw [dw B];exact I,rfl⟩)
structure rL(root:Bs)(x:RP):Prop where
 comp:Gg x
 n16:x.roots.length=16
 np:x.paths.length=x.rows.length
 root:Dl x.roots=root
 sum:∃d:Bs,d.length=32/\x.roots[4*x.tb.toNat+x.cl.toNat]?=some (UD x.ct++d)/\(x.ct=0->d=Dl [])/\
  (x.ct≠0->∀(k:Nat) (r:AU) (pf:List Bs),x.rows[k]?=some r->x.paths[k]?=some pf->xv d x.ct.toNat (x.fi.toNat+k) (QS r) pf=true)
noncomputable instance(root:Bs)(x:RP):Decidable (rL root x):=Classical.propDecidable _
theorem U4{m:AU->Bool}:∀{l:List AU} {i:Nat} {x:AU},i<Cg m l->l[i]?=some x->m x=false
 |[],i,x,_,hx=>by simp at hx
 |z::l,i,x,hi,hx=>by
  unfold Cg at hi;rw [PC]at hi;by_cases hz:m z=true;· rw [An (by simp [hz])]at hi;simp at hi
  · have g:m z=false:=by simpa using hz
    rw [As (by simp [g])]at hi;rcases i with _|i
    · simp at hx;rw [<-hx];exact g
    · simp only [bj]at hx
      exact U4 (l:=l) (by unfold Cg;simp at hi;omega) hx
theorem QP{g:AU->Bool}:∀{l:List AU} {x:AU},l[Cg g l]?=some x->g x=true
 |[],x,hx=>by simp at hx
 |z::l,x,hx=>by
  unfold Cg at hx;rw [PC]at hx;by_cases hz:g z=true;· rw [An (by simp [hz])]at hx;simp at hx;rw [<-hx];exact hz
  · have m:g z=false:=by simpa using hz
    rw [As (by simp [m])]at hx;simp only [E4,bj]at hx;exact QP (l:=l) hx
def ltV(c:Nat)(a b:AU):Prop:=Dh a c<Dh b c\/Dh a c=Dh b c/\a.k<b.k
variable{rs:List AU}
theorem TP(g:BN rs)(t:Int)(c:Nat):(BP rs t c).Pairwise (ltV c):=by
 have m:=Ev g t c (-1000000000) 1000000000;have h2:(rs.filter (inR t c (-1000000000) 1000000000)).Pairwise (fun a b=>a.k≠b.k):=(Mm g fun r h=>kD h).imp (fun h=>by omega)
 have B:(Dm rs t c (-1000000000) 1000000000).Pairwise (fun a b=>a.k≠b.k):=((ES rs t c (-1000000000) 1000000000).pairwise_iff (fun h=>h.symm)).2 h2;exact (m.and B).imp (fun{a b} h=>by unfold ltV;obtain ⟨G,I⟩:=h;unfold leV at G;omega)
variable{j:Nat}
theorem ph{l:List AU}{R:AU->AU->Prop}(h:l.Pairwise R){a b:AU}(g:i<j)(m:l[i]?=some a)(B:l[j]?=some b):R a b:=by
 obtain ⟨hi,rfl⟩:=C4.1 m;obtain ⟨G,rfl⟩:=C4.1 B;exact fS.1 h i j hi G g
variable{t:Int}{c:Nat}
theorem ZI(G:BN rs){a b:AU}(m:i<=j)(B:(BP rs t c)[i]?=some a)(g:(BP rs t c)[j]?=some b):Dh a c<=Dh b c:=by
 rcases Nat.eq_or_lt_of_le m with rfl|h
 · rw [B]at g;injection g with g;rw [g];exact X2 _
 · have:=ph (TP G t c) h B g
   unfold ltV at this;omega
theorem jq(G:BN rs)(t c:Nat)(lo:Int){r:AU}(g:(BP rs (t:Int) c)[i]?=some r):(Cg (geV c lo) (BP rs (t:Int) c)<=i->lo<=Dh r c)/\(i<Cg (geV c lo) (BP rs (t:Int) c)->Dh r c<lo):=by
 constructor
 · intro h
   have B:=(C4.1 g).1;have m:(BP rs (t:Int) c)[Cg (geV c lo) (BP rs (t:Int) c)]?=some _:=BT A0
   have I:=HN (QP m);have h2:=ZI G h m g
   omega
 · intro h
   have:=an (U4 h g);omega
theorem kF(G:BN rs)(t c:Nat)(hi:Int){r:AU}(g:(BP rs (t:Int) c)[i]?=some r):(Cg (gtV c hi) (BP rs (t:Int) c)<=i->hi<Dh r c)/\(i<Cg (gtV c hi) (BP rs (t:Int) c)->Dh r c<=hi):=by
 constructor
 · intro h
   have B:=(C4.1 g).1;have m:(BP rs (t:Int) c)[Cg (gtV c hi) (BP rs (t:Int) c)]?=some _:=BT A0
   have I:=HN (QP m);have h2:=ZI G h m g
   omega
 · intro h
   have:=an (U4 h g);omega
theorem U3(g:BN rs)(t c:Nat)(lo hi:Int)(B:lo<=hi):Cg (geV c lo) (BP rs (t:Int) c)<=Cg (gtV c hi) (BP rs (t:Int) c):=by
 rcases FA (Cg (gtV c hi) (BP rs (t:Int) c)) (Cg (geV c lo) (BP rs (t:Int) c))with h|h
 · have I:=Gz (geV c lo) (BP rs (t:Int) c)
   have m:(BP rs (t:Int) c)[Cg (gtV c hi) (BP rs (t:Int) c)]?=some _:=BT A0;have G:=(kF g t c hi m).1 (CT _)
   have h2:=(jq g t c lo m).2 h;omega
 · exact h
theorem OU{l:List AU}{f m:Nat}{r:AU}(h:((l.drop f).take m)[j]?=some r):j<m/\l[f+j]?=some r:=by
 rw [HH]at h;split at h;· rw [S1]at h;exact ⟨by assumption,h⟩
 · cases h
theorem jg{r:AU}(h:r∈BP rs t c):r∈rs/\r.t=t:=by
 have:=FG.1 ((ES rs t c _ _).mem_iff.1 h);exact ⟨this.1,kD this.2⟩
theorem Nh(m:BN rs)(t c:Nat)(lo hi:Int)(g:lo<=hi):CR (BP rs (t:Int) c) c lo<=toT (BP rs (t:Int) c) c hi/\toT (BP rs (t:Int) c) c hi<=(BP rs (t:Int) c).length/\(0<(BP rs (t:Int) c).length->CR (BP rs (t:Int) c) c lo<toT (BP rs (t:Int) c) c hi):=by
 have B:=U3 m t c lo hi g;have h2:=Gz (geV c lo) (BP rs (t:Int) c)
 have G:=Gz (gtV c hi) (BP rs (t:Int) c);unfold CR toT;omega
theorem mE(m:BN rs)(t c:Nat)(lo hi:Int)(g:lo<=hi):(Ew rs t c lo hi).rows.length=toT (BP rs (t:Int) c) c hi -CR (BP rs (t:Int) c) c lo:=by
 have:=Nh m t c lo hi g;show(((BP rs (t:Int) c).drop _).take _).length=_
 rw [CD,CH];omega
theorem O1(B:BN rs)(hn:rs.length<=2000)(O:∀r∈rs,r.ok)(t c:Nat)(ht:t<=3)(hc:c<=3)(lo hi:Int)(m:lo<=hi):Gg (Ew rs t c lo hi):=by
 have h1:=U3 B t c lo hi m;have h2:=Gz (geV c lo) (BP rs (t:Int) c)
 have h3:=Gz (gtV c hi) (BP rs (t:Int) c);have h4:=Nh B t c lo hi m
 have I:=mE B t c lo hi m;have ax:=JG B (t:Int) c
 have hf:CR (BP rs (t:Int) c) c lo=Cg (geV c lo) (BP rs (t:Int) c) -1:=rfl;have bn:toT (BP rs (t:Int) c) c hi=min (Cg (gtV c hi) (BP rs (t:Int) c)+1) (BP rs (t:Int) c).length:=rfl
 have hv:∀r:AU,Bj r ((c:Nat):Int)=Dh r c:=fun r=>Lc r c hc;refine ⟨⟨⟨?_,?_⟩,?_,?_⟩,m,⟨?_,?_⟩,⟨?_,?_⟩,?_,?_,?_,?_,?_⟩;· show(0:Int)<=(t:Int);omega
 · show(t:Int)<4;omega
 · show(0:Int)<=(c:Int);omega
 · show(c:Int)<4;omega
 · show(0:Int)<=((BP rs (t:Int) c).length:Int);omega
 · show((BP rs (t:Int) c).length:Int)<=2000;omega
 · show(0:Int)<=((CR (BP rs (t:Int) c) c lo:Nat):Int);omega
 · show((CR (BP rs (t:Int) c) c lo:Nat):Int)<=((BP rs (t:Int) c).length:Int);omega
 · rw [I];show _<=((BP rs (t:Int) c).length:Int) -((CR (BP rs (t:Int) c) c lo:Nat):Int);omega
 · rw [I];intro h0;show((BP rs (t:Int) c).length:Int)=0;omega
 · intro j r G
   obtain ⟨X,g⟩:=OU G;have W:=jg (DO g)
   have K:=jq B t c lo g;have J:=kF B t c hi g
   refine ⟨⟨O r W.1,W.2,?_,?_⟩,?_⟩;· intro h;change Bj r (c:Int)<lo at h;rw [hv]at h;omega
   · intro h;change hi<Bj r (c:Int)at h;rw [hv]at h;rw [I];omega
   · intro af q hq
     obtain ⟨_,U⟩:=OU hq;have:=ph (TP B (t:Int) c) A0 U g
     unfold UX;show Bj q (c:Int)<Bj r (c:Int)\/Bj q (c:Int)=Bj r (c:Int)/\q.k<r.k
     rw [hv,hv];exact this
 · intro r G
   obtain ⟨_,g⟩:=OU G;have K:=jq B t c lo g
   show((CR (BP rs (t:Int) c) c lo:Nat):Int)=0\/Bj r (c:Int)<lo;rw [hv];omega
 · intro r G
   rw [I]at G⊢;obtain ⟨X,g⟩:=OU G;have J:=kF B t c hi g
   show((CR (BP rs (t:Int) c) c lo:Nat):Int)+_=((BP rs (t:Int) c).length:Int)\/hi<Bj r (c:Int);rw [hv];omega
theorem dx(G:BN rs)(W:rs.length<=2000)(K:∀r∈rs,r.ok)(t c:Nat)(X:t<=3)(hc:c<=3)(lo hi:Int)(m:lo<=hi):ER (Ew rs t c lo hi)=(BP rs (t:Int) c).filter (inR (t:Int) c lo hi):=by
 have J:=O1 G W K t c X hc lo hi m;have h4:=Nh G t c lo hi m
 have hf:CR (BP rs (t:Int) c) c lo=Cg (geV c lo) (BP rs (t:Int) c) -1:=rfl;have af:toT (BP rs (t:Int) c) c hi=min (Cg (gtV c hi) (BP rs (t:Int) c)+1) (BP rs (t:Int) c).length:=rfl
 have hv:∀r:AU,Bj r ((c:Nat):Int)=Dh r c:=fun r=>Lc r c hc;rw [dw J];show(((BP rs (t:Int) c).drop (CR (BP rs (t:Int) c) c lo)).take (toT (BP rs (t:Int) c) c hi -CR (BP rs (t:Int) c) c lo)).filter _=_
 have e:BP rs (t:Int) c=(BP rs (t:Int) c).take (CR (BP rs (t:Int) c) c lo)++(((BP rs (t:Int) c).drop (CR (BP rs (t:Int) c) c lo)).take (toT (BP rs (t:Int) c) c hi -CR (BP rs (t:Int) c) c lo)++(BP rs (t:Int) c).drop (toT (BP rs (t:Int) c) c hi)):=by
  have e1:(BP rs (t:Int) c).drop (toT (BP rs (t:Int) c) c hi)=((BP rs (t:Int) c).drop (CR (BP rs (t:Int) c) c lo)).drop (toT (BP rs (t:Int) c) c hi -CR (BP rs (t:Int) c) c lo):=by
   rw [cE];congr 1;omega
  rw [e1,K1,K1]
 conv=>rhs;rw [e]
 rw [Hj,Hj];have z1:((BP rs (t:Int) c).take (CR (BP rs (t:Int) c) c lo)).filter (inR (t:Int) c lo hi)=[]:=by
  rw [lr];intro r B I;obtain ⟨i,g⟩:=HB B;rw [HH]at g;split at g
  · have:=(jq G t c lo g).2 A0
    have:=HN I;omega
  · cases g
 have z2:((BP rs (t:Int) c).drop (toT (BP rs (t:Int) c) c hi)).filter (inR (t:Int) c lo hi)=[]:=by
  rw [lr];intro r B I;obtain ⟨i,g⟩:=HB B;rw [S1]at g;have O:=(C4.1 g).1
  have:=(kF G t c hi g).1 A0;have:=HN I
  omega
 rw [z1,z2,LN,DA];refine dv ?_;intro r B;have U:=jg (Kf (P2 B))
 unfold inB inR;show decide (lo<=Bj r (c:Int)/\Bj r (c:Int)<=hi)=_
 rw [hv];exact decide_eq_decide.2 ⟨fun h=>⟨U.2,h⟩,fun h=>h.2⟩
theorem vI(B:BN rs)(m:∀r∈rs,r.ok)(t c:Nat)(W:t<=3)(hc:c<=3)(lo hi:Int)(J:lo<=hi):(BP rs (t:Int) c).filter (inR (t:Int) c lo hi)=Dm rs (t:Int) c lo hi:=by
 refine VY B ?_ ?_
 · have g:=(ES rs (t:Int) c (-1000000000) 1000000000).filter (inR (t:Int) c lo hi)
   refine g.trans ?_;rw [List.filter_filter];refine List.Perm.of_eq (dv ?_);intro r K;obtain ⟨⟨g,h2,G⟩,O,U⟩:=m r K;unfold inV at g h2 G;have I:-1000000000<=Dh r c/\Dh r c<=1000000000:=by
    unfold Dh;split;· omega
    · split
      · omega
      · split<;>omega
   unfold inR;rw [<-Bool.decide_and];exact decide_eq_decide.2 ⟨fun h=>h.1,fun h=>⟨h,h.1,I⟩⟩
 · exact (Ev B (t:Int) c (-1000000000) 1000000000).filter _
theorem Sa(B:BN rs)(I:rs.length<=2000)(m:∀r∈rs,r.ok)(t c:Nat)(G:t<=3)(hc:c<=3)(lo hi:Int)(g:lo<=hi):ER (Ew rs t c lo hi)=Dm rs (t:Int) c lo hi:=by rw [dx B I m t c G hc lo hi g,vI B m t c G hc lo hi g]
def CF(c:Int)(n:Nat):Nat:=((if c<0 then-(c+1)else c).tmod n).toNat
theorem Dw(c:Int)(n:Nat)(B:0<n):CF c n<n:=by
 unfold CF;have g:0<=(if c<0 then-(c+1)else c):=by split<;>omega
 have h2:=Int.tmod_lt_of_pos (if c<0 then-(c+1)else c) (b:=(n:Int)) A0;have m:=Int.tmod_nonneg (n:Int) g
 omega
theorem Z4(c:Int)(n:Nat):(if c<0 then-(c+1)else c).tmod n=(CF c n:Int):=by
 unfold CF;have g:0<=(if c<0 then-(c+1)else c):=by split<;>omega
 have m:=Int.tmod_nonneg (n:Int) g;omega
theorem xe{c:Chg}{x:AU}(h:x∈EL rs c):x∈rs\/(c.has=true/\x=⟨c.t,c.k,c.n⟩):=by
 unfold EL at h;rcases C2.1 h with h|h
 · rcases C2.1 h with h|h
   · exact .inl (P2 h)
   · exact .inr (M3.1 h)
 · exact .inl (Kf (Kf h))
theorem yx{c:Chg}(h:c.ok)(g:c.has=true):AU.ok ⟨c.t,c.k,c.n⟩:=by
 obtain ⟨_,h2,_⟩:=h;rw [LM g]at h2;exact Hs.1 fun m=>h2 (.inr ⟨g,m⟩)
theorem Va:∀(cs:List Chg) (rs:List AU),(∀r∈rs,r.ok)->(∀c∈cs,c.ok)->∀r∈DL rs cs,r.ok
 |[],rs,h,_=>h
 |c::cs,rs,h,hc=>by
  have B:∀r∈EL rs c,r.ok:=fun r m=>by
   rcases xe m with m|⟨hh,rfl⟩
   · exact h r m
   · exact yx (hc c B4) hh
  exact Va cs (EL rs c) B (fun c g=>hc c (by simp [g]))
variable{l:List BR}
theorem En.rowsOk(h:En l):∀i,i<=l.length->∀r∈BQ (l.take i),r.ok
 |0,_=>by intro r g;simp [BQ]at g
 |i+1,hi=>by
  obtain ⟨r,g⟩:∃r,l[i]?=some r:=⟨_,BT A0⟩;rw [Bl g,Fq];refine Va _ _ (En.rowsOk h i A0) fun c hc=>?_;obtain ⟨j,m⟩:=HB hc;exact (h i r g).1.ok.all j c m
variable{n:Nat}
theorem qf{xs:List (List Int)}(h:Wd M (.slice p n cap) xs)(k:Nat)(G:k<=n):Wd M (.slice p k cap) (xs.take k):=by
 obtain ⟨J,g,e,I,B⟩:=h;injection e with e1 e2 e3
 subst e1 e2 e3;have m:(xs.take k).length=k:=by rw [CD];exact Pu G
 refine ⟨p,cap,by rw [m],by omega,fun i z hz=>B i z ?_⟩;rw [HH]at hz;split at hz;· exact hz
 · cases hz
def cs0:List Chg:=[⟨0,3,false,V3.zero,true,⟨10,0,0⟩⟩,⟨0,5,false,V3.zero,true,⟨10,21,30⟩⟩]
def l0(gc:Nat):List BR:=[⟨1,some ⟨gc,0,none⟩,2,cs0⟩]
def RP.cut(x:RP):RP:=⟨x.tb,x.cl,x.lo,x.hi,x.ct,x.fi,x.rows.drop 1,x.paths.drop 1,x.roots⟩
theorem tP(hv:Y7 M v x)(h:Gg x){l:List AU}(G:ER x=l):BS prog 186 #[v] [M] (fun r H'=>∃B m,r= .tuple #[B,.bool true]/\Bc 5 80 B l.length (Ae l) m/\H'=[m,M]):=by
 have g:=lQ hv;rw [D2 h,G]at g;exact g
theorem Y7.mono(h:Y7 M v x)(g:∀c∈M,c∈M'):Y7 M' v x:=by
 obtain ⟨I,G,J,e,m,h2,B⟩:=h;exact ⟨I,G,J,e,m.mono g,h2.mono g,B.mono g⟩
theorem Su:∀(n:Nat) (l:List Bs) (i:Nat),l.length<=n->(Fa l i).length<=l.length
 |n,l,i,hn=>by
  rcases FA l.length 2 with h|h
  · rw [Vd A0];simp
  · have m:=PH h
    have h2:=PG l.length
    match n,hn with
    |0,hn=>omega
    |n+1,hn=>
    by_cases hi:i<DY l.length
    · have g:=Su n (l.take (DY l.length)) i (by rw [CD];omega)
      rw [CD]at g;rw [Qn h hi,BW];simp only [F2];omega
    · have g:=Su n (l.drop (DY l.length)) (i -DY l.length) (by rw [CH];omega)
      rw [CH]at g;rw [Oq h hi,BW];simp only [F2];omega
theorem Yu(m:BN rs)(B:rs.length<=2000)(t c:Nat)(lo hi:Int):∀l∈(Ew rs t c lo hi).paths,l.length<=1000000:=by
 intro l h;obtain ⟨x,_,rfl⟩:=C6.1 h;have g:=Su _ (PQ (BP rs (t:Int) c)) (CR (BP rs (t:Int) c) c lo+x) (CT _)
 have h2:=JG m (t:Int) c;rw [Ic]at g;omega
theorem tD(q:QM)(m:BI q):BJ prog 147 #[.agg q.A95] [] (.tuple #[I0 q.tb,I0 q.cl,I0 q.lo,I0 q.hi]):=by
 refine Se func147 ntmps147 [0] ?_;intro u R;refine A1<|Ze (Bx q.A95)<|AG fun bq=>Za Y<|Za Y<|Za Y<|A5 Y<|Zq<|A1<|Zo Wh (AB (cs:=#[_,_,_,_,_,_,_]) F1 CM Y B5 Ax)<|Xr [_] Y call29 Y V (Iy q)<|Zv (Cz Y)<|A6<|AQ Y (fun g=>?_) (fun g=>?_);·
  exfalso;simp [m]at g
 refine AC<|Zx<|Zq<|Aw (n:=12) (0::1::0::4::0::16::0::64::3::271::831::2047::[]) 0 AF AF V<|A3 0 V (AA (off:=1) CI V rfl AE Y)<|BE 1 V AH Y<|A3 2 V (AA (off:=2) CI V rfl AE Y)<|BE 3 V AH Y<|A3 4 V (AA (off:=3) CI V rfl AE Y)<|BE 5 V AH Y<|A3 6 V (AA (off:=4) CI V rfl AE Y)<|BE 7 V AH Y<|A3 8 V (Aq Y)<|A3 9 V (Aq Y)<|A3 10 V (Aq Y)<|A3 11 V (Aq Y)<|Ag<|Zn [2,3,4,5] ?_;refine Zx<|AJ<|ji V results147 Y Y Y Y (by exact ⟨V,V⟩)
theorem qS(q:QM)(g:BI q):BJ prog 91 #[.agg q.A95] [] (.agg #[I0 q.tb,I0 q.cl,I0 q.lo,I0 q.hi]):=by
 refine Se func91 ntmps91 [0] ?_;intro u R;refine A1<|Ze (Bx q.A95)<|AG fun bq=>Ze (Al ij #[_,_,_,_])<|AG fun m=>A6<|A1<|Zo Wh (AB (cs:=#[_,_,_,_,_,_,_]) F1 CM Y B5 Ax)<|Xr [_] Y call147 Y V (tD q g)<|Zm Y<|Zd Y V<|Zd Y V<|Zd Y V<|Zd Y V<|Zh 0 OK V rfl AE Y<|Xe (Zs AE Y Y V (hi:=by decide))<|Zh 1 OK V rfl AE Y<|Xe (Zs AE Y Y V (hi:=by(simp;done)))<|Zh 2 OK V rfl AE Y<|Xe (Zs AE Y Y V (hi:=by(simp;done)))<|Zh 3 OK V rfl AE Y<|Xe (Zs AE Y Y V (hi:=by(simp;done)))<|Z0<|Zn [2] ?_;refine Zx<|A1<|Zo Wh (AB (cs:=#[_,_,_,_]) isAgg190 cM Y B5 (BO rfl))<|Xe (BL cM Y Y Hi Wu (EN rfl) Fi B5 (by exact BC _))<|A6<|AJ<|D7 rfl results91 Y Wh (Au isAgg190 cM Wn (BO rfl)) na
theorem Ug{P:Program}{env:Env}{d:Option Nat}{ty:AK}{pos:String}{af:Array Edge}{g:Option (Nat×Bool)}{x:Operand}{m at_:AK}{ok:Bool}{r:A4}(G:∀a,ev a env x=v)(B:∀w:AD,(Instr.typeAssert v m at_ ok).run P w= .ok r w):OpP P ⟨d,.typeAssert x m at_ ok,ty,pos,af,g⟩ env [] r:=fun a w _=>by
 simp [execOp,G a,B w]
theorem u2(w:AD):(Instr.typeAssert .nilIface 20 107 true).run prog w= .ok (.tuple #[.nilIface,.bool false]) w:=by kernel_rfl
theorem aR{u w:AD}{H:Hp}{b:Nat}{o:Obj}(h:Has b o H)(g:Sat u H w):w.heap[b]?=some o:=g.get _ h.mem
variable{q:QM}
theorem oH(m:BI q)(g:q.kd≠7):Hg q (Dm rs q.tb q.cl.toNat q.lo q.hi) []=CK rs q:=by
 rw [NP m];unfold CK FW CU;split;· rfl
 · split
   · rfl
   · split
     · rfl
     · split
       · rfl
       · first
         |rfl
         |(split
           · rename_i h;exact absurd h g
           · rfl)
theorem tM(G:BN rs)(B:rs.length<=2000)(g:∀r∈rs,r.ok)(q:QM)(I:BI q):Gg (Ew rs q.tb.toNat q.cl.toNat q.lo q.hi)/\ER (Ew rs q.tb.toNat q.cl.toNat q.lo q.hi)=Dm rs q.tb q.cl.toNat q.lo q.hi:=by
 obtain ⟨J,h2,m,_⟩:=id I;refine ⟨O1 G B g q.tb.toNat q.cl.toNat A0 A0 q.lo q.hi m.2.1,?_⟩;have h:=Sa G B g q.tb.toNat q.cl.toNat A0 A0 q.lo q.hi m.2.1
 rwa [show((q.tb.toNat:Nat):Int)=q.tb by omega]at h
theorem sN(g:BI q):(Ew rs q.tb.toNat q.cl.toNat q.lo q.hi).tb=q.tb/\(Ew rs q.tb.toNat q.cl.toNat q.lo q.hi).cl=q.cl/\(Ew rs q.tb.toNat q.cl.toNat q.lo q.hi).lo=q.lo/\(Ew rs q.tb.toNat q.cl.toNat q.lo q.hi).hi=q.hi:=by
 obtain ⟨m,h2,_⟩:=id g;exact ⟨show((q.tb.toNat:Nat):Int)=q.tb by omega,show((q.cl.toNat:Nat):Int)=q.cl by omega,V,V⟩
theorem KU:BJ prog 129 #[.bool true] [] undef:=by
 refine Se func129 ntmps129 [0] ?_;intro u R;refine A1<|Zm Y<|Zv (Br Y)<|A6<|AQ Y (fun g=>by cases g)<|fun g=>AC<|Cc V results129 (by exact ⟨V,V⟩)
theorem z8(pk:A4):Pb prog 128 #[pk] .returning .returning [] (fun H'=>H'=[]):=by
 refine YP (env1:=[(3,.bool false),(2,.nilIface),(8,.bool false),(7,.nilIface),(4,.tuple #[.nilIface,.bool false]),(6,.tuple #[.nilIface,.bool false]),(5,.nilIface),(0,pk)]) func128 V ntmps128 V results128 ?hrec_1 ?hwalk_1
 case hrec_1=>
  intro u R c cs Q m G;show qD _ _ [0,1,2,3,4,5,6] _ _ _ _ _
  have g:({c with mode:= .returning}:Frame)=c:=by cases c;simp only at m;subst m;rfl
  rw [g]at G;refine fU V (by simp [recoverD,m]) V ?_;refine QH V (Ug Y u2) V ?_;refine QH V (AO Y) V ?_;refine QH V (CE Y V) V ?_;refine QH V (CE Y V) V ?_;refine QH V (Aq Y) V ?_;refine QH V (Aq Y) V ?_;intro a w I;exact G a w I
 intro u R;refine Zb [0,2,3] ?_;refine A1<|Zm Y<|Zm Y<|Aj (t:=10) Y V (fun B=>by cases B)<|fun B=>A7 Y V<|A7 Y V<|A7 Y V<|Zv (AL Y Y)<|A6<|DI Y<|AC<|Cc V results128 Ax
theorem tA(g:Nat)(B:A4):Pb prog 127 #[I1 g,B] .returning .returning [[(g,.cells #[.bool true] 4 (0,0))]] (fun H'=>H'=[[(g,.cells #[.bool true] 4 (0,0))]]):=by
 refine bH func127 V ntmps127 V ?_;intro u R;refine Zb [0,1] ?_;refine A1<|Zl Fc Y ?_;refine Zv (Br Y)<|A6<|AQ Y (fun m=>by cases m)<|fun m=>AC<|Cc V results127 Ax
structure RPZ where
 x:RP
 qr:B8
 cr:Nat
 qp:B8
 cp:Nat
 qt:B8
 ct:Nat
def Ep(z:RPZ):List A4:=[I0 z.x.tb,I0 z.x.cl,I0 z.x.lo,I0 z.x.hi,I0 z.x.ct,I0 z.x.fi,.slice z.qr z.x.rows.length z.cr,.slice z.qp z.x.paths.length z.cp,.slice z.qt z.x.roots.length z.ct]
def RPZ.ok(M:List A9)(z:RPZ):Prop:=Di M (.slice z.qr z.x.rows.length z.cr) z.x.rows/\MW M (.slice z.qp z.x.paths.length z.cp) z.x.paths/\Ed M (.slice z.qt z.x.roots.length z.ct) z.x.roots
theorem tI(h:Y7 M v x):∃z:RPZ,z.x=x/\z.ok M/\v= .agg #[I0 z.x.tb,I0 z.x.cl,I0 z.x.lo,I0 z.x.hi,I0 z.x.ct,I0 z.x.fi,.slice z.qr z.x.rows.length z.cr,.slice z.qp z.x.paths.length z.cp,.slice z.qt z.x.roots.length z.ct]:=by
 obtain ⟨K,J,O,rfl,g,h2,m⟩:=h;obtain ⟨qr,cr,rfl,B⟩:=id g;obtain ⟨qp,cp,rfl,G⟩:=id h2;obtain ⟨qt,ct,rfl,I⟩:=id m;exact ⟨⟨x,qr,cr,qp,cp,qt,ct⟩,V,⟨g,h2,m⟩,V⟩
theorem RPZ.ok.mono{z:RPZ}(h:z.ok M)(g:∀c∈M,c∈M'):z.ok M':=⟨h.1.mono g,h.2.1.mono g,h.2.2.mono g⟩
theorem RPZ.ok.rp{z:RPZ}(h:z.ok M):Y7 M (.agg #[I0 z.x.tb,I0 z.x.cl,I0 z.x.lo,I0 z.x.hi,I0 z.x.ct,I0 z.x.fi,.slice z.qr z.x.rows.length z.cr,.slice z.qp z.x.paths.length z.cp,.slice z.qt z.x.roots.length z.ct]) z.x:=⟨_,_,_,rfl,h⟩
def ZsU(M:List A9)(v:A4)(Z:List RPZ):Prop:=∃p cap,v= .slice p Z.length cap/\(Z.length<=maxLen/\Z.length<=cap)/\∀(i:Nat) (z:RPZ),Z[i]?=some z->z.ok M/\∃g off cur T zz,p=some ⟨g,off,none⟩/\(g,Obj.cells cur T zz)∈M/\off+i*9+9<=cur.size/\cur.extract (off+i*9) (off+i*9+9)=#[I0 z.x.tb,I0 z.x.cl,I0 z.x.lo,I0 z.x.hi,I0 z.x.ct,I0 z.x.fi,.slice z.qr z.x.rows.length z.cr,.slice z.qp z.x.paths.length z.cp,.slice z.qt z.x.roots.length z.ct]
def G6(M:List A9)(v:A4)(L:List RP):Prop:=∃Z,ZsU M v Z/\Z.map RPZ.x=L
variable{Z:List RPZ}
theorem ZsU.mono(h:ZsU M v Z)(m:∀c∈M,c∈M'):ZsU M' v Z:=by
 obtain ⟨p,cap,e,K,J⟩:=h;refine ⟨p,cap,e,K,fun i z hz=>?_⟩;obtain ⟨h2,g,off,cur,T,zz,B,G,I⟩:=J i z hz;exact ⟨h2.mono m,g,off,cur,T,zz,B,m _ G,I⟩
variable{L:List RP}
theorem G6.mono(h:G6 M v L)(m:∀c∈M,c∈M'):G6 M' v L:=by
 obtain ⟨Z,g,h2⟩:=h;exact ⟨Z,g.mono m,h2⟩
theorem Wl{B:List A9}(h:Bc 9 171 v Z.length (Z.flatMap Ep) s)(J:Z.length<=maxLen)(I:∀z∈Z,z.ok B):ZsU (s++B) v Z:=by
 obtain ⟨b,cap,rfl⟩:=h.form;refine ⟨b,cap,V,⟨J,F5 h⟩,fun i z hz=>⟨(I z (DO hz)).mono (fun c hc=>GB _ hc),?_⟩⟩;obtain ⟨g,G,cur,zz,hv,rfl,K,m⟩:=K8 h i (C4.1 hz).1;injection hv with hv1 hv2 hv3
 refine ⟨g,0,cur,171,zz,hv1,Ek _ (C5.2 V),by omega,?_⟩;rw [D4];apply HX.1;rw [m];exact J3 _ 9 (fun _=>rfl) Z i z hz
theorem rC{g:List A9}(h:Bc 9 171 v Z.length (Z.flatMap Ep) s)(B:Z.length<=maxLen)(m:∀z∈Z,z.ok g):G6 (s++g) v (Z.map RPZ.x):=⟨Z,Wl h B m,rfl⟩
theorem G6.form(h:G6 M v L):∃p cap,v= .slice p L.length cap/\L.length<=maxLen/\L.length<=cap:=by
 obtain ⟨Z,⟨p,cap,e,g,_⟩,rfl⟩:=h;rw [B6];exact ⟨p,cap,e,g⟩
theorem G6.at{M:List A9}{p:B8}{n cap:Nat}{L:List RP}(h:G6 M (.slice p n cap) L){i:Nat}{x:RP}(m:L[i]?=some x):∃z:RPZ,z.x=x/\z.ok M/\∃g off cur T zz,p=some ⟨g,off,none⟩/\(g,Obj.cells cur T zz)∈M/\off+i*9+9<=cur.size/\cur.extract (off+i*9) (off+i*9+9)=#[I0 z.x.tb,I0 z.x.cl,I0 z.x.lo,I0 z.x.hi,I0 z.x.ct,I0 z.x.fi,.slice z.qr z.x.rows.length z.cr,.slice z.qp z.x.paths.length z.cp,.slice z.qt z.x.roots.length z.ct]:=by
 obtain ⟨Z,⟨I,B,e,_,G⟩,rfl⟩:=h;injection e with e1 e2 e3
 subst e1;rw [DQ]at m;cases hz:Z[i]?with
 |none=>rw [hz]at m;cases m
 |some z=>
  rw [hz]at m;injection m with m
  exact ⟨z,m,G i z hz⟩
theorem G6.tail(h:G6 M (.slice p n cap) (x::L)):G6 M (.slice (Ec p 1 cap 9) (n -1) (cap -1)) L:=by
 obtain ⟨Z,⟨X,J,e,⟨I,m⟩,G⟩,B⟩:=h;injection e with e1 e2 e3
 subst e1 e2 e3
 match Z,B,I,m,G with
 |z::Z,B,I,m,G=>
  injection B with hZ1 hZ2
  rw [E4]at I m;refine ⟨Z,⟨_,_,by rw [E4,S2],⟨by omega,by omega⟩,fun i y K=>?_⟩,hZ2⟩;obtain ⟨h2,g,off,cur,T,zz,rfl,O,W,U⟩:=G (i+1) y (by simpa using K);have hi:=(C4.1 K).1
  refine ⟨h2,g,off+1*9,cur,T,zz,?_,O,by omega,by rw [show off+1*9+i*9=off+(i+1)*9 by omega];exact U⟩;unfold Ec;rw [An A0,O2,Ca]
def XN(q:QM)(r:AU):Int×Int×Int×Int:=(q.ot,0,Bj r q.bq,Bj r q.bq)
def YT(q:QM):Int×Int×Int×Int:=(q.tb,q.cl,q.lo,q.hi)
def RP.scan(x:RP):Int×Int×Int×Int:=(x.tb,x.cl,x.lo,x.hi)
noncomputable def Oo(s:Int×Int×Int×Int):List RP->Option (List AU×List RP)
 |[]=>none
 |x::l=>if x.scan=s/\Gg x then some (ER x,l)else none
noncomputable def Eu(q:QM):List AU->List RP->Option (List AU×List RP)
 |[],l=>some ([],l)
 |r::rs,l=>(Oo (XN q r) l).bind fun a=>(Eu q rs a.2).map fun b=>(a.1++b.1,b.2)
noncomputable def Es(q:QM)(L:List RP):Option C9:=
 if BI q then(Oo (YT q) L).bind fun a=>if a.1.length<=100 then(if q.kd=7 then Eu q a.1 a.2 else some ([],a.2)).bind fun b=>if b.2=[]then some (FW q a.1 b.1)else none else none else none
theorem Sj{s:Int×Int×Int×Int}{a:List AU×List RP}(h:Oo s L=some a):∃x,L=x::a.2/\x.scan=s/\Gg x/\a.1=ER x:=by
 unfold Oo at h;split at h;· cases h
 · split at h
   · rename_i x l h9
     injection h with h
     subst h;exact ⟨x,V,h9.1,h9.2,V⟩
   · cases h
theorem VX{s:Int×Int×Int×Int}{l:List RP}(g:x.scan=s)(h2:Gg x):Oo s (x::l)=some (ER x,l):=As ⟨g,h2⟩
theorem Lr{r:AU}{l:List RP}{b:List AU×List RP}(h:Eu q (r::rs) l=some b):∃a c,Oo (XN q r) l=some a/\Eu q rs a.2=some c/\b=(a.1++c.1,c.2):=by
 unfold Eu at h;cases ha:Oo (XN q r) l with
 |none=>rw [ha]at h;cases h
 |some a=>
  rw [ha,KB]at h;cases hc:Eu q rs a.2 with
  |none=>rw [hc]at h;cases h
  |some c=>rw [hc]at h;injection h with h;exact ⟨a,c,rfl,hc,h.symm⟩
theorem Om{q:QM}:∀(rows:List AU) (i:Nat) (L:List RP) (b:List AU×List RP),i<=rows.length->Eu q rows L=some b->∃o g,Eu q (rows.take i) L=some (o,g)/\∃m,Eu q (rows.drop i) g=some (m,b.2)/\b.1=o++m
 |rows,0,L,b,_,h=>⟨[],L,rfl,b.1,by rw [Q1];exact h,rfl⟩
 |r::rows,i+1,L,b,hi,h=>by
  obtain ⟨a,c,B,h2,rfl⟩:=Lr h;obtain ⟨o,g,G,m,I,J⟩:=Om rows i a.2 c (by simpa using hi) h2;refine ⟨a.1++o,g,?_,m,by rw [List.drop_succ_cons];exact I,by rw [J,Cd]⟩;rw [mB];unfold Eu;rw [B,KB,G];rfl
theorem Ql{q:QM}:∀(rows:List AU) (i:Nat) (r:AU) (L l':List RP) (o:List AU) (a:List AU×List RP),rows[i]?=some r->Eu q (rows.take i) L=some (o,l')->Oo (XN q r) l'=some a->Eu q (rows.take (i+1)) L=some (o++a.1,a.2)
 |r9::rows,0,r,L,l',o,a,hr,h,ha=>by
  injection hr with hr
  subst hr;injection h with h
  injection h with g h2
  subst g h2;show Eu q [r9] L=_
  unfold Eu;rw [ha,KB];show some (a.1++[],a.2)=some ([]++a.1,a.2)
  rw [DA,LN]
 |r9::rows,i+1,r,L,l',o,a,hr,h,ha=>by
  rw [mB]at h⊢;obtain ⟨G,B,g,h2,m⟩:=Lr h;injection m with m h4
  have:=Ql rows i r G.2 B.2 B.1 a (by simpa using hr) h2 (by rw [<-h4];exact ha);unfold Eu;rw [g,KB,this,m,Cd];rfl
variable{r:C9}
theorem Qc(h:Es q L=some r):∃x g,L=x::g/\BI q/\x.scan=YT q/\Gg x/\(ER x).length<=100/\((q.kd≠7/\g=[]/\r=FW q (ER x) [])\/(q.kd=7/\∃o,Eu q (ER x) g=some (o,[])/\r=FW q (ER x) o)):=by
 unfold Es at h;split at h
 · rename_i hq
   cases ha:Oo (YT q) L with
   |none=>rw [ha]at h;cases h
   |some a=>
    obtain ⟨x,m,h2,B,G⟩:=Sj ha;rw [ha,KB]at h;split at h
    · rename_i h5
      rw [G]at h5 h;refine ⟨x,a.2,m,hq,h2,B,h5,?_⟩;split at h
      · rename_i h7
        cases hb:Eu q (ER x) a.2 with
        |none=>rw [hb]at h;cases h
        |some b=>
         rw [hb,KB]at h;split at h
         · rename_i h8
           injection h with h
           exact .inr ⟨h7,b.1,by rw [<-h8],h.symm⟩
         · cases h
      · rename_i h7
        rw [KB]at h;split at h
        · rename_i h8
          injection h with h
          exact .inl ⟨h7,h8,h.symm⟩
        · cases h
    · cases h
 · cases h
def F3(rs:List AU)(q:QM):List RP:=Ew rs q.tb.toNat q.cl.toNat q.lo q.hi::(if q.kd=7 then(CU rs q).map fun r=>Ew rs q.ot.toNat 0 (Bj r q.bq) (Bj r q.bq)else [])
theorem Si{rs:List AU}(B:BN rs)(m:rs.length<=2000)(g:∀r∈rs,r.ok){q:QM}(J:0<=q.ot/\q.ot<=3):∀l:List AU,Eu q l (l.map fun r=>Ew rs q.ot.toNat 0 (Bj r q.bq) (Bj r q.bq))=some (l.flatMap fun r=>Dm rs q.ot 0 (Bj r q.bq) (Bj r q.bq),[])
 |[]=>rfl
 |r::l=>by
  have e:((q.ot.toNat:Nat):Int)=q.ot:=by omega
  have G:=O1 B m g q.ot.toNat 0 A0 A0 (Bj r q.bq) (Bj r q.bq) (X2 _);have h2:=Sa B m g q.ot.toNat 0 A0 A0 (Bj r q.bq) (Bj r q.bq) (X2 _)
  have I:=Si B m g J l;rw [e]at h2;unfold Eu;rw [Dg,VX (by show(((q.ot.toNat:Nat):Int),((0:Nat):Int),_,_)=(_,_,_,_);rw [e];rfl) G,KB];simp only [I,h2,O2,HW]
theorem oM{f:AU->Bool}{g:AU->List AU}{y:AU}(G:∀a b,f a=true->f b=true->(∃r,a∈g r)->(∃r,b∈g r)->a=b):∀l:List AU,(∃r∈l,y∈g r)->f y=true->(l.flatMap g).find? f=some y:=fun l ⟨r,I,m⟩ h=>by
 cases hfi:(l.flatMap g).find? f with
 |none=>exact absurd h (by simpa using cC.1 hfi y (S4.2 ⟨r,I,m⟩))
 |some x=>
  have B:=fk (p:=f) hfi;obtain ⟨K,_,J⟩:=S4.1 (dj hfi);rw [G x y B h ⟨K,J⟩ ⟨r,m⟩]
theorem dU(G:BN rs)(hn:rs.length<=2000)(J:∀r∈rs,r.ok)(m:BI q)(hl:(CU rs q).length<=100):Es q (F3 rs q)=some (CK rs q):=by
 have hk:=m.2.2.2;have hc:=m.2.1
 have ht:=m.1;obtain ⟨U,h2⟩:=tM G hn J q m;have O:=sN (rs:=rs) m
 have ax:(Ew rs q.tb.toNat q.cl.toNat q.lo q.hi).scan=YT q:=by unfold RP.scan YT;rw [O.1,O.2.1,O.2.2.1,O.2.2.2]
 unfold Es F3;rw [As m,VX ax U,KB];simp only [h2];rw [show Dm rs q.tb q.cl.toNat q.lo q.hi=CU rs q from rfl,As hl];by_cases B:q.kd=7
 · rw [As B,As B,Si G hn J A0,KB,As rfl]
   unfold CK FW;simp only [An (show¬q.kd=3 by omega),An (show¬q.kd=4 by omega),An (show¬q.kd=5 by omega),An (show¬q.kd=6 by omega),As B];congr 2;unfold Ip;have g:∀k x,x∈Dm rs q.ot 0 k k↔x∈rs/\x.t=q.ot/\x.k=k:=fun k x=>by
    rw [(ES rs q.ot 0 k k).mem_iff,FG];unfold inR Dh;rw [G4,As rfl];constructor;· rintro ⟨a,b,c,d⟩;exact ⟨a,b,by omega⟩
    · rintro ⟨a,b,c⟩;exact ⟨a,b,by omega,by omega⟩
   have af:∀r∈CU rs q,Io q ((CU rs q).flatMap fun r=>Dm rs q.ot 0 (Bj r q.bq) (Bj r q.bq)) r=Io q (Fj rs q.ot) r:=fun r hr=>by
    unfold Io
    suffices e:Dc q ((CU rs q).flatMap fun r=>Dm rs q.ot 0 (Bj r q.bq) (Bj r q.bq)) (Bj r q.bq)=Dc q (Fj rs q.ot) (Bj r q.bq) by rw [e]
    cases hp:Dc q (Fj rs q.ot) (Bj r q.bq)with
    |none=>
     unfold Dc;refine cC.2 fun x K I=>?_;obtain ⟨r',_,K⟩:=S4.1 K;have W:=(g _ x).1 K
     have X:x.t=q.ot/\x.k=Bj r q.bq:=by simpa using I
     have:=(Fu G (q:=q) (Bj r q.bq) x).2 ⟨W.1,X⟩;rw [hp]at this;cases this
    |some x=>
     have I:=(Fu G (q:=q) (Bj r q.bq) x).1 hp;unfold Dc;refine oM (fun a b ha hb ⟨r1,U⟩ ⟨r2,h2⟩=>?_) _ ⟨r,hr,(g _ x).2 ⟨I.1,I.2⟩⟩ (D2 I.2);have a1:=(g _ a).1 U
     have b1:=(g _ b).1 h2;have a2:a.t=q.ot/\a.k=Bj r q.bq:=by simpa using ha
     have b2:b.t=q.ot/\b.k=Bj r q.bq:=by simpa using hb
     have a3:=(Fu G (q:=q) (Bj r q.bq) a).2 ⟨a1.1,a2⟩;have b3:=(Fu G (q:=q) (Bj r q.bq) b).2 ⟨b1.1,b2⟩
     rw [a3]at b3;injection b3
   have:∀l:List AU,(∀r∈l,Io q ((CU rs q).flatMap fun r=>Dm rs q.ot 0 (Bj r q.bq) (Bj r q.bq)) r=Io q (Fj rs q.ot) r)->l.flatMap (Io q ((CU rs q).flatMap fun r=>Dm rs q.ot 0 (Bj r q.bq) (Bj r q.bq)))=l.flatMap (Io q (Fj rs q.ot)):=fun l=>by
    induction l with
    |nil=>intro _;rfl
    |cons r l ih=>intro h;rw [HW,HW,h r B4,ih fun x K=>h x (by simp [K])]
   exact this _ af
 · rw [An B,An B,KB,As rfl]
   rw [<-oH m B,NP m];rfl
theorem xh(v:A4)(p:Int)(rs:List AU)(s:List A9)(hv:PY v p rs s)(O:BN rs)(K:rs.length<=2000)(B:∀r∈rs,r.ok)(t c lo hi:Int)(U:0<=t/\t<=3)(hc:0<=c/\c<=3)(m:lo<=hi)(g:AK)(G:Nat×Nat):
 BS prog 90 #[v,I0 t,I0 c,I0 lo,I0 hi] [[(4,.cells (Ez.map Cw).toArray g G)],s] (fun r H'=>∃(z:RPZ) (mem:List A9),z.x=Ew rs t.toNat c.toNat lo hi/\z.ok mem/\r= .tuple #[.agg #[I0 z.x.tb,I0 z.x.cl,I0 z.x.lo,I0 z.x.hi,I0 z.x.ct,I0 z.x.fi,.slice z.qr z.x.rows.length z.cr,.slice z.qp z.x.paths.length z.cp,.slice z.qt z.x.roots.length z.ct],I0 0]/\H'=[mem,[(4,.cells (Ez.map Cw).toArray g G)],s]):=by
 have h:=eT v p rs s hv O K B t.toNat c.toNat A0 A0 lo hi m g G;rw [show((t.toNat:Nat):Int)=t by omega,show((c.toNat:Nat):Int)=c by omega]at h;refine h.mono ?_;rintro r H' ⟨W,mem,rfl,J,rfl⟩;obtain ⟨z,I,h2,rfl⟩:=tI J;exact ⟨z,mem,I,h2,V,V⟩
theorem zQ(Z:List RPZ):∀u∈Z.flatMap Ep,u.oneCell'=true:=by
 intro u g;obtain ⟨z,_,h⟩:=S4.1 g;unfold Ep at h;simp only [DB,Pr,P0]at h;rcases h with rfl|rfl|rfl|rfl|rfl|rfl|rfl|rfl|rfl<;>rfl
theorem vi(Z:List RPZ):(Z.flatMap Ep).length=Z.length*9:=by
 induction Z with
 |nil=>rfl
 |cons z Z ih=>rw [HW,BW,ih,E4];show 9+_=_;omega
theorem TC(q:QM)(g:0<=q.bq/\q.bq<=3)(r:AU):BJ prog 92 #[.agg q.A95,.agg r.A94] [] (.agg #[I0 q.ot,I0 0,I0 (Bj r q.bq),I0 (Bj r q.bq)]):=by
 refine Se func92 ntmps92 [0,1] ?_;intro u R;refine A1<|Ze (Bx q.A95)<|AG fun bq=>Ze (Bx #[_,_,_,_,_])<|AG fun B=>Ze (Al ij #[_,_,_,_])<|AG fun m=>A6<|A1<|Zo Wh (AB (cs:=#[_,_,_,_,_]) Cp B3 Y B5 (by exact BO V)) ?_;refine Zh 5 CI V rfl AE Y<|Zl AH Y ?_;refine Xr [_,_] Y RM Y V (GD r q.bq g) ?_;refine A5 Y<|A1<|Zh 6 CI V rfl AE Y<|Zl AH Y ?_;refine Zm Y<|Zm Y<|Zv (BM (vs:=[(0,_),(1,_),(2,_),(3,_)]) (cs:=#[_,_,_,_]) Y (AZ (pl:=#[(0,1),(1,1),(2,1),(3,1)]) ij OK (fun _=>by kernel_rfl) rfl))<|Xe (BL cM Y Y (by(simp [Value.oneCell',Value.cells];done)) Wu (by exact EN rfl) Fi B0 (by exact BC _)) ?_;refine Z0<|Zn [4] ?_;refine Zx<|AJ<|D7 V results92 Y Wh (Au isAgg190 cM Wn (BO V)) (by exact ⟨V,V⟩)
theorem zV(v:A4)(p:Int)(rs:List AU)(s:List A9)(hv:PY v p rs s)(hs:BN rs)(hn:rs.length<=2000)(X:∀r∈rs,r.ok)(t B lo hi:Int)(ht:0<=t/\t<=3)(hc:0<=B/\B<=3)(W:lo<=hi)(I:AK)(zg:Nat×Nat)(K J:Nat){g:B8}{G:List A9}(af:Bc 9 171 (.slice g Z.length c) Z.length (Z.flatMap Ep) G)(hZ:Z.length<=1000000):BS prog 89 #[.agg #[I0 t,I0 B,I0 lo,I0 hi],I1 K,I1 J] [[(4,.cells (Ez.map Cw).toArray I zg)],s,[(K,.cells #[v] 66 (0,0))],[(J,.cells #[.slice g Z.length c] 41 (0,0))],G] (fun r H'=>r=undef/\∃(z:RPZ) (mem:List A9) (g:B8) (c:Nat) (G:List A9),z.x=Ew rs t.toNat B.toNat lo hi/\z.ok mem/\Bc 9 171 (.slice g (Z.length+1) c) (Z.length+1) ((Z++[z]).flatMap Ep) G/\H'=[mem,G,[(4,.cells (Ez.map Cw).toArray I zg)],s,[(K,.cells #[v] 66 (0,0))],[(J,.cells #[.slice g (Z.length+1) c] 41 (0,0))]]):=by
 have d9:=mL;obtain ⟨sp,mb,es,ck,lm,rfl,cO⟩:=id hv;refine Se func89 ntmps89 [0,1,2] ?_;intro u R;refine A1<|Ze (Bx #[_,_,_,_])<|AG fun bx=>A6<|A1<|Zl isAgg66 Y<|Zh 0 OK V rfl AE Y<|Zl AH Y<|Zh 1 OK V rfl AE Y<|Zl AH Y<|Zh 2 OK V rfl AE Y<|Zl AH Y<|Zh 3 OK V rfl AE Y<|Zl AH Y<|Zc [_,_,_,_,_] Y call90 Y V (xh _ p rs s hv hs hn X t B lo hi ht hc W I zg) ?_;rintro _ _ ⟨_,⟨z,mem,bn,ax,rfl,rfl⟩,rfl⟩;refine Zm Y<|Zd Y V<|Zd Y V<|Ze (Al cU #[_,_,_,_,_,_,_,_,_])<|AG fun bp=>Xe (Xw N2 #[I0 z.x.tb,I0 z.x.cl,I0 z.x.lo,I0 z.x.hi,I0 z.x.ct,I0 z.x.fi,.slice z.qr z.x.rows.length z.cr,.slice z.qp z.x.paths.length z.cp,.slice z.qt z.x.roots.length z.ct])<|AW Y<|Zn [2,4] ?_;refine Zx<|Zg<|Zl RR Y<|Zo Wh (AB (cs:=#[_,_,_,_,_,_,_,_,_]) isAgg171 N2 Y B5 Ax)<|Ze (Ai (vs:=[_]) (cs:=[_,_,_,_,_,_,_,_,_]) W4 N2 cU Y V rfl V rfl V)<|AG fun gb=>Ze (BV (by_:=120) (sz:=9) W4 (V:Tryz.prog.info? 171=some Tryz.t171) V rfl V rfl Y (af) Y (Db 9 gb 1 1 171 (0,0) (Ep z) V) Wo Wo (by have:=zQ [z];simpa using this) A0 A0) ?_;rintro _ _ ⟨cu,m,rfl⟩;obtain ⟨U,O,rfl⟩:=m.form;refine Xe (Zs N3 Y Y rfl (hi:=by(simp;done)))<|Z0<|Cc rfl results89 (by exact ⟨rfl,z,mem,U,O,cu,bn,ax,Ba m rfl (by rw [PB];simp),rfl⟩)
set_option maxHeartbeats 1000000 in
theorem tm(v:A4)(p:Int)(rs:List AU)(s:List A9)(hv:PY v p rs s)(hs:BN rs)(hn:rs.length<=2000)(gq:∀r∈rs,r.ok)(q:QM)(hq:BI q)(hl:(CU rs q).length<=100)(Tg:AK)(zg:Nat×Nat):BS prog 43 #[v,.agg q.A95] [[(4,.cells (Ez.map Cw).toArray Tg zg)],s] (fun w H'=>∃vo mem,w= .tuple #[vo,I0 0]/\G6 mem vo (F3 rs q)/\H'=[mem,[(4,.cells (Ez.map Cw).toArray Tg zg)],s]):=by
 have qb:=mL;obtain ⟨sp,mb,es,ck,lm,rfl,pz⟩:=id hv;have d9:=hq.2.1
 have o9:=@Nf rs q.tb q.cl.toNat q.lo q.hi;have l9:0<=q.bq/\q.bq<=3:=by have:=hq.2.2.2;omega
 have o8:0<=q.ot/\q.ot<=3:=by have:=hq.2.2.2;omega
 refine Se func43 ntmps43 [0,1] ?_;intro u R;refine A1<|Ze (Bx #[_])<|AG fun bs=>Ze (Bx q.A95)<|AG fun bq=>Za Y<|A5 Y<|Zq<|AR<|A1<|Zl isAgg66 Y<|Zv (Bg i6 Y Y)<|A5 Y<|AQ Y (fun cu=>by cases cu)<|fun cu=>A1<|Zo Wh (AB (cs:=#[_,_,_,_,_,_,_]) F1 CM Y B5 Ax)<|Xr [_] Y call29 Y V (Iy q)<|Zv (Cz Y)<|A5 Y<|AQ Y (fun cO=>?_) (fun cO=>?_);·
  exfalso;simp [hq]at cO
 refine AC<|A8<|Zx<|A1<|Ze (Al zeroValue41 #[_])<|AG fun bo=>A6<|A1<|Zv (Bf (vs:=[]) (us:=[_,_]) Y Y)<|AW Y<|Zn [2,3,6,7] ?_;refine Zx<|A1<|Zo Wh (AB (cs:=#[_,_,_,_,_,_,_]) F1 CM Y B5 Ax)<|Xr [_] Y call91 Y V (qS q hq)<|Ze (Al ij #[_,_,_,_])<|AG fun bx=>Xe (Xw cM #[I0 q.tb,I0 q.cl,I0 q.lo,I0 q.hi])<|A6<|A1<|Zl isAgg66 Y<|Zh 0 OK V rfl AE Y<|Zl AH Y<|Zh 1 OK V rfl AE Y<|Zl AH Y<|Zh 2 OK V rfl AE Y<|Zl AH Y<|Zh 3 OK V rfl AE Y<|Zl AH Y<|Zc [_,_,_,_,_] Y call60 Y V (VL _ p rs s hv q.tb q.cl q.lo q.hi d9) ?_;rintro _ _ ⟨_,⟨s1,h1,rfl⟩,rfl⟩;rw [show Dm rs q.tb q.cl.toNat q.lo q.hi=CU rs q from rfl]at h1 o9;obtain ⟨p1,c1,rfl⟩:=h1.form;obtain ⟨p7,pg,e7,⟨qa,pq⟩,l5⟩:=id (Cy h1 A0);injection e7 with e71 e72 e73
 subst e71 e73;refine AW Y<|Zn [3,6,7,8,9] ?_;refine Zx<|Zq<|A1<|Zm Y<|Zv (Ab C1 Y)<|Zv (DN (n:=100) Y Y)<|A6<|Av Y (fun kv=>by omega)<|fun kv=>AC<|Zx<|Zq<|Be<|Zg<|Zm Y<|Zo Wh (AB (cs:=#[_,_,_,_]) isAgg190 cM Y B5 Ax)<|Zc [_] Y call89 Y V (zV _ p rs s hv hs hn gq q.tb q.cl q.lo q.hi hq.1 d9 hq.2.2.1.2.1 Tg zg bs bo (Z:=[]) (Bi 9 _) (C7 _)) ?_;rintro _ _ ⟨_,⟨rfl,z0,Dy,g0,c0,ax,j3,U,O,rfl⟩,rfl⟩;refine A6<|Zb [3,7,9,6] ?_;refine Ch (e0:=[(3,_),(7,_),(9,_)]) (H0:=[[(bo,.cells #[.slice g0 (([]:List RPZ).length+1) c0] 41 (0,0))],ax,Dy]) (fun e H=>∃(Z:List RPZ) (g:B8) (c:Nat) (I B:List A9),(Z.map RPZ.x=F3 rs q/\(∀z∈Z,z.ok B)/\Bc 9 171 (.slice g Z.length c) Z.length (Z.flatMap Ep) I/\Z.length<=1000)/\e=[]/\H=[[(bo,.cells #[.slice g Z.length c] 41 (0,0))],I,B]) Wp ?hx_1 ?hy_1
 case hx_1=>
  refine A1<|Zh 0 CI V rfl AE Y<|Zl AH Y<|Zv (CO Y Y)<|A6<|Av Y (fun af=>?_) (fun af=>?_);·
   refine A1<|Zm Y<|Zv (Ab C1 Y)<|Zm Y<|A6<|AR<|Zb [43,3,6,7,41,42] ?_;refine BF (e0:=[(43,_)]) (fun m e H=>∃(k:Nat) (Z:List RPZ) (g:B8) (c:Nat) (I B:List A9),m=(CU rs q).length -k/\(k<=(CU rs q).length/\Z.map RPZ.x=Ew rs q.tb.toNat q.cl.toNat q.lo q.hi::((CU rs q).take k).map (fun r=>Ew rs q.ot.toNat 0 (Bj r q.bq) (Bj r q.bq))/\(∀z∈Z,z.ok B)/\Z.length=k+1/\Bc 9 171 (.slice g Z.length c) Z.length (Z.flatMap Ep) I)/\e=[(43,I0 (k:Int))]/\H=[[(bo,.cells #[.slice g Z.length c] 41 (0,0))],I,B]) (by exact ⟨0,[z0],g0,c0,ax,Dy,rfl,⟨C7 _,by rw [J0,J1,MA,j3],fun z hz=>by rw [C5.1 hz];exact U,rfl,O⟩,rfl,rfl⟩) Wp ?_;rintro _ _ _ ⟨k,Z,g,c,I,B,rfl,⟨hk,G,J,bn,K⟩,rfl,rfl⟩;refine A1<|Zv (Ay Y Y)<|A6<|Zq<|Av Y (fun gm=>?_) (fun gm=>?_);·
    obtain ⟨X,gy⟩:∃X,(CU rs q)[k]?=some X:=⟨_,BT gm⟩;obtain ⟨g8,off,cur,T,zz,rfl,l8,q9,dn⟩:=l5 k X gy;refine AC<|Zx<|Zq<|AR<|A1<|BZ (Ad C1 B3 Y Y A0)<|CS (cs:=[(g8,.cells cur T zz)]) (by simp [l8]) (AB (cs:=X.A94) Cp B3 Y A0 dn) V rfl<|Ze (Al EV #[_,_,_,_,_])<|AG fun bx=>Xe (Xw B3 X.A94)<|A6<|Zg<|Zm Y<|Zo Wh (AB (cs:=#[_,_,_,_,_,_,_]) F1 CM Y B5 Ax)<|Zo Wh (AB (cs:=#[_,_,_,_,_]) Cp B3 Y B5 Ax)<|Xr [_,_] Y call92 Y V (TC q l9 X)<|Zc [_] Y call89 Y V (zV _ p rs s hv hs hn gq q.ot 0 (Bj X q.bq) (Bj X q.bq) o8 A0 (X2 _) Tg zg bs bo K A0) ?_;rintro _ _ ⟨_,⟨rfl,z5,W,g5,c5,p9,p8,j5,ic,rfl⟩,rfl⟩;refine Z0<|A8<|Zx<|Cb (s1:=W) (s2:=B) Wo Wo ?_;refine Zg<|Ya (n:=1) Y Y<|Zm Y<|Z0<|Zn [43,3,6,7,41,42] ?_;refine Aa (e':=[(43,_)]) (by exact ⟨k+1,Z++[z5],g5,c5,p9,W++B,rfl,⟨by omega,by rw [C0,G,Bl gy,C0,MA,p8];rfl,fun z hz=>by rcases C2.1 hz with h9|h9;exact (J z h9).mono (fun c hc=>GB _ hc);rw [C5.1 h9];exact j5.mono (fun c hc=>Ek _ hc),by rw [BW,bn];rfl,by rw [BW];exact ic⟩,rfl,by rw [BW]⟩)
   have ek:k=(CU rs q).length:=by omega
   subst ek;rw [GC]at G;refine Az<|Zt<|Zt<|AV<|Zn [6] ?_;refine BB (e':=[]) (by exact ⟨Z,_,_,I,B,⟨by unfold F3;rw [As af];exact G,J,K,by omega⟩,rfl,rfl⟩)
  refine AC<|Zn [6] ?_;refine BB (e':=[]) (by exact ⟨[z0],g0,c0,ax,Dy,⟨by unfold F3;rw [An af,MA,j3],fun z hz=>by rw [C5.1 hz];exact U,O,by simp⟩,rfl,rfl⟩)
 rintro _ _ ⟨Z,g,c,I,B,⟨G,J,K,bn⟩,rfl,rfl⟩;refine Zq<|Cb (s1:=I) (s2:=B) Wo Wo ?_;refine Zg<|Zl RR Y<|Za Y<|A5 Y<|AJ<|DF rfl results43 Y Y (by exact ⟨.slice g Z.length c,I++B,rfl,by rw [<-G];exact rC K A0 J,rfl⟩)
set_option maxHeartbeats 1000000 in
theorem rY{p9:B8}{m:Nat}(hL:G6 M (.slice p9 (L.length+1) m) (x::L))(G:Gg x){c lo hi:Int}(B:x.scan=(t,c,lo,hi))(U:Nat):BS prog 130 #[I1 U,.agg #[I0 t,I0 c,I0 lo,I0 hi]] [[(U,.cells #[.slice p9 (L.length+1) m] 238 (0,0))],M] (fun r H'=>∃O,Bc 5 80 r (ER x).length (Ae (ER x)) O/\H'=[O,[(U,.cells #[.slice (Ec p9 1 m 9) L.length (m -1)] 238 (0,0))],M]):=by
 have cO:=mL;obtain ⟨p8,bn,e9,W,J⟩:=hL.form;injection e9 with e91 e92 e93
 subst e91 e93;rw [E4]at W J;obtain ⟨z,ax,af,g,off,cur,T,zz,rfl,X,cu,I⟩:=hL.at (i:=0) rfl;subst ax;unfold RP.scan at B;injection B with hd1 B
 injection B with hd2 B
 injection B with hd3 hd4
 refine Se func130 ntmps130 [0,1] ?_;intro u R;refine A1<|Ze (Bx #[_,_,_,_])<|AG fun bx=>A5 Y<|A1<|Zm Y<|Zp Y V<|Zh 0 gE V rfl N3 Y<|Zl RR Y ?_;refine Zv (Ab W4 Y)<|Zv (DN (n:=0) Y Y) ?_;rw [D2 (show(0:Nat)<L.length+1 by omega)];refine Xr [_] Y call129 Y V (KU) ?_;refine A6<|A1<|Zm Y<|Zp Y V<|Zh 0 gE V rfl N3 Y<|Zl RR Y ?_;refine BZ (Ad (j:=0) W4 N2 Y Y A0)<|CS (cs:=[(g,.cells cur T zz)]) (by simp [X]) (AB (cs:=#[_,_,_,_,_,_,_,_,_]) isAgg171 N2 Y A0 I) V rfl ?_;refine Ze (Al cU #[_,_,_,_,_,_,_,_,_])<|AG fun bp=>Xe (Xw N2 #[I0 z.x.tb,I0 z.x.cl,I0 z.x.lo,I0 z.x.hi,I0 z.x.ct,I0 z.x.fi,.slice z.qr z.x.rows.length z.cr,.slice z.qp z.x.paths.length z.cp,.slice z.qt z.x.roots.length z.ct]) ?_;refine Z0<|Zn [0,3,5] ?_;refine Zx<|A1<|Zm Y<|Zm Y<|Zp Y V<|Zh 0 gE V rfl N3 Y<|Zl RR Y ?_;refine BZ (C8 (l:=1) W4 N2 Y Y A0)<|Zp Y V<|Zh 0 gE V rfl N3 Y<|Xe (Zs N3 Y Y V (hi:=by(simp;done))) ?_;refine A6<|A1<|Zh 0 E6 V rfl AE Y<|Zl AH Y (hv:=by exact (V:_=some (Value.int .i64 z.x.tb))) ?_;refine Zh 1 E6 V rfl AE Y<|Zl AH Y (hv:=by exact (V:_=some (Value.int .i64 z.x.cl))) ?_;refine Zh 2 E6 V rfl AE Y<|Zl AH Y (hv:=by exact (V:_=some (Value.int .i64 z.x.lo))) ?_;refine Zh 3 E6 V rfl AE Y<|Zl AH Y (hv:=by exact (V:_=some (Value.int .i64 z.x.hi))) ?_;refine Zv (BM (vs:=[(0,I0 z.x.tb),(1,I0 z.x.cl),(2,I0 z.x.lo),(3,I0 z.x.hi)]) (cs:=#[I0 z.x.tb,I0 z.x.cl,I0 z.x.lo,I0 z.x.hi]) Y (AZ (pl:=#[(0,1),(1,1),(2,1),(3,1)]) ij OK (fun _=>by kernel_rfl) AF))<|Zo Wh (AB (cs:=#[_,_,_,_]) isAgg190 cM Y B5 Ax) ?_;refine Zv (ZC AF OK AF B0 B0 B0 B0 DE AH Y Y) ?_;rw [D2 (show z.x.tb=t/\z.x.cl=c/\z.x.lo=lo/\z.x.hi=hi from⟨hd1,hd2,hd3,hd4⟩)];refine Xr [_] Y call129 Y V (KU) ?_;refine Z0<|Zn [5] ?_;refine Zx<|A1<|Zo Wh (AB (cs:=#[_,_,_,_,_,_,_,_,_]) isAgg171 N2 Y B5 Ax) ?_;refine Zc [_] Y call186 Y V (tP af.rp G V) ?_;rintro _ _ ⟨_,⟨vr,O,rfl,K,rfl⟩,rfl⟩;obtain ⟨gr,c9,rfl⟩:=K.form
 refine Zm Y<|Zd Y V<|Zd Y V<|Za Y<|A5 Y<|A1<|Zm Y<|Xr [_] Y call129 Y V (KU) ?_;refine A6<|A1<|Zm Y<|A5 Y<|AJ<|AP V results130 Y (by exact ⟨O,K,V⟩)
theorem Oe(h:Gg x):(ER x).length<=2000/\∀r∈ER x,r.ok:=by
 have B:=h.ct;have h2:=h.fi
 have G:=h.n;rw [dw h];refine ⟨by have:=NO (inB x) x.rows;omega,fun r m=>?_⟩;obtain ⟨j,g⟩:=HB (FG.1 m).1;exact (h.all j r g).1.1
theorem iJ{α:Type}{l:List α}{k:Nat}{x:α}(h:l[k]?=some x):l.drop k=x::l.drop (k+1):=by
 obtain ⟨g,rfl⟩:=C4.1 h;exact RW g
set_option maxHeartbeats 1000000 in
theorem X5(hL:G6 M v L)(q:QM)(hr:Es q L=some r):BS prog 79 #[.agg q.A95,v] [M] (fun w H'=>∃rv sr,w= .tuple #[.agg #[rv,I0 r.val,.bool r.fnd],.bool true]/\Bc 5 80 rv r.rows.length (Ae r.rows) sr/\H'=[sr,M]):=by
 have sJ:=mL;obtain ⟨x,L2,rfl,hq,qb,K,p9,J⟩:=Qc hr;obtain ⟨pv,cv,rfl,_⟩:=hL.form;rw [E4]at hL;rw [E4];have hT:=hL.tail
 rw [S2]at hT;have pz:0<=q.bq/\q.bq<=3:=by have:=hq.2.2.2;omega
 refine DT func79 V ntmps79 V ?_;intro u R;refine Zb [0,1] ?_;refine A1<|Ze (Bx q.A95)<|AG fun bq=>Ze (Al GS #[_,_,_])<|AG fun bo=>Ze (Al W6 #[_])<|AG fun bk=>A6<|A1<|Zv (Bf (vs:=[]) (us:=[_,_]) Y Y)<|mZ V Y ?_;refine A6<|A1<|Xe (Zs DM Y Y V (hi:=by decide))<|A6<|A1<|fT V Y ?_;refine A6<|A1<|Zo Wh (AB (cs:=#[_,_,_,_,_,_,_]) F1 CM Y B5 Ax)<|Xr [_] Y call29 Y V (Iy q) ?_;rw [D2 hq];refine Xr [_] Y call129 Y V (KU)<|A6<|A1<|Zm Y<|Zv (BM (vs:=[(0,_)]) (cs:=#[_]) Y (AZ (pl:=#[(0,1)]) zeroValue238 gE (fun _=>by kernel_rfl) V))<|Ze (Bx #[_])<|AG fun br=>AW Y<|Zn [2,4,5,6] ?_;refine Zx<|A1<|Zm Y<|Zo Wh (AB (cs:=#[_,_,_,_,_,_,_]) F1 CM Y B5 Ax)<|Xr [_] Y call91 Y V (qS q hq)<|Zc [_,_] Y call130 Y V (rY hL K qb br) ?_;rintro _ _ ⟨_,⟨sr,j5,rfl⟩,rfl⟩;obtain ⟨gr,qz,rfl⟩:=j5.form;have gm:=Cy j5 A0
 obtain ⟨p7,ql,e7,⟨sw,qo⟩,p8⟩:=id gm;injection e7 with e71 e72 e73
 subst e71 e73;refine A5 Y<|A1<|Zm Y<|Zv (Ab C1 Y)<|Zv (mU (n:=100) Y Y) ?_;rw [D2 (show(ER x).length<=100 by omega)];refine Xr [_] Y call129 Y V (KU)<|A6<|Zq<|Be<|Zg<|A5 Y<|Zb [8,2,4,5,6,7] ?_;refine Ch (e0:=[(8,_)]) (H0:=[[(br,.cells #[_] 238 (0,0))],[]]) (fun e H=>∃(o:List AU) (vo:A4) (so:List A9) (pr:B8) (cr:Nat),(r=FW q (ER x) o/\Bc 5 80 vo o.length (Ae o) so/\o.length<=200000)/\e=[(8,vo)]/\H=[[(br,.cells #[.slice pr 0 cr] 238 (0,0))],so]) Wp ?hx_1 ?hy_1
 case hx_1=>
  refine A1<|Zh 0 CI V rfl AE Y<|Zl AH Y<|Zv (CO Y Y)<|A6<|Av Y (fun cu=>?_) (fun cu=>?_);·
   obtain ⟨O,X,ax⟩:∃o,Eu q (ER x) L2=some (o,[])/\r=FW q (ER x) o:=by rcases J with⟨h9,_⟩|⟨_,h9⟩;exact absurd cu h9;exact h9
   refine A1<|Zm Y<|Zv (Ab C1 Y)<|Zm Y<|A6<|AR<|Zb [8,31,2,4,5,6,7,29,30] ?_;refine BF (e0:=[(8,_),(31,_)]) (fun m e H=>∃(k:Nat) (o:List AU) (l9:List RP) (vo:A4) (so:List A9) (pr:B8) (cr:Nat),m=(ER x).length -k/\(k<=(ER x).length/\Eu q ((ER x).take k) L2=some (o,l9)/\Bc 5 80 vo o.length (Ae o) so/\G6 M (.slice pr l9.length cr) l9/\o.length<=2000*k)/\e=[(8,vo),(31,I0 (k:Int))]/\H=[[(br,.cells #[.slice pr l9.length cr] 238 (0,0))],so]) (by exact ⟨0,[],L2,.slice none 0 0,[],_,_,V,⟨C7 _,V,Bi 5 _,hT,C7 _⟩,V,V⟩) Wp ?_;rintro _ _ _ ⟨k,o,l9,vo,so,pr,cr,rfl,⟨hk,G,I,bn,sM⟩,rfl,rfl⟩;obtain ⟨go,co,rfl⟩:=I.form;refine A1<|Zv (Ay Y Y)<|A6<|Zq<|Av Y (fun ic=>?_) (fun ic=>?_);·
    obtain ⟨r9,cO⟩:∃r9,(ER x)[k]?=some r9:=⟨_,BT ic⟩;obtain ⟨g,off,cur,T,zz,rfl,pq,qw,gq⟩:=p8 k r9 cO;obtain ⟨o8,l8,U,o9,d9,_⟩:=Om (ER x) k L2 (O,[]) A0 X;rw [G]at U;injection U with U
    injection U with h83 h84
    subst h83 h84;rw [iJ cO]at d9;obtain ⟨a9,c9,dn,_,_⟩:=Lr d9;obtain ⟨x2,gy,j3,B,W⟩:=Sj dn;have pg:=(Oe B).1
    have qj:=Ql (ER x) k r9 L2 _ _ a9 cO G dn;rw [gy,E4];rw [gy,E4]at bn;refine AC<|Zx<|Zq<|AR<|A1<|BZ (Ad C1 B3 Y Y A0)<|CS (cs:=[(g,.cells cur T zz)]) (by simp [pq]) (AB (cs:=r9.A94) Cp B3 Y A0 gq) V rfl<|Ze (Al EV #[_,_,_,_,_])<|AG fun bx=>Xe (Xw B3 r9.A94)<|A6<|Zg<|Zm Y<|Zm Y<|Zo Wh (AB (cs:=#[_,_,_,_,_,_,_]) F1 CM Y B5 Ax)<|Zo Wh (AB (cs:=#[_,_,_,_,_]) Cp B3 Y B5 Ax)<|Xr [_,_] Y call92 Y V (TC q pz r9)<|Zc [_,_] Y call130 Y V (rY bn B j3 br) ?_;rintro _ _ ⟨_,⟨s5,h5,rfl⟩,rfl⟩;rw [<-W]at h5;obtain ⟨g5,c5,rfl⟩:=h5.form;refine Ze (BV (by_:=40) (sz:=5) C1 (rfl:Tryz.prog.info? 80=some Tryz.t80) rfl rfl rfl rfl Y (I) Y (jT h5) Wo Wo (by exact CW _) (by rw [W];omega) (by rw [W];omega)) ?_;rintro _ _ ⟨vz,af,rfl⟩;obtain ⟨sj,qx,rfl⟩:=af.form;refine AW Y<|Zn [2,4,5,6,7,8,29,30,31] ?_;refine A8<|Zx<|Zg<|Ya (n:=1) Y Y<|Zm Y<|Z0<|Zn [8,31,2,4,5,6,7,29,30] ?_;refine Aa (e':=[(8,_),(31,_)]) (by exact ⟨k+1,o++a9.1,a9.2,_,_,_,_,rfl,⟨by omega,qj,Ba af (by rw [BW]) (by rw [Bo]),bn.tail,by rw [BW,W];omega⟩,rfl,rfl⟩)
   have ek:k=(ER x).length:=by omega
   subst ek;rw [GC,X]at G;injection G with G
   injection G with hrd1 hrd2
   subst hrd1 hrd2;have ve:=ax
   refine Az<|Zt<|Zt<|AV<|Zn [8,2,4,5,6,7] ?_;refine BB (e':=[(8,_)]) (by exact ⟨O,.slice go O.length co,so,pr,cr,⟨ax,I,by omega⟩,V,V⟩)
  obtain ⟨kv,qa⟩:L2=[]/\r=FW q (ER x) []:=by rcases J with⟨_,h9⟩|⟨h9,_⟩;exact h9;exact absurd h9 cu
  subst kv;refine AC<|Zn [8,2,4,5,6,7] ?_;refine BB (e':=[(8,_)]) (by exact ⟨[],.slice none 0 0,[],Ec pv 1 cv 9,cv -1,⟨qa,Bi 5 _,C7 _⟩,V,V⟩)
 rintro _ _ ⟨o,vo,so,pr,cr,⟨q9,I,sO⟩,rfl,rfl⟩;obtain ⟨go,co,rfl⟩:=I.form;have l5:=Cy I A0
 refine A1<|Zm Y<|Zp Y V<|Zh 0 gE V rfl N3 Y<|Zl RR Y<|Zv (Ab W4 Y)<|Zv (Cj (n:=0) Y Y) ?_;rw [D2 (show(0:Nat)=0 from rfl)];refine Xr [_] Y call129 Y V (KU)<|A6<|A1<|Zo Wh (AB (cs:=#[_,_,_,_,_,_,_]) F1 CM Y B5 Ax)<|Zm Y<|Zm Y<|Zc [_,_,_] Y call59 Y V (aW gm l5 q A0 (fun _ r hr=>RV ((Oe K).2 r hr) q.bq)) ?_;rintro _ _ ⟨_,⟨vw,s3,rfl,h3,rfl⟩,rfl⟩;rw [NP hq,<-q9]at h3⊢;obtain ⟨p3,c3,rfl⟩:=h3.form;refine Xe (Xw B9 #[.slice p3 r.rows.length c3,I0 r.val,.bool r.fnd])<|Xe (Zs DM Y Y V (hi:=by decide))<|Z0<|Zn [4,5] ?_;refine Zx<|AJ<|uA V rfl call128 (z8 _) V call127 (tA bk _) Wp ?_;rintro _ rfl;refine ⟨_,[s3,M],fun a w hf hs=>Ub results79 ((CY a _ hf 4).trans rfl) (Au CN B9 (by exact CT _) (cs:=#[.slice p3 r.rows.length c3,I0 r.val,.bool r.fnd]) (BO rfl) w (aR (b:=bo) Wh hs)) ((CY a _ hf 5).trans rfl) (M5 Fc (v:= .bool true) (i:=0) rfl w (aR (b:=bk) Wh hs)),⟨_,s3,rfl,h3,rfl⟩,Sub.amid (by repeat(first|exact Sub.refl _|exact Sub.nil _|(apply Sub.cons;(focus (repeat(first|exact One.here _ _|apply One.there))))|refine Sub.drop _ ?_))⟩
theorem Nv{α:Type}(f:α->List A4)(sz:Nat)(W:∀a,(f a).length=sz)(h0:0<sz){l:List α}(X:∀(i:Nat) (a:α),l[i]?=some a->∃g off cur T zz,p=some ⟨g,off,none⟩/\(g,Obj.cells cur T zz)∈M/\off+i*sz+sz<=cur.size/\cur.extract (off+i*sz) (off+i*sz+sz)=(f a).toArray):FP M p (l.flatMap f):=by
 intro j u J;have B:(l.flatMap f).length=l.length*sz:=by
  clear X J;induction l with
  |nil=>simp
  |cons a l ih=>rw [HW,BW,ih,W,E4,L7];omega
 have m:=(C4.1 J).1;rw [B]at m;have hd:=Nat.div_add_mod j sz
 have hm:=fz j h0;have hi:j/sz<l.length:=oX (by rw [nB];exact m)
 obtain ⟨a,U⟩:∃a,l[j/sz]?=some a:=⟨_,BT hi⟩;obtain ⟨g,off,cur,T,zz,rfl,G,K,I⟩:=X (j/sz) a U;refine ⟨g,off,cur,T,zz,V,G,?_⟩;have h1:=PO I K (j%sz) hm
 have h2:=J3 f sz W l (j/sz) a U;have e1:j/sz*sz+j%sz=j:=by rw [nB];exact hd
 have O:(l.flatMap f)[j/sz*sz+j%sz]?=(f a)[j%sz]?:=by rw [<-h2,HH,As hm,S1]
 rw [e1,J]at O;rw [show off+j=off+j/sz*sz+j%sz by omega,h1,dt];exact O.symm
theorem kV(h:ZsU M (.slice p n cap) Z):FP M p (Z.flatMap Ep):=by
 obtain ⟨B,g,e,_,m⟩:=h;injection e with e1 e2 e3
 subst e1;exact Nv _ 9 (fun _=>rfl) B0 fun i z hz=>(m i z hz).2
theorem eH(h:Ee M (.slice p n cap) l):FP M p (Dv l):=by
 obtain ⟨B,g,e,_,m⟩:=h;injection e with e1 e2 e3
 subst e1;exact Nv _ 2 (fun _=>rfl) B0 fun i z hz=>(m i z hz).2
theorem Ud(l:List BR):(Dv l).length=l.length*2:=by
 induction l with
 |nil=>rfl
 |cons a l ih=>unfold Dv at*;rw [HW,BW,ih];simp only [E4,Ks];omega
theorem XH(l:List BR):∀u∈Dv l,u.oneCell'=true:=by
 intro u g;obtain ⟨z,_,h⟩:=S4.1 g;simp only [DB,Pr,P0]at h;rcases h with rfl|rfl<;>rfl
structure dB where
 q:QM
 res:C9
 since:Int
 until_:Int
 base:Int
 ranges:List RP
 recs:List BR
structure V5 where
 a:dB
 rp:B8
 rc:Nat
 gp:B8
 gc:Nat
 cp:B8
 cc:Nat
abbrev V5.A96(c:V5):Array Go.Value:=#[I0 c.a.q.kd,I0 c.a.q.tb,I0 c.a.q.cl,I0 c.a.q.lo,I0 c.a.q.hi,I0 c.a.q.bq,I0 c.a.q.ot,.slice c.rp c.a.res.rows.length c.rc,I0 c.a.res.val,.bool c.a.res.fnd,I0 c.a.since,I0 c.a.until_,I0 c.a.base,.slice c.gp c.a.ranges.length c.gc,.slice c.cp c.a.recs.length c.cc]
def V5.ok(M:List A9)(z:V5):Prop:=Di M (.slice z.rp z.a.res.rows.length z.rc) z.a.res.rows/\G6 M (.slice z.gp z.a.ranges.length z.gc) z.a.ranges/\Ee M (.slice z.cp z.a.recs.length z.cc) z.a.recs
theorem Lp(h:Ee M v l)(K:∀c∈M,c∈M'):Ee M' v l:=by
 obtain ⟨p,cap,e,U,O⟩:=h;refine ⟨p,cap,e,U,fun i r W=>?_⟩;obtain ⟨⟨X,cap2,e2,J,I⟩,g,off,cur,T,zz,m,B,G⟩:=O i r W;refine ⟨⟨X,cap2,e2,J,fun j c hc=>?_⟩,g,off,cur,T,zz,m,K _ B,G⟩;obtain ⟨g,off,cur,T,zz,m,B,G⟩:=I j c hc;exact ⟨g,off,cur,T,zz,m,K _ B,G⟩
theorem V5.ok.mono{z:V5}(h:z.ok M)(g:∀c∈M,c∈M'):z.ok M':=⟨h.1.mono g,h.2.1.mono g,Lp h.2.2 g⟩
noncomputable def Jy(q:QM)(base:Int)(L:List RP)(recs:List BR):Option dB:=(Es q L).bind fun r=>if recs.length<=64 then(GU q base 0 (r,base) recs).map fun st=>⟨q,st.1,st.2,base+(recs.length:Int),base,L,recs⟩else none
variable{base:Int}
theorem ig{recs:List BR}(h:¬recs.length<=64):Jy q base L recs=none:=by
 unfold Jy;cases Es q L with
 |none=>rfl
 |some r=>rw [KB,An h]
theorem QW{recs:List BR}(g:Es q L=some r)(h:recs.length<=64):Jy q base L recs=(GU q base 0 (r,base) recs).map fun st=>⟨q,st.1,st.2,base+(recs.length:Int),base,L,recs⟩:=by
 unfold Jy;rw [g,KB,As h]
theorem Lm(h:(BA q r base l).2.2=true):GU q base 0 (r,base) l=some ((BA q r base l).1,(BA q r base l).2.1):=by
 unfold BA at*;split at h;· rename_i st h9;rw [h9]
 · cases h
theorem Yj(h:(BA q r base l).2.2=false):GU q base 0 (r,base) l=none:=by
 unfold BA at*;split at h;· cases h
 · rename_i h9;exact h9
theorem kH(hq:BI q){rows g:List AU}(hl:rows.length<=100)(I:∀r∈rows,r.ok):(FW q rows g).rows.length<=200/\-1000000000000000000<=(FW q rows g).val/\(FW q rows g).val<=1000000000000000000:=by
 have G:=jo (q:=q) (rows:=rows) (fun r hr=>RV (I r hr) q.bq);have B:(D5 q rows).length<=1000000000:=by rw [KN];omega
 have hj:=Te q rows g;have O:∀(lt:Int->Int->Bool) (hlt:∀a b c,lt b a=false->lt c b=false->lt c a=false) (hirr:∀a,lt a a=false) (hasy:∀a b,lt a b=true->lt b a=false),(Ea lt (D5 q rows)).rows.length<=200/\-1000000000000000000<=(Ea lt (D5 q rows)).val/\(Ea lt (D5 q rows)).val<=1000000000000000000:=fun lt U W X=>by
  cases hms:D5 q rows with
  |nil=>exact ⟨C7 _,by show(_:Int)<=0;decide,by show(0:Int)<=_;decide⟩
  |cons z ms=>
   obtain ⟨x,J,_,K⟩:=KR lt U W X z ms;rw [K];rw [hms]at G;have:=G x J
   exact ⟨C7 _,by show _<=x;omega,by show x<=_;omega⟩
 have m:=jS G B (D5 q rows).length;rw [GC]at m;unfold FW;split;· exact ⟨C7 _,by simp only;omega,by simp only;omega⟩
 · split
   · exact ⟨C7 _,m⟩
   · split
     · exact O _ (fun a b c h1 h2=>by simp only [Mu]at*;omega) (fun a=>by simp) (fun a b h=>by simp only [G4,Mu]at*;omega)
     · split
       · exact O _ (fun a b c h1 h2=>by simp only [Mu]at*;omega) (fun a=>by simp) (fun a b h=>by simp only [G4,Mu]at*;omega)
       · split
         · exact ⟨by simp only;omega,by simp only;decide,by simp only;decide⟩
         · exact ⟨by simp only;omega,by simp only;decide,by simp only;decide⟩
theorem Md{sz:Nat}{e:AK}{xs:List A4}(h:Bc sz e v n xs s):n<=maxLen:=by
 obtain ⟨_,⟨_,h0,_⟩|⟨_,_,_,_,_,_,g,h2,_⟩⟩:=h;· omega
 · omega
theorem OQ(h:Es q L=some r):BI q/\r.rows.length<=200/\-1000000000000000000<=r.val/\r.val<=1000000000000000000:=by
 obtain ⟨x,G,_,g,_,hc,m,B⟩:=Qc h;refine ⟨g,?_⟩;rcases B with⟨_,_,rfl⟩|⟨_,o,_,rfl⟩
 · exact kH g m (Oe hc).2
 · exact kH g m (Oe hc).2
theorem LZ(hv:ZsU M v Z)(hb:Z.length<=1000000):BS prog 75 #[v] [M] (fun r H'=>∃K,Bc 9 171 r Z.length (Z.flatMap Ep) K/\H'=[K,M]):=by
 have X:=mL;have B:=hv
 obtain ⟨p,cap,rfl,⟨hl,W⟩,U⟩:=id hv;replace B:=kV B;refine Se func75 ntmps75 [0] ?_;intro u R;refine A1<|A5 Y<|Zq<|A1<|Zm Y<|Zv (Dr W4 Y Y)<|A6<|AQ Y (fun J=>?_) (fun J=>?_);·
  have G:p=none:=by cases p with
   |none=>rfl
   |some x=>cases J
  have h0:Z=[]:=by
   cases Z with
   |nil=>rfl
   |cons x l=>obtain ⟨_,g,off,cur,T,zz,I,_⟩:=U 0 x rfl;rw [G]at I;cases I
  refine Zq<|Be<|Zg<|A5 Y<|AJ<|Zt<|AP rfl results75 Y (by exact ⟨[],by rw [h0];exact Bi 9 _,rfl⟩)
 refine AC<|Zx<|A1<|Ze (EQ W4 N2)<|AG fun O=>Zm Y<|Ze (Hl (by_:=120) (sz:=9) W4 (V:Tryz.prog.info? 171=some Tryz.t171) V rfl V rfl Y (IV 9 171 O 0 [] V B0) Y (B) (by exact vi _) B0 Wo Wo (by exact zQ _) A0 A0) ?_;rintro _ _ ⟨af,m,rfl⟩;replace m:=Ba m (D4 _) (LN _);refine A5 Y<|AJ<|AP V results75 Y (by exact ⟨_,m,V⟩)
theorem IL{Z:List BR}(hv:Ee M v Z)(hb:Z.length<=1000000):BS prog 46 #[v] [M] (fun r H'=>∃K,Bc 2 57 r Z.length (Dv Z) K/\H'=[K,M]):=by
 have X:=mL;have B:=hv
 obtain ⟨p,cap,rfl,⟨hl,W⟩,U⟩:=id hv;replace B:=eH B;refine Se func46 ntmps46 [0] ?_;intro u R;refine A1<|A5 Y<|Zq<|A1<|Zm Y<|Zv (Dr HA Y Y)<|A6<|AQ Y (fun J=>?_) (fun J=>?_);·
  have G:p=none:=by cases p with
   |none=>rfl
   |some x=>cases J
  have h0:Z=[]:=by
   cases Z with
   |nil=>rfl
   |cons x l=>obtain ⟨_,g,off,cur,T,zz,I,_⟩:=U 0 x rfl;rw [G]at I;cases I
  refine Zq<|Be<|Zg<|A5 Y<|AJ<|Zt<|AP rfl results46 Y (by exact ⟨[],by rw [h0];exact Bi 2 _,rfl⟩)
 refine AC<|Zx<|A1<|Ze (EQ HA G3)<|AG fun O=>Zm Y<|Ze (Hl (by_:=32) (sz:=2) HA (V:Tryz.prog.info? 57=some Tryz.t57) V rfl V rfl Y (IV 2 57 O 0 [] V B0) Y (B) (by exact Ud _) B0 Wo Wo (by exact XH _) A0 A0) ?_;rintro _ _ ⟨af,m,rfl⟩;replace m:=Ba m (D4 _) (LN _);refine A5 Y<|AJ<|AP V results46 Y (by exact ⟨_,m,V⟩)
set_option maxHeartbeats 1000000 in
theorem vv(q:QM)(te base:Int)(hb:-1000000000000<=base/\base<=1000000000000){pg:B8}{cg:Nat}(hL:G6 M (.slice pg L.length cg) L)(j5:L.length<=1000000)(hr:Es q L=some r){lv:A4}(O:Ee M lv l)(dn:∀x∈l,x.cs.length<=1000):BS prog 56 #[.agg #[I0 q.kd,I0 q.tb,I0 q.cl,I0 q.lo,I0 q.hi,I0 q.bq,I0 q.ot,I0 te,I0 base,.slice pg L.length cg],lv] [M] (fun w H'=>(∃(z:V5) (s3 s1 s2:List A9),Jy q base L l=some z.a/\z.ok (s3++(s1++(s2++M)))/\w= .tuple #[.agg z.A96,.bool true]/\H'=[s3,s1,s2,M])\/(Jy q base L l=none/\w= .tuple #[.agg #[I0 0,I0 0,I0 0,I0 0,I0 0,I0 0,I0 0,.slice none 0 0,I0 0,.bool false,I0 0,I0 0,I0 0,.slice none 0 0,.slice none 0 0],.bool false]/\H'=[M])):=by
 have l8:=mL;obtain ⟨hq,l9,gy⟩:=OQ hr;obtain ⟨pl,cl,rfl,kv,l5⟩:=id O;obtain ⟨Z,hZ,W⟩:=id hL;have U:Z.length=L.length:=by rw [<-W,B6]
 obtain ⟨pz,cz,ez,_,ic⟩:=id hZ;refine Se func56 ntmps56 [0,1] ?_;intro u R;refine A1<|Ze (Bx #[I0 q.kd,I0 q.tb,I0 q.cl,I0 q.lo,I0 q.hi,I0 q.bq,I0 q.ot,I0 te,I0 base,.slice pg L.length cg])<|AG fun be=>Ze (Al Ly #[_,_,_,_,_,_,_,_,_,_,_,_,_,_,_])<|AG fun bo=>A5 Y<|A1<|Zh 0 G1 V rfl CM Y<|Zo Wh (AB (cs:=#[_,_,_,_,_,_,_]) F1 CM Y B5 Ax) ?_;refine Zh 9 G1 V rfl N3 Y<|Zl RR Y ?_;refine Zc [_,_] Y call79 Y V (X5 hL q hr) ?_;rintro _ _ ⟨_,⟨o8,s0,rfl,h0,rfl⟩,rfl⟩;obtain ⟨p0,c0,rfl⟩:=h0.form;have d9:=Cy h0 A0
 refine Zm Y<|Zd Y V<|Zd Y V<|Ze (Al GS #[_,_,_])<|AG fun bs=>Xe (Xw B9 #[.slice p0 r.rows.length c0,I0 r.val,.bool r.fnd]) ?_;refine AW Y<|Zn [1,2,4,6,7] ?_;refine Zx<|Zq<|A1<|Zm Y<|Zv (Br Y)<|Zm Y<|Aj (t:=19) Y V (fun X=>by cases X)<|fun X=>Zf Y Y<|Yg (Ab HA Y)<|Yg (DN (n:=64) Y Y)<|Zv (AL Y Y)<|A6<|Av Y (fun af=>?_) (fun af=>?_);·
  refine A1<|Zv (BM (vs:=[]) (cs:=#[_,_,_,_,_,_,_,_,_,_,_,_,_,_,_]) Y (AZ (pl:=#[(0,7),(7,3),(10,1),(11,1),(12,1),(13,1),(14,1)]) Ly ID (fun _=>by kernel_rfl) rfl))<|Xe (BL LL Y Y Hi Wu (by exact EN rfl) Fi B0 (by exact BC _)) ?_;refine A5 Y<|AJ<|Zt<|CP V results56 Y Wh (Au isAgg63 LL Wn (BO V)) Y (by exact .inr ⟨ig A0,V,V⟩)
 refine AC<|Zx<|Zb [1,2,4,6] ?_;refine Ch (e0:=[]) (H0:=[]) (fun e H=>∃(I:Nat) (G:B8) (B:Nat) (s1:List A9) (m:B8) (g:Nat) (s2:List A9),(Bc 9 171 (.slice G L.length B) Z.length (Z.flatMap Ep) s1/\Bc 2 57 (.slice m l.length g) l.length (Dv l) s2)/\e=[(8,I1 I)]/\H=[[(I,.cells #[I0 q.kd,I0 q.tb,I0 q.cl,I0 q.lo,I0 q.hi,I0 q.bq,I0 q.ot,.slice none 0 0,I0 0,.bool false,I0 0,I0 (base+(l.length:Int)),I0 base,.slice G L.length B,.slice m l.length g] 63 (0,0))],s1,s2]) Wp ?hx_2 ?hy_2
 case hx_2=>
  refine Aw (n:=17) (0::1::0::4::0::16::60::0::128::0::512::1536::0::7680::16383::0::65535::[]) 108544 AF AF V<|A3 0 V (AA (off:=0) G1 V rfl CM Y)<|FF 1 V Wh (AB (cs:=#[_,_,_,_,_,_,_]) F1 CM Y B5 Ax) ?_;refine A3 2 V (AA (off:=8) G1 V rfl AE Y)<|BE 3 V AH Y ?_;refine A3 4 V (AO Y)<|A3 5 V (Ab HA Y) ?_
  (refine Dn (D':=127) 6 (Ha Y Y (IntWalk.i64_in _ ?_)) ?_;(focus (omega)))
  refine A3 7 V (AA (off:=8) G1 V rfl AE Y)<|BE 8 V AH Y ?_;refine A3 9 V (AA (off:=9) G1 V rfl N3 Y)<|BE 10 V RR Y ?_;refine A3 12 V (AO Y)<|Zz (l:=[11,15])<|B7 [false,true,true,true] [(8,(_,_)),(3,(_,_)),(1,(_,_))] V rfl (Zw [_] Y call75 Y V (LZ hZ A0)) ?_ Bp ?_;·
   rintro _ _ ⟨_,⟨s1,J,rfl⟩,rfl⟩;refine ⟨Zk (Zk (Zk (AY))),?_⟩;obtain ⟨G,B,e1⟩:=J.form;rw [U]at e1;subst e1;refine Zz (l:=[13,15])<|B7 [true,true,true] [(8,(_,_)),(3,(_,_)),(1,(_,_))] V rfl (Zw [_] Y call46 Y V (IL O A0)) ?_ Bp ?_;·
    rintro _ _ ⟨_,⟨s2,h2,rfl⟩,rfl⟩;refine ⟨Zk (Zk (Zk (AY))),?_⟩;obtain ⟨m,g,rfl⟩:=h2.form;refine A3 14 V (BM (vs:=[(0,.agg q.A95),(3,I0 (base+(l.length:Int))),(4,I0 base),(5,.slice G L.length B),(6,.slice m l.length g)]) (cs:=#[I0 q.kd,I0 q.tb,I0 q.cl,I0 q.lo,I0 q.hi,I0 q.bq,I0 q.ot,.slice none 0 0,I0 0,.bool false,I0 0,I0 (base+(l.length:Int)),I0 base,.slice G L.length B,.slice m l.length g]) Y (AZ (pl:=#[(0,7),(7,3),(10,1),(11,1),(12,1),(13,1),(14,1)]) Ly ID (fun _=>by kernel_rfl) AF))<|Yz 15 0 65535 [8,3,1] [true,true,true] [(8,(_,_)),(3,(_,_)),(1,(_,_))] V Y V rfl V rfl (Al Ly #[_,_,_,_,_,_,_,_,_,_,_,_,_,_,_])<|AG fun I=>Bk<|Yw 16 131071 V (Xw LL #[I0 q.kd,I0 q.tb,I0 q.cl,I0 q.lo,I0 q.hi,I0 q.bq,I0 q.ot,.slice none 0 0,I0 0,.bool false,I0 0,I0 (base+(l.length:Int)),I0 base,.slice G L.length B,.slice m l.length g])<|D0<|Ag<|Zn [8,1,2,4,6] ?_;refine BB (e':=[(8,_)]) (by exact ⟨I,G,B,s1,m,g,s2,⟨J,h2⟩,V,V⟩)
   refine B7 [true,true,true] [(8,(_,_)),(3,(_,_)),(1,(_,_))] V rfl (Al Ly #[_,_,_,_,_,_,_,_,_,_,_,_,_,_,_]) ?_ (fun _ _ h=>h.elim) Ah;rintro _ _ ⟨I,rfl,rfl⟩;refine Bk<|Zz (l:=[13])<|B7 [true,true,true] [(8,(_,_)),(3,(_,_)),(1,(_,_))] V rfl (Zw [_] Y call46 Y V (IL O A0)) ?_ Bp Ah;rintro _ _ ⟨_,⟨s2,h2,rfl⟩,rfl⟩;refine ⟨Zk (Zk (Zk (AY))),?_⟩;obtain ⟨m,g,rfl⟩:=h2.form;refine A3 14 V (BM (vs:=[(0,.agg q.A95),(3,I0 (base+(l.length:Int))),(4,I0 base),(5,.slice G L.length B),(6,.slice m l.length g)]) (cs:=#[I0 q.kd,I0 q.tb,I0 q.cl,I0 q.lo,I0 q.hi,I0 q.bq,I0 q.ot,.slice none 0 0,I0 0,.bool false,I0 0,I0 (base+(l.length:Int)),I0 base,.slice G L.length B,.slice m l.length g]) Y (AZ (pl:=#[(0,7),(7,3),(10,1),(11,1),(12,1),(13,1),(14,1)]) Ly ID (fun _=>by kernel_rfl) AF))<|Yw 16 131071 V (Xw LL #[I0 q.kd,I0 q.tb,I0 q.cl,I0 q.lo,I0 q.hi,I0 q.bq,I0 q.ot,.slice none 0 0,I0 0,.bool false,I0 0,I0 (base+(l.length:Int)),I0 base,.slice G L.length B,.slice m l.length g])<|D0<|Ag<|Zn [8,1,2,4,6] ?_;refine BB (e':=[(8,_)]) (by exact ⟨I,G,B,s1,m,g,s2,⟨J,h2⟩,V,V⟩)
  refine B7 [true,true,true,true] [(10,(_,_)),(8,(_,_)),(3,(_,_)),(1,(_,_))] V rfl (Al Ly #[_,_,_,_,_,_,_,_,_,_,_,_,_,_,_]) ?_ (fun _ _ h=>h.elim) Ah;rintro _ _ ⟨I,rfl,rfl⟩;refine Bk<|Zz (l:=[11])<|B7 [false,true,true,true] [(8,(_,_)),(3,(_,_)),(1,(_,_))] V rfl (Zw [_] Y call75 Y V (LZ hZ A0)) ?_ Bp Ah;rintro _ _ ⟨_,⟨s1,J,rfl⟩,rfl⟩;refine ⟨Zk (Zk (Zk (AY))),?_⟩;obtain ⟨G,B,e1⟩:=J.form;rw [U]at e1;subst e1;refine Zz (l:=[13])<|B7 [true,true,true] [(8,(_,_)),(3,(_,_)),(1,(_,_))] V rfl (Zw [_] Y call46 Y V (IL O A0)) ?_ Bp Ah;rintro _ _ ⟨_,⟨s2,h2,rfl⟩,rfl⟩;refine ⟨Zk (Zk (Zk (AY))),?_⟩;obtain ⟨m,g,rfl⟩:=h2.form;refine A3 14 V (BM (vs:=[(0,.agg q.A95),(3,I0 (base+(l.length:Int))),(4,I0 base),(5,.slice G L.length B),(6,.slice m l.length g)]) (cs:=#[I0 q.kd,I0 q.tb,I0 q.cl,I0 q.lo,I0 q.hi,I0 q.bq,I0 q.ot,.slice none 0 0,I0 0,.bool false,I0 0,I0 (base+(l.length:Int)),I0 base,.slice G L.length B,.slice m l.length g]) Y (AZ (pl:=#[(0,7),(7,3),(10,1),(11,1),(12,1),(13,1),(14,1)]) Ly ID (fun _=>by kernel_rfl) AF))<|Yw 16 131071 V (Xw LL #[I0 q.kd,I0 q.tb,I0 q.cl,I0 q.lo,I0 q.hi,I0 q.bq,I0 q.ot,.slice none 0 0,I0 0,.bool false,I0 0,I0 (base+(l.length:Int)),I0 base,.slice G L.length B,.slice m l.length g])<|D0<|Ag<|Zn [8,1,2,4,6] ?_;refine BB (e':=[(8,_)]) (by exact ⟨I,G,B,s1,m,g,s2,⟨J,h2⟩,V,V⟩)
 rintro _ _ ⟨I,G,B,s1,m,g,s2,⟨J,h2⟩,rfl,rfl⟩;refine Zq<|A1<|Zh 0 G1 V rfl CM Y<|Zo Wh (AB (cs:=#[_,_,_,_,_,_,_]) F1 CM Y B5 Ax) ?_;refine Zo Wh (AB (cs:=#[_,_,_]) CN B9 Y B5 Ax) ?_;refine Zh 8 G1 V rfl AE Y<|Zl AH Y ?_;refine Zm Y<|Zc [_,_,_,_] Y call80 Y V (Qk q hq base A0 O A0 dn d9 A0 gy) ?_;rintro _ _ ⟨_,⟨o9,s3,rfl,h3,rfl⟩,rfl⟩;obtain ⟨g3,c3,rfl⟩:=h3.form;refine Zm Y<|Zd Y rfl<|Zd Y rfl<|Zd Y rfl<|Zh 7 ID rfl rfl B9 Y<|Xe (BL B9 Y Y Hi Wu (by exact (rfl:_=(#[I0 q.kd,I0 q.tb,I0 q.cl,I0 q.lo,I0 q.hi,I0 q.bq,I0 q.ot,.slice g3 (BA q r base l).1.rows.length c3,I0 (BA q r base l).1.val,.bool (BA q r base l).1.fnd,I0 0,I0 (base+(l.length:Int)),I0 base,.slice G L.length B,.slice m l.length g]:AM))) Fi B5 (by exact BC _)) ?_;refine Zh 10 ID V rfl AE Y<|Xe (Zs AE Y Y V (hc:=by exact (V:_=(#[I0 q.kd,I0 q.tb,I0 q.cl,I0 q.lo,I0 q.hi,I0 q.bq,I0 q.ot,.slice g3 (BA q r base l).1.rows.length c3,I0 (BA q r base l).1.val,.bool (BA q r base l).1.fnd,I0 (BA q r base l).2.1,I0 (base+(l.length:Int)),I0 base,.slice G L.length B,.slice m l.length g]:AM))) (hi:=by(simp;done))) ?_;refine AW Y<|Zn [4,7,8] ?_;refine Zx<|A1<|Zm Y<|Zv (Br Y)<|A6<|AQ Y (fun K=>?_) (fun K=>?_);·
  have gm:(BA q r base l).2.2=false:=by simpa using K
  refine A1<|Zv (BM (vs:=[]) (cs:=#[_,_,_,_,_,_,_,_,_,_,_,_,_,_,_]) Y (AZ (pl:=#[(0,7),(7,3),(10,1),(11,1),(12,1),(13,1),(14,1)]) Ly ID (fun _=>by kernel_rfl) rfl))<|Xe (BL LL Y Y Hi Wu (by exact EN rfl) Fi B0 (by exact BC _)) ?_;refine A5 Y<|AJ<|Zt<|CP rfl results56 Y Wh (Au isAgg63 LL Wn (BO rfl)) Y (by exact .inr ⟨by rw [QW hr A0,Yj gm];rfl,rfl,rfl⟩)
 have bn:(BA q r base l).2.2=true:=by simpa using K
 refine AC<|Zx<|Zq ?_;have cu:∀z∈Z,z.ok M:=fun z hz=>by obtain ⟨i,hi⟩:=HB hz;exact (ic i z hi).1
 have ax:∀x∈l,Cv M (.slice x.q x.cs.length x.cap) x.cs:=fun x hx=>by obtain ⟨i,hi⟩:=HB hx;obtain ⟨_,_,_,_,ek⟩:=O;exact (ek i x hi).1
 have gq:=Lm bn;have j3:=F5 h3
 have cO:=Md h3;refine Zg<|Zo Wh (AB (cs:=#[_,_,_,_,_,_,_,_,_,_,_,_,_,_,_]) isAgg63 LL Y B5 Ax) ?_;refine Xe (BL LL Y Y Hi Wu (by exact EN rfl) Fi B0 (by exact BC _)) ?_;refine A5 Y<|AJ<|CP rfl results56 Y Wh (Au isAgg63 LL Wn (BO rfl)) Y (by exact .inl ⟨⟨⟨q,(BA q r base l).1,(BA q r base l).2.1,base+(l.length:Int),base,L,l⟩,g3,c3,G,B,m,g⟩,s3,s1,s2,by rw [QW hr A0,gq];rfl,⟨(Cy h3 cO).mono (fun c hc=>Ek _ hc),⟨Z,(Wl J A0 cu).mono (fun c hc=>by rcases C2.1 hc with h9|h9;exact GB _ (Ek _ h9);exact GB _ (GB _ (GB _ h9))),W⟩,Lp (K9 h2 (by show l.length<=maxLen;omega) ax) (fun c hc=>GB _ (GB _ hc))⟩,rfl,rfl⟩)
theorem zB(q:QM)(te base:Int)(J:-1000000000000<=base/\base<=1000000000000){G:B8}{B:Nat}(I:G6 M (.slice G L.length B) L)(g:L.length<=1000000)(O:Es q L=some r){lv:A4}(K:Ee M lv l)(m:∀x∈l,x.cs.length<=1000):BS prog 56 #[.agg #[I0 q.kd,I0 q.tb,I0 q.cl,I0 q.lo,I0 q.hi,I0 q.bq,I0 q.ot,I0 te,I0 base,.slice G L.length B],lv] [M] (fun w H'=>∃(z:V5) (s:List A9) (b:Bool),((b=true/\Jy q base L l=some z.a/\z.ok (s++M))\/(b=false/\Jy q base L l=none))/\w= .tuple #[.agg z.A96,.bool b]/\H'=[s,M]):=by
 refine Ga (vv q te base J I g O K m) V ?_;rintro w H' (⟨z,s3,s1,s2,h1,h2,rfl,rfl⟩|⟨h1,rfl,rfl⟩);· exact ⟨_,⟨z,s3++(s1++s2),true,.inl ⟨rfl,h1,by simpa only [Cd]using h2⟩,rfl,rfl⟩,by simp⟩
 · exact ⟨_,⟨⟨⟨⟨0,0,0,0,0,0,0⟩,C9.none,0,0,0,[],[]⟩,none,0,none,0,none,0⟩,[],false,.inr ⟨rfl,h1⟩,rfl,rfl⟩,by simp⟩
end Go.Proofs.YthhakdmlpngcmaaGreatDoor
