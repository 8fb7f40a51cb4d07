/- statetree: complete, Rows. -/
import Derived.Test.YthhakdmlpngcmaaGreatDoorTr7
set_option linter.unusedVariables false
set_option linter.unusedSimpArgs false
namespace Go.Proofs.YthhakdmlpngcmaaGreatDoor
open Go.Proofs.Tryz
open Go Go.RowKit Gw
set_option maxRecDepth 100000
attribute [local irreducible] Gw.At Gw.Nx Gw.Ops
def Ma(M:List A9)(v:A4)(ps:List (List Bs)):Prop:=∃p cap,v= .slice p ps.length cap/\(ps.length<=maxLen/\ps.length<=cap)/\∀(i:Nat) (l:List Bs),ps[i]?=some l->∃q c,Eb M (.slice q l.length c) l/\∃g off cur T zz,p=some ⟨g,off,none⟩/\(g,Obj.cells cur T zz)∈M/\cur[off+i]?=some (.slice q l.length c)
def Xt(M:List A9)(v:A4)(x:RP):Prop:=∃vr vp vt,v= .agg #[I4 x.tb,I4 x.cl,I4 x.lo,I4 x.hi,I4 x.ct,I4 x.fi,vr,vp,vt]/\EB M vr x.rows/\Ma M vp x.paths/\Eb M vt x.roots
variable{v:A4}{s:List A9}
theorem VV{e:AM}{ps:List (List Bs)}{m:List A4}{W:List A9}(h:Bd 1 e v ps.length m s)(G:LV W m ps)(J:ps.length<=maxLen):Ma (s++W) v ps:=by
 rcases PB ps.length with h0|h0
 · obtain ⟨b,cap,rfl⟩:=h.form
   exact ⟨b,cap,rfl,⟨J,by omega⟩,fun i s K=>by rw [Ln h0]at K;simp at K⟩
 · obtain ⟨g,cap,cur,z,rfl,rfl,B,X⟩:=Lj h h0
   refine ⟨_,cap,V,⟨J,B⟩,fun i l I=>?_⟩;have af:=(C4.1 I).1
   obtain ⟨w,U⟩:∃w,m[i]?=some w:=⟨_,BT (by have:=G.1;omega)⟩;have O:=G.2 i w l U I
   obtain ⟨q,c,e1,h1,h2⟩:=id O;subst e1;refine ⟨q,c,O.mono (fun c h=>G2 _ h),g,0,cur,e,z,V,by simp,?_⟩;rw [D3];exact X i _ U
variable{M' M:List A9}
theorem Ma.mono{ls:List (List Bs)}(h:Ma M v ls)(m:∀c∈M,c∈M'):Ma M' v ls:=by
 obtain ⟨p,cap,e,I,G⟩:=h;refine ⟨p,cap,e,I,fun i s J=>?_⟩;obtain ⟨q,c,h0,g,off,cur,T,zz,e1,B,h2⟩:=G i s J;exact ⟨q,c,h0.mono m,g,off,cur,T,zz,e1,m _ B,h2⟩
theorem dZ(v:A4)(p:Int)(rs:List AR)(s:List A9)(hv:RF v p rs s)(K:BP rs)(hn:rs.length<=2000)(G:∀r∈rs,r.ok)(t c:Nat)(ht:t<=3)(hc:c<=3)(lo hi:Int)(B:lo<=hi)(m:AM)(J:Nat×Nat):
 BR prog 90 #[v,I4 (t:Int),I4 (c:Int),I4 lo,I4 hi] [[(4,.cells (Ew.map Cz).toArray m J)],s] (fun r H'=>∃O mem,r= .tuple #[O,I4 0]/\Xt mem O (Et rs t c lo hi)/\H'=[mem,[(4,.cells (Ew.map Cz).toArray m J)],s]):=by
 have ax:=mL;refine Gx (df v p rs s hv K hn G t c ht hc lo hi B m J) V ?_;rintro r H' ⟨vr,vp,vt,I,sp,cO,mp,so,rfl,U,h2,W,X,rfl⟩;have af:=JH K (t:Int) c
 have cu:toT (BO rs (t:Int) c) c hi<=(BO rs (t:Int) c).length:=oc _ _;have g:=eF (BO rs (t:Int) c) (CQ (BO rs (t:Int) c) c lo) (toT (BO rs (t:Int) c) c hi -CQ (BO rs (t:Int) c) c lo)
 have bn:(((BO rs (t:Int) c).drop (CQ (BO rs (t:Int) c) c lo)).take (toT (BO rs (t:Int) c) c hi -CQ (BO rs (t:Int) c) c lo)).length<=2000:=by rw [CD,CH];omega
 refine ⟨_,⟨_,I++(sp++mp)++so,V,⟨vr,vp,vt,V,?_,?_,?_⟩,V⟩,by simp⟩;· exact (DY U A0).mono (fun c h=>Ek _ (Ek _ h))
 · exact (VV (BZ h2 g.symm rfl) W (by rw [g];omega)).mono (fun c h=>Ek _ (G2 _ h))
 · exact (He (BZ X (Y9 rs).symm rfl) (by rw [Y9];omega)).mono (fun c h=>G2 _ h)
def Xq(x:RP)(j:Nat)(r:AR):Prop:=r.ok/\r.t=x.tb/\(Bl r x.cl<x.lo->j=0)/\(x.hi<Bl r x.cl->x.rows.length<=j+1)
def UL(x:RP)(q r:AR):Prop:=Bl q x.cl<Bl r x.cl\/Bl q x.cl=Bl r x.cl/\q.k<r.k
structure Gb(x:RP):Prop where
 tc:(0<=x.tb/\x.tb<4)/\0<=x.cl/\x.cl<4
 lh:x.lo<=x.hi
 ct:0<=x.ct/\x.ct<=2000
 fi:0<=x.fi/\x.fi<=x.ct
 n:(x.rows.length:Int)<=x.ct -x.fi
 none:x.rows.length=0->x.ct=0
 all:∀(j:Nat) (r:AR),x.rows[j]?=some r->Xq x j r/\(0<j->∀q,x.rows[j -1]?=some q->UL x q r)
 first:∀r,x.rows[0]?=some r->x.fi=0\/Bl r x.cl<x.lo
 last:∀r,x.rows[x.rows.length -1]?=some r->x.fi+(x.rows.length:Int)=x.ct\/x.hi<Bl r x.cl
noncomputable instance(x:RP):Decidable (Gb x):=Classical.propDecidable _
variable{p:B8}{cap:Nat}
theorem Ha(x:RP)(vp vt:A4)(U:EB M (.slice p x.rows.length cap) x.rows)(hc:0<=x.cl/\x.cl<=3)(K i:Nat)(r:AR)(I:x.rows[i]?=some r):BJ prog 270 #[I4 (i:Int),I5 K] [[(K,.cells #[I4 x.tb,I4 x.cl,I4 x.lo,I4 x.hi,I4 x.ct,I4 x.fi,.slice p x.rows.length cap,vp,vt] 171 (0,0))],M] (I4 (Bl r x.cl)):=by
 have af:=mL;obtain ⟨p9,G,O,hl,W⟩:=U;injection O with e91 e92 e93
 subst e91 e93;obtain ⟨g,off,cur,T,zz,rfl,B,J,m⟩:=W i r I;have X:=(C4.1 I).1
 refine Se func270 ntmps270 [0,1] ?_;intro u R;refine A1<|A5 Y<|Zq<|BA (n:=9) (0::1::0::7::15::0::32::127::255::[]) 128 AF AF V<|A3 0 V (AA (off:=6) E4 V rfl DA Y)<|BE 1 V GP Y<|A3 2 V (AO Y)<|A3 3 V (Ae C1 B3 Y Y A0)<|Cc (b:=g) (x:= .cells cur T zz) (D':=31) 4 V rfl V (by simp [B]) (AB (cs:=r.A71) D0 B3 Y A0 m) ?_;refine A3 5 V (AA (off:=1) E4 V rfl AE Y)<|BE 6 V AH Y<|Yw 7 255 V (Zu [_,_] Y SO Y V (G8 r x.cl hc))<|Cp<|A3 8 V (Aq Y)<|Ag<|Zx<|AJ<|AP V results270 Y (by exact ⟨V,V⟩)
variable{x:RP}
set_option maxHeartbeats 4000000 in
theorem Ug(hv:Xt M v x):BJ prog 234 #[v] [M] (.bool (decide (Gb x))):=by
 have vz:=mL;obtain ⟨vr,vp,vt,rfl,hR,hP,hT⟩:=hv;obtain ⟨p,cap,e9,hl,hg⟩:=id hR;subst e9;refine Se func234 ntmps234 [0] ?_;intro u R;refine A1<|Ze (Bx #[_,_,_,_,_,_,_,_,_])<|AG fun pb=>A5 Y<|A1<|Zh 6 E4 V rfl DA Y<|Zl GP Y ?_;refine Zv (Ac C1 Y)<|A5 Y<|Zq<|A1<|Zh 0 E4 V rfl AE Y<|Zl AH Y ?_;refine Zh 1 E4 V rfl AE Y<|Zl AH Y ?_;refine Xr [_,_] Y call138 Y V (Qn x.tb x.cl) ?_;refine Zv (DD Y)<|Zm Y<|Ao (t:=17) Y V (fun qb=>?_) (fun qb=>?_);·
  refine A7 Y V<|A7 Y V<|A7 Y V<|A7 Y V<|A7 Y V<|Zv (AX Y Y)<|Zm Y<|A7 Y V<|A7 Y V<|A7 Y V<|Zv (AX Y Y)<|Zm Y<|A7 Y V<|A7 Y V<|A7 Y V<|Zv (AX Y Y)<|Zm Y<|A7 Y V<|A7 Y V<|A7 Y V<|Zv (AX Y Y)<|Zm Y<|A7 Y V<|A7 Y V<|A7 Y V<|A7 Y V<|A7 Y V<|Zv (AX Y Y)<|Zm Y<|A7 Y V<|A7 Y V<|A7 Y V<|A7 Y V<|A7 Y V<|A7 Y V<|A7 Y V<|Zv (AX Y Y)<|Z0<|Zn [1,3,54] ?_;refine Zx<|DT Y<|A1<|A5 Y<|AJ<|Zt<|AP V Ks Y (by exact ⟨congrArg Value.bool (Cl (fun B:Gb x=>by have J:=B.tc;have K:=B.lh;have O:=B.ct;have U:=B.fi;have ax:=B.n;omega)).symm,V⟩)
 refine Yf 2 E4 V rfl AE Y<|Yl AH Y ?_;refine Yf 3 E4 V rfl AE Y<|Yl AH Y ?_;refine Yg (Ed Y Y)<|Zv (AL Y Y)<|Zm Y<|Ao (t:=24) Y V (fun qj=>?_) (fun qj=>?_);·
  refine A7 Y V<|A7 Y V<|A7 Y V<|Zv (AX Y Y)<|Zm Y<|A7 Y V<|A7 Y V<|A7 Y V<|Zv (AX Y Y)<|Zm Y<|A7 Y V<|A7 Y V<|A7 Y V<|Zv (AX Y Y)<|Zm Y<|A7 Y V<|A7 Y V<|A7 Y V<|A7 Y V<|A7 Y V<|Zv (AX Y Y)<|Zm Y<|A7 Y V<|A7 Y V<|A7 Y V<|A7 Y V<|A7 Y V<|A7 Y V<|A7 Y V<|Zv (AX Y Y)<|Z0<|Zn [1,3,54] ?_;refine Zx<|DT Y<|A1<|A5 Y<|AJ<|Zt<|AP V Ks Y (by exact ⟨congrArg Value.bool (Cl (fun B:Gb x=>by have J:=B.tc;have K:=B.lh;have O:=B.ct;have U:=B.fi;have ax:=B.n;omega)).symm,V⟩)
 refine Yf 4 E4 V rfl AE Y<|Yl AH Y ?_;refine Yg (EH Y Y)<|Zv (AL Y Y)<|Zm Y<|Ao (t:=29) Y V (fun ql=>?_) (fun ql=>?_);·
  refine A7 Y V<|A7 Y V<|A7 Y V<|Zv (AX Y Y)<|Zm Y<|A7 Y V<|A7 Y V<|A7 Y V<|Zv (AX Y Y)<|Zm Y<|A7 Y V<|A7 Y V<|A7 Y V<|A7 Y V<|A7 Y V<|Zv (AX Y Y)<|Zm Y<|A7 Y V<|A7 Y V<|A7 Y V<|A7 Y V<|A7 Y V<|A7 Y V<|A7 Y V<|Zv (AX Y Y)<|Z0<|Zn [1,3,54] ?_;refine Zx<|DT Y<|A1<|A5 Y<|AJ<|Zt<|AP V Ks Y (by exact ⟨congrArg Value.bool (Cl (fun B:Gb x=>by have J:=B.tc;have K:=B.lh;have O:=B.ct;have U:=B.fi;have ax:=B.n;omega)).symm,V⟩)
 refine Yf 4 E4 V rfl AE Y<|Yl AH Y ?_;refine Yg (Ed Y Y)<|Zv (AL Y Y)<|Zm Y<|Ao (t:=34) Y V (fun qo=>?_) (fun qo=>?_);·
  refine A7 Y V<|A7 Y V<|A7 Y V<|Zv (AX Y Y)<|Zm Y<|A7 Y V<|A7 Y V<|A7 Y V<|A7 Y V<|A7 Y V<|Zv (AX Y Y)<|Zm Y<|A7 Y V<|A7 Y V<|A7 Y V<|A7 Y V<|A7 Y V<|A7 Y V<|A7 Y V<|Zv (AX Y Y)<|Z0<|Zn [1,3,54] ?_;refine Zx<|DT Y<|A1<|A5 Y<|AJ<|Zt<|AP V Ks Y (by exact ⟨congrArg Value.bool (Cl (fun B:Gb x=>by have J:=B.tc;have K:=B.lh;have O:=B.ct;have U:=B.fi;have ax:=B.n;omega)).symm,V⟩)
 refine Yf 5 E4 V rfl AE Y<|Yl AH Y ?_;refine Yg (EH Y Y)<|Zv (AL Y Y)<|Zm Y<|Ao (t:=39) Y V (fun qw=>?_) (fun qw=>?_);·
  refine A7 Y V<|A7 Y V<|A7 Y V<|A7 Y V<|A7 Y V<|Zv (AX Y Y)<|Zm Y<|A7 Y V<|A7 Y V<|A7 Y V<|A7 Y V<|A7 Y V<|A7 Y V<|A7 Y V<|Zv (AX Y Y)<|Z0<|Zn [1,3,54] ?_;refine Zx<|DT Y<|A1<|A5 Y<|AJ<|Zt<|AP V Ks Y (by exact ⟨congrArg Value.bool (Cl (fun B:Gb x=>by have J:=B.tc;have K:=B.lh;have O:=B.ct;have U:=B.fi;have ax:=B.n;omega)).symm,V⟩)
 refine Yf 5 E4 V rfl AE Y<|Yl AH Y ?_;refine Yf 4 E4 V rfl AE Y<|Yl AH Y ?_;refine Yg (Ed Y Y)<|Zv (AL Y Y)<|Zm Y<|Ao (t:=46) Y V (fun qx=>?_) (fun qx=>?_);·
  refine A7 Y V<|A7 Y V<|A7 Y V<|A7 Y V<|A7 Y V<|A7 Y V<|A7 Y V<|Zv (AX Y Y)<|Z0<|Zn [1,3,54] ?_;refine Zx<|DT Y<|A1<|A5 Y<|AJ<|Zt<|AP V Ks Y (by exact ⟨congrArg Value.bool (Cl (fun B:Gb x=>by have J:=B.tc;have K:=B.lh;have O:=B.ct;have U:=B.fi;have ax:=B.n;omega)).symm,V⟩)
 refine Zf Y Y<|Yf 4 E4 V rfl AE Y<|Yl AH Y ?_;refine Yf 5 E4 V rfl AE Y<|Yl AH Y ?_
 (refine GU Y (FP Y Y (IntWalk.i64_in _ ?_)) rfl rfl ?_;(focus (first|omega|(simp;omega))))
 refine Yg (Ed Y Y)<|Zv (AL Y Y)<|Z0<|Zn [1,3,54] ?_;refine Zx<|Aw Y (fun qz=>?_) (fun qz=>?_);·
  refine A1<|A5 Y<|AJ<|Zt<|AP V Ks Y (by exact ⟨congrArg Value.bool (Cl (fun B:Gb x=>by have J:=B.tc;have K:=B.lh;have O:=B.ct;have U:=B.fi;have ax:=B.n;omega)).symm,V⟩)
 refine AC<|Zx<|Zq<|A1<|Zm Y<|Zv (Ci (n:=0) Y Y)<|A6<|Aw Y (fun hz=>?_) (fun hz=>?_);·
  refine A1<|Zh 4 E4 V rfl AE Y<|Zl AH Y ?_;refine Zv (CP Y Y)<|A5 Y<|AJ<|Zt<|AP V Ks Y (by exact ⟨U4 ⟨fun B=>⟨by omega,by omega,by omega,by omega,by omega,fun _=>B,fun j r W=>by have:=(C4.1 W).1;omega,fun r W=>by have:=(C4.1 W).1;omega,fun r W=>by have:=(C4.1 W).1;omega⟩,fun B=>B.none hz⟩,V⟩)
 refine AC<|Zx<|A1<|Zv (Bg (vs:=[]) (us:=[_]) Y Y)<|A5 Y<|Zq<|A1<|Zh 6 E4 V rfl DA Y<|Zl GP Y ?_;refine Zv (Ac C1 Y)<|Zm Y<|A6<|AQ<|Zb [64,1,3,4,62,63] ?_;refine BI (e0:=[(64,_)]) (fun m e H=>∃(i:Nat),m=x.rows.length -i/\(i<=x.rows.length/\∀(j:Nat) (r:AR),j<i->x.rows[j]?=some r->Xq x j r/\(0<j->∀q,x.rows[j -1]?=some q->UL x q r))/\e=[(64,I4 (i:Int))]/\H=[]) (by exact ⟨0,V,⟨C7 _,by intro j r W;omega⟩,V,V⟩) Wp ?_;rintro _ _ _ ⟨i,rfl,⟨hi,af⟩,rfl,rfl⟩;refine A1<|Zv (Ay Y Y)<|A6<|Zq<|Aw Y (fun pz=>?_) (fun pz=>?_);·
  obtain ⟨r,hr⟩:∃r,x.rows[i]?=some r:=⟨_,BT pz⟩;obtain ⟨g,off,cur,T,zz,rfl,sO,vo,pg⟩:=hg i r hr;refine AC<|Zx<|Zq<|AQ<|A1<|Zm Y<|BU (Ae C1 B3 Y Y A0)<|CS (cs:=[(g,.cells cur T zz)]) (by simp [sO]) (AB (cs:=r.A71) D0 B3 Y A0 pg) V rfl ?_;refine Ze (Al F0 #[_,_,_,_,_])<|AG fun rb=>Za Y<|Xe (Xw B3 r.A71) ?_;refine A6<|A1<|Zm Y<|Zm Y<|Xr [_] Y call270 Y V (Ha x vp vt hR A0 pb i r hr) ?_;refine A5 Y<|Zb [1,3,4,5,6,7,62,63,64] ?_;refine CW (e0:=[]) (H0:=[]) (fun e H=>∃(u9:Unit),(Xq x i r)/\e=[]/\H=[]) Wp ?hx_10 ?hy_10
  case hx_10=>
   refine A1<|Zo Wh (AB (cs:=#[_,_,_,_,_]) D0 B3 Y B5 B0) ?_;refine Xr [_] Y call195 Y V (Rz r) ?_;refine Zv (DD Y)<|Zm Y<|Ao (t:=75) Y V (fun sj=>?_) (fun sj=>?_);·
    refine A7 Y V<|A7 Y V<|A7 Y V<|A7 Y V<|A7 Y V<|Zv (AX Y Y)<|Zm Y<|A7 Y V<|A7 Y V<|A7 Y V<|A7 Y V<|A7 Y V<|A7 Y V<|A7 Y V<|A7 Y V<|Zv (AX Y Y)<|Zm Y<|A7 Y V<|A7 Y V<|A7 Y V<|A7 Y V<|A7 Y V<|A7 Y V<|A7 Y V<|A7 Y V<|A7 Y V<|A7 Y V<|Zv (AX Y Y)<|Z0<|Zn [1,3,4,5,6,7,62,63,64,103] ?_;refine Zx<|DT Y<|A1<|A5 Y<|AJ<|Zt<|Ab<|Zt<|Zt<|Ab<|Zt<|AP rfl Ks Y (by exact ⟨congrArg Value.bool (Cl (fun B:Gb x=>by obtain ⟨⟨J,K,O,U⟩,_⟩:=B.all i r hr;contradiction)).symm,rfl⟩)
   refine Yf 0 G1 V rfl AE Y<|Yl AH Y ?_;refine Yf 0 E4 V rfl AE Y<|Yl AH Y ?_;refine Yg (Im Y Y)<|Zv (AL Y Y)<|Zm Y<|Ao (t:=82) Y V (fun sw=>?_) (fun sw=>?_);·
    refine A7 Y V<|A7 Y V<|A7 Y V<|A7 Y V<|A7 Y V<|A7 Y V<|A7 Y V<|A7 Y V<|Zv (AX Y Y)<|Zm Y<|A7 Y V<|A7 Y V<|A7 Y V<|A7 Y V<|A7 Y V<|A7 Y V<|A7 Y V<|A7 Y V<|A7 Y V<|A7 Y V<|Zv (AX Y Y)<|Z0<|Zn [1,3,4,5,6,7,62,63,64,103] ?_;refine Zx<|DT Y<|A1<|A5 Y<|AJ<|Zt<|Ab<|Zt<|Zt<|Ab<|Zt<|AP rfl Ks Y (by exact ⟨congrArg Value.bool (Cl (fun B:Gb x=>by obtain ⟨⟨J,K,O,U⟩,_⟩:=B.all i r hr;omega)).symm,rfl⟩)
   refine Zf Y Y<|Yf 2 E4 V rfl AE Y<|Yl AH Y ?_;refine Yg (EH Y Y)<|Zf Y Y ?_;refine Ao (t:=87) Y V (fun l8=>?_) (fun l8=>?_);·
    refine Zf Y Y<|Yg (DR (n:=0) Y Y)<|Yg (AX Y Y)<|Zv (AL Y Y)<|Zm Y<|Ao (t:=92) Y V (fun l9=>?_) (fun l9=>?_);·
     refine A7 Y V<|A7 Y V<|A7 Y V<|A7 Y V<|A7 Y V<|A7 Y V<|A7 Y V<|A7 Y V<|A7 Y V<|A7 Y V<|Zv (AX Y Y)<|Z0<|Zn [1,3,4,5,6,7,62,63,64,103] ?_;refine Zx<|DT Y<|A1<|A5 Y<|AJ<|Zt<|Ab<|Zt<|Zt<|Ab<|Zt<|AP rfl Ks Y (by exact ⟨congrArg Value.bool (Cl (fun B:Gb x=>by obtain ⟨⟨J,K,O,U⟩,_⟩:=B.all i r hr;omega)).symm,rfl⟩)
    refine Zf Y Y<|Yf 3 E4 V rfl AE Y<|Yl AH Y ?_;refine Yg (Ed Y Y)<|Zf Y Y ?_;refine Ao (t:=97) Y V (fun o8=>?_) (fun o8=>?_);·
     refine Zf Y Y<|Zf Y Y ?_
     (refine GU Y (CO (n:=1) Y Y ?_ ?_) rfl rfl ?_;(focus (first|omega|(simp;omega)));(focus (first|omega|(simp;omega))))
     refine Yg (Ay Y Y)<|Yg (AX Y Y)<|Zv (AL Y Y)<|Z0<|Zn [1,3,4,5,6,7,62,63,64,103] ?_;refine Zx<|Aw Y (fun o9=>?_) (fun o9=>?_);·
      refine A1<|A5 Y<|AJ<|Zt<|Ab<|Zt<|Zt<|Ab<|Zt<|AP rfl Ks Y (by exact ⟨congrArg Value.bool (Cl (fun B:Gb x=>by obtain ⟨⟨J,K,O,U⟩,_⟩:=B.all i r hr;omega)).symm,rfl⟩)
     refine AC<|Zn [1,3,4,5,6,7,62,63,64] ?_;refine Av (e':=[]) (by exact ⟨(),⟨by exact I0.1 eh,by omega,fun h=>by omega,fun h=>by omega⟩,V,V⟩)
    refine A7 Y V<|A7 Y V<|A7 Y V<|A7 Y V<|Yg (AL Y Y)<|Zv (AL Y Y)<|Z0<|Zn [1,3,4,5,6,7,62,63,64,103] ?_;refine Zx<|D9 Y<|AC<|Zn [1,3,4,5,6,7,62,63,64] ?_;refine Av (e':=[]) (by exact ⟨(),⟨by exact I0.1 eh,by omega,fun h=>by omega,fun h=>by omega⟩,V,V⟩)
   refine A7 Y V<|A7 Y V<|Yg (AL Y Y)<|Zv (AL Y Y)<|Zm Y<|Zf Y Y<|Yf 3 E4 V rfl AE Y<|Yl AH Y ?_;refine Yg (Ed Y Y)<|Zf Y Y ?_;refine Ao (t:=97) Y V (fun p8=>?_) (fun p8=>?_);·
    refine Zf Y Y<|Zf Y Y ?_
    (refine GU Y (CO (n:=1) Y Y ?_ ?_) rfl rfl ?_;(focus (first|omega|(simp;omega)));(focus (first|omega|(simp;omega))))
    refine Yg (Ay Y Y)<|Yg (AX Y Y)<|Zv (AL Y Y)<|Z0<|Zn [1,3,4,5,6,7,62,63,64,103] ?_;refine Zx<|Aw Y (fun p9=>?_) (fun p9=>?_);·
     refine A1<|A5 Y<|AJ<|Zt<|Ab<|Zt<|Zt<|Ab<|Zt<|AP rfl Ks Y (by exact ⟨congrArg Value.bool (Cl (fun B:Gb x=>by obtain ⟨⟨J,K,O,U⟩,_⟩:=B.all i r hr;omega)).symm,rfl⟩)
    refine AC<|Zn [1,3,4,5,6,7,62,63,64] ?_;refine Av (e':=[]) (by exact ⟨(),⟨by exact I0.1 eh,by omega,fun h=>by omega,fun h=>by omega⟩,V,V⟩)
   refine A7 Y V<|A7 Y V<|A7 Y V<|A7 Y V<|Yg (AL Y Y)<|Zv (AL Y Y)<|Z0<|Zn [1,3,4,5,6,7,62,63,64,103] ?_;refine Zx<|D9 Y<|AC<|Zn [1,3,4,5,6,7,62,63,64] ?_;refine Av (e':=[]) (by exact ⟨(),⟨by exact I0.1 eh,by omega,fun h=>by omega,fun h=>by omega⟩,V,V⟩)
  rintro _ _ ⟨u9,dn,rfl,rfl⟩;refine Zq<|BA (n:=30) (0::1::3::7::7::7::39::119::255::511::1023::1023::1023::5119::15359::32767::65535::131071::262143::131071::655359::131071::2228223::7995391::16383999::33161215::67108863::134217727::268435455::536870911::[]) 16512 AF AF V<|A3 0 V (AO Y)<|A3 1 V (DR (n:=0) Y Y)<|A3 2 V (AO Y)<|DF (t:=106) Y (fun ek=>?_) (fun ek=>?_);·
   rw [DG ek];obtain ⟨q,hq⟩:∃q,x.rows[i -1]?=some q:=⟨_,BT A0⟩;obtain ⟨g2,vw,gq,T2,ve,gy,qa,j5,ic⟩:=hg (i -1) q hq;injection gy with gy
   injection gy with e291 e292
   subst e291 e292;have sM:gq[off+(i -1)*5+1]?=some (I4 q.k):=by rw [PI ic j5 1 A0];rfl
   refine An 3 V (AO Y)<|An 4 V (AO Y)<|An 5 V (AO Y) ?_
   (refine An 6 rfl (CO (n:=1) Y Y ?_ ?_) ?_;(focus (first|omega|(simp;omega)));(focus (first|omega|(simp;omega))))
   refine Yw 7 255 V (Zu [_] Y call270 Y V (Ha x vp vt hR A0 pb (i -1) q hq))<|Cp<|An 8 V (EH Y Y)<|An 9 V (AO Y)<|DF (t:=113) Y (fun l5=>?_) (fun l5=>?_);·
    rw [DG l5];refine AN 10 V<|AN 11 V<|AN 12 V<|AN 13 V<|AN 14 V<|AN 15 V<|AN 16 V<|AN 17 V<|AN 18 V<|AN 19 V<|AN 20 V<|AN 21 V<|AN 22 V<|AN 23 V<|AN 24 V<|AN 25 V<|AN 26 V<|AN 27 V<|An 28 V (AX Y Y)<|A3 29 V (AX Y Y)<|Ag<|Zn [1,3,4,62,63,64,133] ?_;refine Zx<|DT Y<|A1<|A5 Y<|AJ<|Ab<|Zt<|Zt<|Ab<|Zt<|AP V Ks Y (by exact ⟨congrArg Value.bool (Cl (fun B:Gb x=>by have ha:=(B.all i r hr).2 ek q hq;unfold UL at ha;omega)).symm,V⟩)
   rw [Cl l5];refine An 10 V (AO Y)<|An 11 V (AO Y)<|An 12 V (AO Y) ?_
   (refine An 13 rfl (CO (n:=1) Y Y ?_ ?_) ?_;(focus (first|omega|(simp;omega)));(focus (first|omega|(simp;omega))))
   refine Yw 14 32767 V (Zu [_] Y call270 Y V (Ha x vp vt hR A0 pb (i -1) q hq))<|Cp<|An 15 V (CP Y Y)<|An 16 V (AO Y)<|DF (t:=120) Y (fun kv=>?_) (fun kv=>?_);·
    rw [DG kv];refine An 17 V (AA (off:=1) G1 V rfl AE Y)<|DO 18 V Wh (BF AH Y B0) ?_;refine An 19 V (AA (off:=6) E4 V rfl DA Y)<|DO 20 V Wh (BF GP Y B0) ?_;refine An 21 V (AO Y) ?_
    (refine An 22 rfl (CO (n:=1) Y Y ?_ ?_) ?_;(focus (first|omega|(simp;omega)));(focus (first|omega|(simp;omega))))
    refine An 23 V (Ae C1 B3 Y Y A0)<|An 24 V (Ap (off:=1) G1 V rfl AE Y)<|Iz (b:=g) (x:= .cells gq T2 ve) (D':=67108863) 25 Y V rfl V (by simp [qa]) (BF AH Y sM) ?_;refine An 26 V (NJ Y Y)<|An 27 V (AX Y Y)<|An 28 V (AL Y Y)<|A3 29 V (AX Y Y)<|Ag<|Zn [1,3,4,62,63,64,133] ?_;refine Zx<|Aw Y (fun sJ=>?_) (fun sJ=>?_);·
     refine A1<|A5 Y<|AJ<|Ab<|Zt<|Zt<|Ab<|Zt<|AP V Ks Y (by exact ⟨congrArg Value.bool (Cl (fun B:Gb x=>by have ha:=(B.all i r hr).2 ek q hq;unfold UL at ha;omega)).symm,V⟩)
    refine AC<|A8<|Zx<|Zg<|Ya (n:=1) Y Y<|Zm Y<|Z0<|Zn [64,1,3,4,62,63] ?_;refine Aa (e':=[(64,_)]) (by
     exact ⟨i+1,V,⟨by omega,fun j r9 W G=>by
      rcases FF j i with B|B
      · exact af j r9 B G
      · obtain rfl:j=i:=A0
        rw [hr]at G;injection G with G;subst G
        refine ⟨dn,fun pq q9 X=>?_⟩
        (rw [hq]at X;injection X with X;subst X;unfold UL;omega)⟩,rfl,rfl⟩)
   rw [Cl kv];refine AN 17 V<|AN 18 V<|AN 19 V<|AN 20 V<|AN 21 V<|AN 22 V<|AN 23 V<|AN 24 V<|AN 25 V<|AN 26 V<|An 27 V (AL Y Y)<|An 28 V (AL Y Y)<|A3 29 V (AX Y Y)<|Ag<|Zn [1,3,4,62,63,64,133] ?_;refine Zx<|D9 Y<|AC<|A8<|Zx<|Zg<|Ya (n:=1) Y Y<|Zm Y<|Z0<|Zn [64,1,3,4,62,63] ?_;refine Aa (e':=[(64,_)]) (by
    exact ⟨i+1,V,⟨by omega,fun j r9 W G=>by
     rcases FF j i with B|B
     · exact af j r9 B G
     · obtain rfl:j=i:=A0
       rw [hr]at G;injection G with G;subst G
       refine ⟨dn,fun pq q9 X=>?_⟩
       (rw [hq]at X;injection X with X;subst X;unfold UL;omega)⟩,rfl,rfl⟩)
  rw [Cl ek];refine AN 3 V<|AN 4 V<|AN 5 V<|AN 6 V<|AN 7 V<|AN 8 V<|AN 9 V<|AN 10 V<|AN 11 V<|AN 12 V<|AN 13 V<|AN 14 V<|AN 15 V<|AN 16 V<|AN 17 V<|AN 18 V<|AN 19 V<|AN 20 V<|AN 21 V<|AN 22 V<|AN 23 V<|AN 24 V<|AN 25 V<|AN 26 V<|AN 27 V<|AN 28 V<|A3 29 V (AL Y Y)<|Ag<|Zn [1,3,4,62,63,64,133] ?_;refine Zx<|D9 Y<|AC<|A8<|Zx<|Zg<|Ya (n:=1) Y Y<|Zm Y<|Z0<|Zn [64,1,3,4,62,63] ?_;refine Aa (e':=[(64,_)]) (by
   exact ⟨i+1,V,⟨by omega,fun j r9 W G=>by
    rcases FF j i with B|B
    · exact af j r9 B G
    · obtain rfl:j=i:=A0
      rw [hr]at G;injection G with G;subst G
      refine ⟨dn,fun pq q9 X=>?_⟩
      (exfalso;omega)⟩,rfl,rfl⟩)
 obtain ⟨r0,j3⟩:∃r,x.rows[0]?=some r:=⟨_,BT A0⟩;obtain ⟨rl,gm⟩:∃r,x.rows[x.rows.length -1]?=some r:=⟨_,BT A0⟩;have I:Gb x↔(x.fi=0\/Bl r0 x.cl<x.lo)/\(x.fi+(x.rows.length:Int)=x.ct\/x.hi<Bl rl x.cl):=⟨fun h=>⟨h.first r0 j3,h.last rl gm⟩,fun h=>⟨by omega,by omega,by omega,by omega,by omega,fun h0=>absurd h0 hz,fun j r W=>af j r (by have:=(C4.1 W).1;omega) W,fun r W=>by rw [j3]at W;injection W with W;rw [<-W];exact h.1,fun r W=>by rw [gm]at W;injection W with W;rw [<-W];exact h.2⟩⟩
 refine BD<|Zt<|Zt<|AV<|Zx<|Zq<|BA (n:=29) (0::1::3::7::15::31::15::79::255::511::1023::2047::4095::2047::16383::2047::34815::131071::262143::524287::524287::1572863::4194303::524287::8912895::33554431::67108863::134217727::268435455::[]) 4194336 AF AF V<|A3 0 V (AA (off:=5) E4 V rfl AE Y)<|BE 1 V AH Y ?_;refine A3 2 V (CP Y Y)<|A3 3 V (AO Y)<|DF (t:=138) Y (fun bn=>?_) (fun bn=>?_);·
  rw [DG bn];refine AN 4 V<|AN 5 V<|AN 6 V<|AN 7 V<|AN 8 V<|A3 9 V (AX Y Y)<|A3 10 V (AO Y)<|An 11 V (AA (off:=5) E4 V rfl AE Y)<|DO 12 V Wh (BF AH Y B0) ?_;refine An 13 V (AO Y) ?_
  (refine An 14 rfl (Gm Y Y (IntWalk.i64_in _ ?_)) ?_;(focus (first|omega|(simp;omega))))
  refine An 15 V (AA (off:=4) E4 V rfl AE Y)<|DO 16 V Wh (BF AH Y B0) ?_;refine An 17 V (CP Y Y)<|An 18 V (AO Y)<|DF (t:=153) Y (fun cu=>?_) (fun cu=>?_);·
   rw [DG cu];refine AN 19 V<|AN 20 V<|AN 21 V<|AN 22 V<|AN 23 V<|AN 24 V<|AN 25 V<|An 26 V (AX Y Y)<|A3 27 V (AX Y Y)<|A3 28 V (Aq Y)<|Ag<|Zn [2] ?_;refine Zx<|AJ<|AP V Ks Y (by exact ⟨by exact congrArg Value.bool (DG (I.2 ⟨by omega,by omega⟩)).symm,V⟩)
  rw [Cl cu];refine An 19 V (AO Y)<|An 20 V (AO Y) ?_
  (refine An 21 rfl (CO (n:=1) Y Y ?_ ?_) ?_;(focus (first|omega|(simp;omega)));(focus (first|omega|(simp;omega))))
  refine An 23 V (AA (off:=3) E4 V rfl AE Y)<|DO 24 V Wh (BF AH Y B0) ?_;refine Yz 22 4194303 33554431 [24,16,12,1] [true,false,false,false] [(24,(_,_))] V Y V rfl V rfl (Zu [_] Y call270 Y V (Ha x vp vt hR A0 pb (x.rows.length -1) rl gm))<|Cp<|BW<|An 25 V (Ed Y Y)<|An 26 V (AL Y Y)<|A3 27 V (AX Y Y)<|A3 28 V (Aq Y)<|Ag<|Zn [2] ?_;refine Zx<|AJ<|AP V Ks Y (by exact ⟨by exact U4 ⟨fun B=>I.2 ⟨by omega,by omega⟩,fun B=>by have:=I.1 B;omega⟩,V⟩)
 rw [Cl bn];refine An 4 V (AO Y)<|An 6 V (AA (off:=2) E4 V rfl AE Y)<|DO 7 V Wh (BF AH Y B0) ?_;refine Yz 5 31 255 [7,1] [true,false] [(7,(_,_))] V Y V rfl V rfl (Zu [_] Y call270 Y V (Ha x vp vt hR A0 pb 0 r0 j3))<|Cp<|BW<|An 8 V (EH Y Y)<|A3 9 V (AL Y Y)<|A3 10 V (AO Y)<|DF (t:=145) Y (fun cO=>?_) (fun cO=>?_);·
  rw [DG cO];refine An 11 V (AA (off:=5) E4 V rfl AE Y)<|DO 12 V Wh (BF AH Y B0) ?_;refine An 13 V (AO Y) ?_
  (refine An 14 rfl (Gm Y Y (IntWalk.i64_in _ ?_)) ?_;(focus (first|omega|(simp;omega))))
  refine An 15 V (AA (off:=4) E4 V rfl AE Y)<|DO 16 V Wh (BF AH Y B0) ?_;refine An 17 V (CP Y Y)<|An 18 V (AO Y)<|DF (t:=153) Y (fun d9=>?_) (fun d9=>?_);·
   rw [DG d9];refine AN 19 V<|AN 20 V<|AN 21 V<|AN 22 V<|AN 23 V<|AN 24 V<|AN 25 V<|An 26 V (AX Y Y)<|A3 27 V (AX Y Y)<|A3 28 V (Aq Y)<|Ag<|Zn [2] ?_;refine Zx<|AJ<|AP V Ks Y (by exact ⟨by exact congrArg Value.bool (DG (I.2 ⟨by omega,by omega⟩)).symm,V⟩)
  rw [Cl d9];refine An 19 V (AO Y)<|An 20 V (AO Y) ?_
  (refine An 21 rfl (CO (n:=1) Y Y ?_ ?_) ?_;(focus (first|omega|(simp;omega)));(focus (first|omega|(simp;omega))))
  refine An 23 V (AA (off:=3) E4 V rfl AE Y)<|DO 24 V Wh (BF AH Y B0) ?_;refine Yz 22 4194303 33554431 [24,16,12,7] [true,false,false,false] [(24,(_,_))] V Y V rfl V rfl (Zu [_] Y call270 Y V (Ha x vp vt hR A0 pb (x.rows.length -1) rl gm))<|Cp<|BW<|An 25 V (Ed Y Y)<|An 26 V (AL Y Y)<|A3 27 V (AX Y Y)<|A3 28 V (Aq Y)<|Ag<|Zn [2] ?_;refine Zx<|AJ<|AP V Ks Y (by exact ⟨by exact U4 ⟨fun B=>I.2 ⟨by omega,by omega⟩,fun B=>by have:=I.1 B;omega⟩,V⟩)
 rw [Cl cO];refine AN 11 V<|AN 12 V<|AN 13 V<|AN 14 V<|AN 15 V<|AN 16 V<|AN 17 V<|AN 18 V<|AN 19 V<|AN 20 V<|AN 21 V<|AN 22 V<|AN 23 V<|AN 24 V<|AN 25 V<|AN 26 V<|A3 27 V (AL Y Y)<|A3 28 V (Aq Y)<|Ag<|Zn [2] ?_;refine Zx<|AJ<|AP V Ks Y (by exact ⟨by exact congrArg Value.bool (Cl (fun B=>by have:=I.1 B;omega)).symm,V⟩)
def inB(x:RP)(r:AR):Bool:=decide (x.lo<=Bl r x.cl/\Bl r x.cl<=x.hi)
noncomputable def ER(x:RP):List AR:=if Gb x then x.rows.filter (inB x)else []
theorem dN(h:Gb x):ER x=x.rows.filter (inB x):=Ax h
theorem rK(h:¬Gb x):ER x=[]:=As h
variable{i:Nat}
theorem uj{r:AR}(g:x.rows[i]?=some r)(h:inB x r=true):(x.rows.take (i+1)).filter (inB x)=(x.rows.take i).filter (inB x)++[r]:=by rw [Bn g,Hj];simp [h]
theorem XU{r:AR}(g:x.rows[i]?=some r)(h:inB x r=false):(x.rows.take (i+1)).filter (inB x)=(x.rows.take i).filter (inB x):=by rw [Bn g,Hj];simp [h]
set_option maxHeartbeats 4000000 in
theorem kY(hv:Xt M v x):BR prog 186 #[v] [M] (fun r H'=>∃vr sr,r= .tuple #[vr,.bool (decide (Gb x))]/\Bd 5 80 vr (ER x).length (Af (ER x)) sr/\H'=[sr,M]):=by
 have gy:=mL;obtain ⟨vr,vp,vt,rfl,hR,hP,hT⟩:=id hv;obtain ⟨p,cap,e9,hl,hg⟩:=id hR;subst e9;refine Se func186 ntmps186 [0] ?_;intro u R;refine A1<|Ze (Bx #[_,_,_,_,_,_,_,_,_])<|AG fun pb=>Za Y<|A5 Y<|Zq<|A1<|Zo Wh (AB (cs:=#[_,_,_,_,_,_,_,_,_]) isAgg171 Mu Y B5 B0)<|Xr [_] Y call234 Y V (Ug hv)<|Zv (DD Y)<|A6<|Aw Y (fun B=>?_) (fun B=>?_);·
  refine Bc<|A1<|Za Y<|A5 Y<|AJ<|Zt<|DJ rfl results186 Y Y (by exact ⟨.slice none 0 0,[],by rw [Cl B],by rw [rK B];exact Bj 5 _,rfl⟩)
 have B:=I0.1 B;have d9:=B.tc
 have dn:=B.ct;have ek:=B.n
 have gm:=B.fi;refine AC<|Zx<|A1<|A5 Y<|Zq<|A1<|Zh 6 E4 V rfl DA Y<|Zl GP Y<|Zv (Ac C1 Y)<|Zm Y<|A6<|AQ<|Bc<|Zb [4,14,1,12,13] ?_;refine BI (e0:=[(4,_),(14,_)]) (fun m e H=>∃(i:Nat) (vo:A4) (O:List A9),m=x.rows.length -i/\(i<=x.rows.length/\Bd 5 80 vo ((x.rows.take i).filter (inB x)).length (Af ((x.rows.take i).filter (inB x))) O)/\e=[(4,vo),(14,I4 (i:Int))]/\H=[O]) (by exact ⟨0,.slice none 0 0,[],rfl,⟨C7 _,by rw [IF];exact Bj 5 _⟩,rfl,rfl⟩) Wp ?_;rintro _ _ _ ⟨i,vo,O,rfl,⟨hi,I⟩,rfl,rfl⟩;obtain ⟨qo,co,rfl⟩:=I.form;have gq:((x.rows.take i).filter (inB x)).length<=i:=Q1 (Of _ _) (List.length_take_le _ _)
 refine A1<|Zv (Ay Y Y)<|A6<|Zq<|Aw Y (fun W=>?_) (fun W=>?_);·
  obtain ⟨r,K⟩:∃r,x.rows[i]?=some r:=⟨_,BT W⟩;obtain ⟨g,off,cur,T,zz,rfl,ax,bn,U⟩:=hg i r K;refine AC<|Zx<|Zq<|AQ<|A1<|BU (Ae C1 B3 Y Y A0)<|CS (cs:=[(g,.cells cur T zz)]) (by simp [ax]) (AB (cs:=r.A71) D0 B3 Y A0 U) V rfl<|Ze (Al F0 #[_,_,_,_,_])<|AG fun rb=>Xe (Xw B3 r.A71)<|A6<|A1<|Zo Wh (AB (cs:=#[_,_,_,_,_]) D0 B3 Y B5 B0)<|Zh 1 E4 V rfl AE Y<|Zl AH Y<|Xr [_,_] Y SO Y V (G8 r x.cl A0)<|A5 Y<|A1<|Zm Y<|Zh 2 E4 V rfl AE Y<|Zl AH Y<|Zv (Gj Y Y)<|Zm Y<|Ao (t:=26) Y V (fun X=>?_) (fun X=>?_);·
   refine Zf Y Y<|Yf 3 E4 V rfl AE Y<|Yl AH Y<|Yg (NJ Y Y)<|Zv (AX Y Y)<|Z0<|Zn [1,4,6,12,13,14,31] ?_;refine Zx<|Aw Y (fun af=>?_) (fun af=>?_);·
    have G:inB x r=true:=DG A0;refine Zg<|Zm Y<|Zo Wh (AB (cs:=#[_,_,_,_,_]) D0 B3 Y B5 B0)<|Ze (Ai (vs:=[_]) (cs:=[_,_,_,_,_]) C1 B3 F0 Y V rfl V rfl V)<|AG fun gb=>Ze (BV (by_:=40) (sz:=5) C1 (V:Tryz.prog.info? 80=some Tryz.t80) V rfl V rfl Y (I) Y (Dl 5 gb 1 1 80 (0,0) [I4 r.t,I4 r.k,I4 r.v.a,I4 r.v.b,I4 r.v.c] V) Wo Wo Ft A0 A0) ?_;rintro _ _ ⟨ic,J,rfl⟩;obtain ⟨cO,cu,rfl⟩:=J.form;refine AW Y<|A8<|Zx<|Zg<|Ya (n:=1) Y Y<|Zm Y<|Z0<|Zn [4,14,1,12,13] ?_;refine Aa (e':=[(4,_),(14,_)]) (by exact ⟨i+1,_,_,rfl,⟨by omega,BZ J (by rw [uj K G,Bm];rfl) (by rw [uj K G,Bo];rfl)⟩,rfl,rfl⟩)
   have G:inB x r=false:=Cl A0;refine AC<|A8<|Zx<|Zg<|Ya (n:=1) Y Y<|Zm Y<|Z0<|Zn [4,14,1,12,13] ?_;refine Aa (e':=[(4,_),(14,_)]) (by exact ⟨i+1,_,O,rfl,⟨by omega,BZ I (by rw [XU K G]) (by rw [XU K G])⟩,rfl,rfl⟩)
  have G:inB x r=false:=Cl A0;refine A7 Y V<|A7 Y V<|A7 Y V<|A7 Y V<|Zv (AL Y Y)<|Z0<|Zn [1,4,6,12,13,14,31] ?_;refine Zx<|D9 Y<|AC<|A8<|Zx<|Zg<|Ya (n:=1) Y Y<|Zm Y<|Z0<|Zn [4,14,1,12,13] ?_;refine Aa (e':=[(4,_),(14,_)]) (by exact ⟨i+1,_,O,rfl,⟨by omega,BZ I (by rw [XU K G]) (by rw [XU K G])⟩,rfl,rfl⟩)
 have ei:i=x.rows.length:=by omega
 subst ei;rw [G3]at I⊢;refine BD<|Zt<|Zt<|AV<|Zx<|A1<|Zm Y<|Za Y<|A5 Y<|AJ<|DJ rfl results186 Y Y (by exact ⟨.slice qo _ co,O,by rw [DG B],by rw [dN B];exact I,rfl⟩)
structure q4(root:Bs)(x:RP):Prop where
 comp:Gb x
 n16:x.roots.length=16
 np:x.paths.length=x.rows.length
 root:Dm x.roots=root
 sum:∃d:Bs,d.length=32/\x.roots[4*x.tb.toNat+x.cl.toNat]?=some (U3 x.ct++d)/\(x.ct=0->d=Dm [])/\
  (x.ct≠0->∀(k:Nat) (r:AR) (pf:List Bs),x.rows[k]?=some r->x.paths[k]?=some pf->wa d x.ct.toNat (x.fi.toNat+k) (QK r) pf=true)
noncomputable instance(root:Bs)(x:RP):Decidable (q4 root x):=Classical.propDecidable _
theorem Tu{m:AR->Bool}:∀{l:List AR} {i:Nat} {x:AR},i<Cg m l->l[i]?=some x->m x=false
 |[],i,x,_,hx=>by simp at hx
 |z::l,i,x,hi,hx=>by
  unfold Cg at hi;rw [PA]at hi;by_cases hz:m z=true;· rw [As (by simp [hz])]at hi;simp at hi
  · have g:m z=false:=by simpa using hz
    rw [Ax (by simp [g])]at hi;rcases i with _|i
    · simp at hx;rw [<-hx];exact g
    · simp only [ar]at hx
      exact Tu (l:=l) (by unfold Cg;simp at hi;omega) hx
theorem QI{g:AR->Bool}:∀{l:List AR} {x:AR},l[Cg g l]?=some x->g x=true
 |[],x,hx=>by simp at hx
 |z::l,x,hx=>by
  unfold Cg at hx;rw [PA]at hx;by_cases hz:g z=true;· rw [As (by simp [hz])]at hx;simp at hx;rw [<-hx];exact hz
  · have m:g z=false:=by simpa using hz
    rw [Ax (by simp [m])]at hx;simp only [E3,ar]at hx;exact QI (l:=l) hx
def ltV(c:Nat)(a b:AR):Prop:=Dh a c<Dh b c\/Dh a c=Dh b c/\a.k<b.k
variable{rs:List AR}
theorem TE(g:BP rs)(t:Int)(c:Nat):(BO rs t c).Pairwise (ltV c):=by
 have m:=Es g t c (-1000000000) 1000000000;have h2:(rs.filter (inR t c (-1000000000) 1000000000)).Pairwise (fun a b=>a.k≠b.k):=(QB g fun r h=>jX h).imp (fun h=>by omega)
 have B:(Dr rs t c (-1000000000) 1000000000).Pairwise (fun a b=>a.k≠b.k):=((ES rs t c (-1000000000) 1000000000).pairwise_iff (fun h=>h.symm)).2 h2;exact (m.and B).imp (fun{a b} h=>by unfold ltV;obtain ⟨G,I⟩:=h;unfold leV at G;omega)
variable{j:Nat}
theorem zO{l:List AR}{R:AR->AR->Prop}(h:l.Pairwise R){a b:AR}(g:i<j)(m:l[i]?=some a)(B:l[j]?=some b):R a b:=by
 obtain ⟨hi,rfl⟩:=C4.1 m;obtain ⟨G,rfl⟩:=C4.1 B;exact en.1 h i j hi G g
variable{t:Int}{c:Nat}
theorem Z7(G:BP rs){a b:AR}(m:i<=j)(B:(BO rs t c)[i]?=some a)(g:(BO rs t c)[j]?=some b):Dh a c<=Dh b c:=by
 rcases Nat.eq_or_lt_of_le m with rfl|h
 · rw [B]at g;injection g with g;rw [g];exact V2 _
 · have:=zO (TE G t c) h B g
   unfold ltV at this;omega
theorem jR(G:BP rs)(t c:Nat)(lo:Int){r:AR}(g:(BO rs (t:Int) c)[i]?=some r):(Cg (geV c lo) (BO rs (t:Int) c)<=i->lo<=Dh r c)/\(i<Cg (geV c lo) (BO rs (t:Int) c)->Dh r c<lo):=by
 constructor
 · intro h
   have B:=(C4.1 g).1;have m:(BO rs (t:Int) c)[Cg (geV c lo) (BO rs (t:Int) c)]?=some _:=BT A0
   have I:=HO (QI m);have h2:=Z7 G h m g
   omega
 · intro h
   have:=ab (Tu h g);omega
theorem jZ(G:BP rs)(t c:Nat)(hi:Int){r:AR}(g:(BO rs (t:Int) c)[i]?=some r):(Cg (gtV c hi) (BO rs (t:Int) c)<=i->hi<Dh r c)/\(i<Cg (gtV c hi) (BO rs (t:Int) c)->Dh r c<=hi):=by
 constructor
 · intro h
   have B:=(C4.1 g).1;have m:(BO rs (t:Int) c)[Cg (gtV c hi) (BO rs (t:Int) c)]?=some _:=BT A0
   have I:=HO (QI m);have h2:=Z7 G h m g
   omega
 · intro h
   have:=ab (Tu h g);omega
theorem Tt(g:BP rs)(t c:Nat)(lo hi:Int)(B:lo<=hi):Cg (geV c lo) (BO rs (t:Int) c)<=Cg (gtV c hi) (BO rs (t:Int) c):=by
 rcases FF (Cg (gtV c hi) (BO rs (t:Int) c)) (Cg (geV c lo) (BO rs (t:Int) c))with h|h
 · have I:=Gv (geV c lo) (BO rs (t:Int) c)
   have m:(BO rs (t:Int) c)[Cg (gtV c hi) (BO rs (t:Int) c)]?=some _:=BT A0;have G:=(jZ g t c hi m).1 (CI _)
   have h2:=(jR g t c lo m).2 h;omega
 · exact h
theorem OO{l:List AR}{f m:Nat}{r:AR}(h:((l.drop f).take m)[j]?=some r):j<m/\l[f+j]?=some r:=by
 rw [HI]at h;split at h;· rw [RW]at h;exact ⟨by assumption,h⟩
 · cases h
theorem jK{r:AR}(h:r∈BO rs t c):r∈rs/\r.t=t:=by
 have:=Fc.1 ((ES rs t c _ _).mem_iff.1 h);exact ⟨this.1,jX this.2⟩
theorem Nc(m:BP rs)(t c:Nat)(lo hi:Int)(g:lo<=hi):CQ (BO rs (t:Int) c) c lo<=toT (BO rs (t:Int) c) c hi/\toT (BO rs (t:Int) c) c hi<=(BO rs (t:Int) c).length/\(0<(BO rs (t:Int) c).length->CQ (BO rs (t:Int) c) c lo<toT (BO rs (t:Int) c) c hi):=by
 have B:=Tt m t c lo hi g;have h2:=Gv (geV c lo) (BO rs (t:Int) c)
 have G:=Gv (gtV c hi) (BO rs (t:Int) c);unfold CQ toT;omega
theorem lL(m:BP rs)(t c:Nat)(lo hi:Int)(g:lo<=hi):(Et rs t c lo hi).rows.length=toT (BO rs (t:Int) c) c hi -CQ (BO rs (t:Int) c) c lo:=by
 have:=Nc m t c lo hi g;show(((BO rs (t:Int) c).drop _).take _).length=_
 rw [CD,CH];omega
theorem Nw(B:BP rs)(hn:rs.length<=2000)(O:∀r∈rs,r.ok)(t c:Nat)(ht:t<=3)(hc:c<=3)(lo hi:Int)(m:lo<=hi):Gb (Et rs t c lo hi):=by
 have h1:=Tt B t c lo hi m;have h2:=Gv (geV c lo) (BO rs (t:Int) c)
 have h3:=Gv (gtV c hi) (BO rs (t:Int) c);have h4:=Nc B t c lo hi m
 have I:=lL B t c lo hi m;have ax:=JH B (t:Int) c
 have hf:CQ (BO rs (t:Int) c) c lo=Cg (geV c lo) (BO rs (t:Int) c) -1:=rfl;have bn:toT (BO rs (t:Int) c) c hi=min (Cg (gtV c hi) (BO rs (t:Int) c)+1) (BO rs (t:Int) c).length:=rfl
 have hv:∀r:AR,Bl r ((c:Nat):Int)=Dh r c:=fun r=>Lf r c hc;refine ⟨⟨⟨?_,?_⟩,?_,?_⟩,m,⟨?_,?_⟩,⟨?_,?_⟩,?_,?_,?_,?_,?_⟩;· show(0:Int)<=(t:Int);omega
 · show(t:Int)<4;omega
 · show(0:Int)<=(c:Int);omega
 · show(c:Int)<4;omega
 · show(0:Int)<=((BO rs (t:Int) c).length:Int);omega
 · show((BO rs (t:Int) c).length:Int)<=2000;omega
 · show(0:Int)<=((CQ (BO rs (t:Int) c) c lo:Nat):Int);omega
 · show((CQ (BO rs (t:Int) c) c lo:Nat):Int)<=((BO rs (t:Int) c).length:Int);omega
 · rw [I];show _<=((BO rs (t:Int) c).length:Int) -((CQ (BO rs (t:Int) c) c lo:Nat):Int);omega
 · rw [I];intro h0;show((BO rs (t:Int) c).length:Int)=0;omega
 · intro j r G
   obtain ⟨X,g⟩:=OO G;have W:=jK (DQ g)
   have K:=jR B t c lo g;have J:=jZ B t c hi g
   refine ⟨⟨O r W.1,W.2,?_,?_⟩,?_⟩;· intro h;change Bl r (c:Int)<lo at h;rw [hv]at h;omega
   · intro h;change hi<Bl r (c:Int)at h;rw [hv]at h;rw [I];omega
   · intro af q hq
     obtain ⟨_,U⟩:=OO hq;have:=zO (TE B (t:Int) c) A0 U g
     unfold UL;show Bl q (c:Int)<Bl r (c:Int)\/Bl q (c:Int)=Bl r (c:Int)/\q.k<r.k
     rw [hv,hv];exact this
 · intro r G
   obtain ⟨_,g⟩:=OO G;have K:=jR B t c lo g
   show((CQ (BO rs (t:Int) c) c lo:Nat):Int)=0\/Bl r (c:Int)<lo;rw [hv];omega
 · intro r G
   rw [I]at G⊢;obtain ⟨X,g⟩:=OO G;have J:=jZ B t c hi g
   show((CQ (BO rs (t:Int) c) c lo:Nat):Int)+_=((BO rs (t:Int) c).length:Int)\/hi<Bl r (c:Int);rw [hv];omega
theorem dO(G:BP rs)(W:rs.length<=2000)(K:∀r∈rs,r.ok)(t c:Nat)(X:t<=3)(hc:c<=3)(lo hi:Int)(m:lo<=hi):ER (Et rs t c lo hi)=(BO rs (t:Int) c).filter (inR (t:Int) c lo hi):=by
 have J:=Nw G W K t c X hc lo hi m;have h4:=Nc G t c lo hi m
 have hf:CQ (BO rs (t:Int) c) c lo=Cg (geV c lo) (BO rs (t:Int) c) -1:=rfl;have af:toT (BO rs (t:Int) c) c hi=min (Cg (gtV c hi) (BO rs (t:Int) c)+1) (BO rs (t:Int) c).length:=rfl
 have hv:∀r:AR,Bl r ((c:Nat):Int)=Dh r c:=fun r=>Lf r c hc;rw [dN J];show(((BO rs (t:Int) c).drop (CQ (BO rs (t:Int) c) c lo)).take (toT (BO rs (t:Int) c) c hi -CQ (BO rs (t:Int) c) c lo)).filter _=_
 have e:BO rs (t:Int) c=(BO rs (t:Int) c).take (CQ (BO rs (t:Int) c) c lo)++(((BO rs (t:Int) c).drop (CQ (BO rs (t:Int) c) c lo)).take (toT (BO rs (t:Int) c) c hi -CQ (BO rs (t:Int) c) c lo)++(BO rs (t:Int) c).drop (toT (BO rs (t:Int) c) c hi)):=by
  have e1:(BO rs (t:Int) c).drop (toT (BO rs (t:Int) c) c hi)=((BO rs (t:Int) c).drop (CQ (BO rs (t:Int) c) c lo)).drop (toT (BO rs (t:Int) c) c hi -CQ (BO rs (t:Int) c) c lo):=by
   rw [cA];congr 1;omega
  rw [e1,J0,J0]
 conv=>rhs;rw [e]
 rw [Hj,Hj];have z1:((BO rs (t:Int) c).take (CQ (BO rs (t:Int) c) c lo)).filter (inR (t:Int) c lo hi)=[]:=by
  rw [lj];intro r B I;obtain ⟨i,g⟩:=HH B;rw [HI]at g;split at g
  · have:=(jR G t c lo g).2 A0
    have:=HO I;omega
  · cases g
 have z2:((BO rs (t:Int) c).drop (toT (BO rs (t:Int) c) c hi)).filter (inR (t:Int) c lo hi)=[]:=by
  rw [lj];intro r B I;obtain ⟨i,g⟩:=HH B;rw [RW]at g;have O:=(C4.1 g).1
  have:=(jZ G t c hi g).1 A0;have:=HO I
  omega
 rw [z1,z2,Kx,D2];refine dd ?_;intro r B;have U:=jK (KB (On B))
 unfold inB inR;show decide (lo<=Bl r (c:Int)/\Bl r (c:Int)<=hi)=_
 rw [hv];exact decide_eq_decide.2 ⟨fun h=>⟨U.2,h⟩,fun h=>h.2⟩
theorem uk(B:BP rs)(m:∀r∈rs,r.ok)(t c:Nat)(W:t<=3)(hc:c<=3)(lo hi:Int)(J:lo<=hi):(BO rs (t:Int) c).filter (inR (t:Int) c lo hi)=Dr rs (t:Int) c lo hi:=by
 refine VM B ?_ ?_
 · have g:=(ES rs (t:Int) c (-1000000000) 1000000000).filter (inR (t:Int) c lo hi)
   refine g.trans ?_;rw [List.filter_filter];refine List.Perm.of_eq (dd ?_);intro r K;obtain ⟨⟨g,h2,G⟩,O,U⟩:=m r K;unfold inV at g h2 G;have I:-1000000000<=Dh r c/\Dh r c<=1000000000:=by
    unfold Dh;split;· omega
    · split
      · omega
      · split<;>omega
   unfold inR;rw [<-Bool.decide_and];exact decide_eq_decide.2 ⟨fun h=>h.1,fun h=>⟨h,h.1,I⟩⟩
 · exact (Es B (t:Int) c (-1000000000) 1000000000).filter _
theorem SF(B:BP rs)(I:rs.length<=2000)(m:∀r∈rs,r.ok)(t c:Nat)(G:t<=3)(hc:c<=3)(lo hi:Int)(g:lo<=hi):ER (Et rs t c lo hi)=Dr rs (t:Int) c lo hi:=by rw [dO B I m t c G hc lo hi g,uk B m t c G hc lo hi g]
def CF(c:Int)(n:Nat):Nat:=((if c<0 then-(c+1)else c).tmod n).toNat
theorem Dv(c:Int)(n:Nat)(B:0<n):CF c n<n:=by
 unfold CF;have g:0<=(if c<0 then-(c+1)else c):=by split<;>omega
 have h2:=Int.tmod_lt_of_pos (if c<0 then-(c+1)else c) (b:=(n:Int)) A0;have m:=Int.tmod_nonneg (n:Int) g
 omega
theorem Ym(c:Int)(n:Nat):(if c<0 then-(c+1)else c).tmod n=(CF c n:Int):=by
 unfold CF;have g:0<=(if c<0 then-(c+1)else c):=by split<;>omega
 have m:=Int.tmod_nonneg (n:Int) g;omega
theorem xK{c:Chg}{x:AR}(h:x∈EL rs c):x∈rs\/(c.has=true/\x=⟨c.t,c.k,c.n⟩):=by
 unfold EL at h;rcases C2.1 h with h|h
 · rcases C2.1 h with h|h
   · exact .inl (On h)
   · exact .inr (M6.1 h)
 · exact .inl (KB (KB h))
theorem yR{c:Chg}(h:c.ok)(g:c.has=true):AR.ok ⟨c.t,c.k,c.n⟩:=by
 obtain ⟨_,h2,_⟩:=h;rw [LU g]at h2;exact I0.1 fun m=>h2 (.inr ⟨g,m⟩)
theorem VO:∀(cs:List Chg) (rs:List AR),(∀r∈rs,r.ok)->(∀c∈cs,c.ok)->∀r∈DV rs cs,r.ok
 |[],rs,h,_=>h
 |c::cs,rs,h,hc=>by
  have B:∀r∈EL rs c,r.ok:=fun r m=>by
   rcases xK m with m|⟨hh,rfl⟩
   · exact h r m
   · exact yR (hc c B4) hh
  exact VO cs (EL rs c) B (fun c g=>hc c (by simp [g]))
variable{l:List BQ}
theorem FC.rowsOk(h:FC l):∀i,i<=l.length->∀r∈Bb (l.take i),r.ok
 |0,_=>by intro r g;simp [Bb]at g
 |i+1,hi=>by
  obtain ⟨r,g⟩:∃r,l[i]?=some r:=⟨_,BT A0⟩;rw [Bn g,Gg];refine VO _ _ (FC.rowsOk h i A0) fun c hc=>?_;obtain ⟨j,m⟩:=HH hc;exact (h i r g).1.ok.all j c m
variable{n:Nat}
theorem qH{xs:List (List Int)}(h:WN M (.slice p n cap) xs)(k:Nat)(G:k<=n):WN M (.slice p k cap) (xs.take k):=by
 obtain ⟨J,g,e,I,B⟩:=h;injection e with e1 e2 e3
 subst e1 e2 e3;have m:(xs.take k).length=k:=by rw [CD];exact N3 G
 refine ⟨p,cap,by rw [m],by omega,fun i z hz=>B i z ?_⟩;rw [HI]at hz;split at hz;· exact hz
 · cases hz
def cs0:List Chg:=[⟨0,3,false,V3.zero,true,⟨10,0,0⟩⟩,⟨0,5,false,V3.zero,true,⟨10,21,30⟩⟩]
def l0(gc:Nat):List BQ:=[⟨1,some ⟨gc,0,none⟩,2,cs0⟩]
def RP.cut(x:RP):RP:=⟨x.tb,x.cl,x.lo,x.hi,x.ct,x.fi,x.rows.drop 1,x.paths.drop 1,x.roots⟩
theorem rL(hv:Xt M v x)(h:Gb x){l:List AR}(G:ER x=l):BR prog 186 #[v] [M] (fun r H'=>∃B m,r= .tuple #[B,.bool true]/\Bd 5 80 B l.length (Af l) m/\H'=[m,M]):=by
 have g:=kY hv;rw [DG h,G]at g;exact g
theorem Xt.mono(h:Xt M v x)(g:∀c∈M,c∈M'):Xt M' v x:=by
 obtain ⟨I,G,J,e,m,h2,B⟩:=h;exact ⟨I,G,J,e,m.mono g,h2.mono g,B.mono g⟩
theorem Sd:∀(n:Nat) (l:List Bs) (i:Nat),l.length<=n->(FZ l i).length<=l.length
 |n,l,i,hn=>by
  rcases FF l.length 2 with h|h
  · rw [VQ A0];simp
  · have m:=P8 h
    have h2:=Oz l.length
    match n,hn with
    |0,hn=>omega
    |n+1,hn=>
    by_cases hi:i<Db l.length
    · have g:=Sd n (l.take (Db l.length)) i (by rw [CD];omega)
      rw [CD]at g;rw [Qc h hi,Bm];simp only [F2];omega
    · have g:=Sd n (l.drop (Db l.length)) (i -Db l.length) (by rw [CH];omega)
      rw [CH]at g;rw [Oj h hi,Bm];simp only [F2];omega
theorem Yd(m:BP rs)(B:rs.length<=2000)(t c:Nat)(lo hi:Int):∀l∈(Et rs t c lo hi).paths,l.length<=1000000:=by
 intro l h;obtain ⟨x,_,rfl⟩:=C6.1 h;have g:=Sd _ (PM (BO rs (t:Int) c)) (CQ (BO rs (t:Int) c) c lo+x) (CI _)
 have h2:=JH m (t:Int) c;rw [Ib]at g;omega
theorem zq(q:QM)(m:BK q):BJ prog 147 #[.agg q.A72] [] (.tuple #[I4 q.tb,I4 q.cl,I4 q.lo,I4 q.hi]):=by
 refine Se func147 ntmps147 [0] ?_;intro u R;refine A1<|Ze (Bx q.A72)<|AG fun bq=>Za Y<|Za Y<|Za Y<|A5 Y<|Zq<|A1<|Zo Wh (AB (cs:=#[_,_,_,_,_,_,_]) F1 CM Y B5 B0)<|Xr [_] Y call29 Y V (Jd q)<|Zv (DD Y)<|A6<|AU Y (fun g=>?_) (fun g=>?_);·
  exfalso;simp [m]at g
 refine AC<|Zx<|Zq<|BA (n:=12) (0::1::0::4::0::16::0::64::3::271::831::2047::[]) 0 AF AF V<|A3 0 V (AA (off:=1) CN V rfl AE Y)<|BE 1 V AH Y<|A3 2 V (AA (off:=2) CN V rfl AE Y)<|BE 3 V AH Y<|A3 4 V (AA (off:=3) CN V rfl AE Y)<|BE 5 V AH Y<|A3 6 V (AA (off:=4) CN V rfl AE Y)<|BE 7 V AH Y<|A3 8 V (Aq Y)<|A3 9 V (Aq Y)<|A3 10 V (Aq Y)<|A3 11 V (Aq Y)<|Ag<|Zn [2,3,4,5] ?_;refine Zx<|AJ<|jM V results147 Y Y Y Y (by exact ⟨V,V⟩)
theorem pD(q:QM)(g:BK q):BJ prog 91 #[.agg q.A72] [] (.agg #[I4 q.tb,I4 q.cl,I4 q.lo,I4 q.hi]):=by
 refine Se func91 ntmps91 [0] ?_;intro u R;refine A1<|Ze (Bx q.A72)<|AG fun bq=>Ze (Al kA #[_,_,_,_])<|AG fun m=>A6<|A1<|Zo Wh (AB (cs:=#[_,_,_,_,_,_,_]) F1 CM Y B5 B0)<|Xr [_] Y call147 Y V (zq q g)<|Zm Y<|Zd Y V<|Zd Y V<|Zd Y V<|Zd Y V<|Zh 0 N4 V rfl AE Y<|Xe (Zs AE Y Y V (hi:=by decide))<|Zh 1 N4 V rfl AE Y<|Xe (Zs AE Y Y V (hi:=by(simp;done)))<|Zh 2 N4 V rfl AE Y<|Xe (Zs AE Y Y V (hi:=by(simp;done)))<|Zh 3 N4 V rfl AE Y<|Xe (Zs AE Y Y V (hi:=by(simp;done)))<|Z0<|Zn [2] ?_;refine Zx<|A1<|Zo Wh (AB (cs:=#[_,_,_,_]) isAgg190 cV Y B5 (BN rfl))<|Xe (BL cV Y Y Hb Wu (EI rfl) FA B5 (by exact BC _))<|A6<|AJ<|D6 rfl results91 Y Wh (Au isAgg190 cV Wn (BN rfl)) lE
theorem UW{P:Program}{env:Env}{d:Option Nat}{ty:AM}{pos:String}{af:Array Edge}{g:Option (Nat×Bool)}{x:Operand}{m at_:AM}{ok:Bool}{r:A4}(G:∀a,ev a env x=v)(B:∀w:AD,(Instr.typeAssert v m at_ ok).run P w= .ok r w):OpP P ⟨d,.typeAssert x m at_ ok,ty,pos,af,g⟩ env [] r:=fun a w _=>by
 simp [execOp,G a,B w]
theorem sX(w:AD):(Instr.typeAssert .nilIface 20 107 true).run prog w= .ok (.tuple #[.nilIface,.bool false]) w:=by kernel_rfl
theorem aH{u w:AD}{H:Hp}{b:Nat}{o:Obj}(h:Has b o H)(g:Sat u H w):w.heap[b]?=some o:=g.get _ h.mem
variable{q:QM}
theorem nX(m:BK q)(g:q.kd≠7):IY q (Dr rs q.tb q.cl.toNat q.lo q.hi) []=Cs rs q:=by
 rw [PE m];unfold Cs FR CR;split;· rfl
 · split
   · rfl
   · split
     · rfl
     · split
       · rfl
       · first
         |rfl
         |(split
           · rename_i h;exact absurd h g
           · rfl)
theorem rI(G:BP rs)(B:rs.length<=2000)(g:∀r∈rs,r.ok)(q:QM)(I:BK q):Gb (Et rs q.tb.toNat q.cl.toNat q.lo q.hi)/\ER (Et rs q.tb.toNat q.cl.toNat q.lo q.hi)=Dr rs q.tb q.cl.toNat q.lo q.hi:=by
 obtain ⟨J,h2,m,_⟩:=id I;refine ⟨Nw G B g q.tb.toNat q.cl.toNat A0 A0 q.lo q.hi m.2.1,?_⟩;have h:=SF G B g q.tb.toNat q.cl.toNat A0 A0 q.lo q.hi m.2.1
 rwa [show((q.tb.toNat:Nat):Int)=q.tb by omega]at h
theorem rR(g:BK q):(Et rs q.tb.toNat q.cl.toNat q.lo q.hi).tb=q.tb/\(Et rs q.tb.toNat q.cl.toNat q.lo q.hi).cl=q.cl/\(Et rs q.tb.toNat q.cl.toNat q.lo q.hi).lo=q.lo/\(Et rs q.tb.toNat q.cl.toNat q.lo q.hi).hi=q.hi:=by
 obtain ⟨m,h2,_⟩:=id g;exact ⟨show((q.tb.toNat:Nat):Int)=q.tb by omega,show((q.cl.toNat:Nat):Int)=q.cl by omega,V,V⟩
theorem KY:BJ prog 129 #[.bool true] [] undef:=by
 refine Se func129 ntmps129 [0] ?_;intro u R;refine A1<|Zm Y<|Zv (Bt Y)<|A6<|AU Y (fun g=>by cases g)<|fun g=>AC<|Ce V results129 (by exact ⟨V,V⟩)
theorem yT(pk:A4):PT prog 128 #[pk] .returning .returning [] (fun H'=>H'=[]):=by
 refine YF (env1:=[(3,.bool false),(2,.nilIface),(8,.bool false),(7,.nilIface),(4,.tuple #[.nilIface,.bool false]),(6,.tuple #[.nilIface,.bool false]),(5,.nilIface),(0,pk)]) func128 V ntmps128 V results128 ?hrec_1 ?hwalk_1
 case hrec_1=>
  intro u R c cs Q m G;show pI _ _ [0,1,2,3,4,5,6] _ _ _ _ _
  have g:({c with mode:= .returning}:Frame)=c:=by cases c;simp only at m;subst m;rfl
  rw [g]at G;refine eu V (by simp [recoverD,m]) V ?_;refine QA V (UW Y sX) V ?_;refine QA V (AO Y) V ?_;refine QA V (CE Y V) V ?_;refine QA V (CE Y V) V ?_;refine QA V (Aq Y) V ?_;refine QA V (Aq Y) V ?_;intro a w I;exact G a w I
 intro u R;refine Zb [0,2,3] ?_;refine A1<|Zm Y<|Zm Y<|Ah (t:=10) Y V (fun B=>by cases B)<|fun B=>A7 Y V<|A7 Y V<|A7 Y V<|Zv (AL Y Y)<|A6<|D9 Y<|AC<|Ce V results128 B0
theorem ze(g:Nat)(B:A4):PT prog 127 #[I5 g,B] .returning .returning [[(g,.cells #[.bool true] 4 (0,0))]] (fun H'=>H'=[[(g,.cells #[.bool true] 4 (0,0))]]):=by
 refine ah func127 V ntmps127 V ?_;intro u R;refine Zb [0,1] ?_;refine A1<|Zl Fk Y ?_;refine Zv (Bt Y)<|A6<|AU Y (fun m=>by cases m)<|fun m=>AC<|Ce V results127 B0
structure RPZ where
 x:RP
 qr:B8
 cr:Nat
 qp:B8
 cp:Nat
 qt:B8
 ct:Nat
def Em(z:RPZ):List A4:=[I4 z.x.tb,I4 z.x.cl,I4 z.x.lo,I4 z.x.hi,I4 z.x.ct,I4 z.x.fi,.slice z.qr z.x.rows.length z.cr,.slice z.qp z.x.paths.length z.cp,.slice z.qt z.x.roots.length z.ct]
def RPZ.ok(M:List A9)(z:RPZ):Prop:=EB M (.slice z.qr z.x.rows.length z.cr) z.x.rows/\Ma M (.slice z.qp z.x.paths.length z.cp) z.x.paths/\Eb M (.slice z.qt z.x.roots.length z.ct) z.x.roots
theorem rB(h:Xt M v x):∃z:RPZ,z.x=x/\z.ok M/\v= .agg #[I4 z.x.tb,I4 z.x.cl,I4 z.x.lo,I4 z.x.hi,I4 z.x.ct,I4 z.x.fi,.slice z.qr z.x.rows.length z.cr,.slice z.qp z.x.paths.length z.cp,.slice z.qt z.x.roots.length z.ct]:=by
 obtain ⟨K,J,O,rfl,g,h2,m⟩:=h;obtain ⟨qr,cr,rfl,B⟩:=id g;obtain ⟨qp,cp,rfl,G⟩:=id h2;obtain ⟨qt,ct,rfl,I⟩:=id m;exact ⟨⟨x,qr,cr,qp,cp,qt,ct⟩,V,⟨g,h2,m⟩,V⟩
theorem RPZ.ok.mono{z:RPZ}(h:z.ok M)(g:∀c∈M,c∈M'):z.ok M':=⟨h.1.mono g,h.2.1.mono g,h.2.2.mono g⟩
theorem RPZ.ok.rp{z:RPZ}(h:z.ok M):Xt M (.agg #[I4 z.x.tb,I4 z.x.cl,I4 z.x.lo,I4 z.x.hi,I4 z.x.ct,I4 z.x.fi,.slice z.qr z.x.rows.length z.cr,.slice z.qp z.x.paths.length z.cp,.slice z.qt z.x.roots.length z.ct]) z.x:=⟨_,_,_,rfl,h⟩
def ZsU(M:List A9)(v:A4)(Z:List RPZ):Prop:=∃p cap,v= .slice p Z.length cap/\(Z.length<=maxLen/\Z.length<=cap)/\∀(i:Nat) (z:RPZ),Z[i]?=some z->z.ok M/\∃g off cur T zz,p=some ⟨g,off,none⟩/\(g,Obj.cells cur T zz)∈M/\off+i*9+9<=cur.size/\cur.extract (off+i*9) (off+i*9+9)=#[I4 z.x.tb,I4 z.x.cl,I4 z.x.lo,I4 z.x.hi,I4 z.x.ct,I4 z.x.fi,.slice z.qr z.x.rows.length z.cr,.slice z.qp z.x.paths.length z.cp,.slice z.qt z.x.roots.length z.ct]
def GI(M:List A9)(v:A4)(L:List RP):Prop:=∃Z,ZsU M v Z/\Z.map RPZ.x=L
variable{Z:List RPZ}
theorem ZsU.mono(h:ZsU M v Z)(m:∀c∈M,c∈M'):ZsU M' v Z:=by
 obtain ⟨p,cap,e,K,J⟩:=h;refine ⟨p,cap,e,K,fun i z hz=>?_⟩;obtain ⟨h2,g,off,cur,T,zz,B,G,I⟩:=J i z hz;exact ⟨h2.mono m,g,off,cur,T,zz,B,m _ G,I⟩
variable{L:List RP}
theorem GI.mono(h:GI M v L)(m:∀c∈M,c∈M'):GI M' v L:=by
 obtain ⟨Z,g,h2⟩:=h;exact ⟨Z,g.mono m,h2⟩
theorem WR{B:List A9}(h:Bd 9 171 v Z.length (Z.flatMap Em) s)(J:Z.length<=maxLen)(I:∀z∈Z,z.ok B):ZsU (s++B) v Z:=by
 obtain ⟨b,cap,rfl⟩:=h.form;refine ⟨b,cap,V,⟨J,Ez h⟩,fun i z hz=>⟨(I z (DQ hz)).mono (fun c hc=>G2 _ hc),?_⟩⟩;obtain ⟨g,G,cur,zz,hv,rfl,K,m⟩:=KE h i (C4.1 hz).1;injection hv with hv1 hv2 hv3
 refine ⟨g,0,cur,171,zz,hv1,Ek _ (C5.2 V),by omega,?_⟩;rw [D3];apply I2.1;rw [m];exact J2 _ 9 (fun _=>rfl) Z i z hz
theorem qQ{g:List A9}(h:Bd 9 171 v Z.length (Z.flatMap Em) s)(B:Z.length<=maxLen)(m:∀z∈Z,z.ok g):GI (s++g) v (Z.map RPZ.x):=⟨Z,WR h B m,rfl⟩
theorem GI.form(h:GI M v L):∃p cap,v= .slice p L.length cap/\L.length<=maxLen/\L.length<=cap:=by
 obtain ⟨Z,⟨p,cap,e,g,_⟩,rfl⟩:=h;rw [B6];exact ⟨p,cap,e,g⟩
theorem GI.at{M:List A9}{p:B8}{n cap:Nat}{L:List RP}(h:GI M (.slice p n cap) L){i:Nat}{x:RP}(m:L[i]?=some x):∃z:RPZ,z.x=x/\z.ok M/\∃g off cur T zz,p=some ⟨g,off,none⟩/\(g,Obj.cells cur T zz)∈M/\off+i*9+9<=cur.size/\cur.extract (off+i*9) (off+i*9+9)=#[I4 z.x.tb,I4 z.x.cl,I4 z.x.lo,I4 z.x.hi,I4 z.x.ct,I4 z.x.fi,.slice z.qr z.x.rows.length z.cr,.slice z.qp z.x.paths.length z.cp,.slice z.qt z.x.roots.length z.ct]:=by
 obtain ⟨Z,⟨I,B,e,_,G⟩,rfl⟩:=h;injection e with e1 e2 e3
 subst e1;rw [DP]at m;cases hz:Z[i]?with
 |none=>rw [hz]at m;cases m
 |some z=>
  rw [hz]at m;injection m with m
  exact ⟨z,m,G i z hz⟩
theorem GI.tail(h:GI M (.slice p n cap) (x::L)):GI M (.slice (Ea p 1 cap 9) (n -1) (cap -1)) L:=by
 obtain ⟨Z,⟨X,J,e,⟨I,m⟩,G⟩,B⟩:=h;injection e with e1 e2 e3
 subst e1 e2 e3
 match Z,B,I,m,G with
 |z::Z,B,I,m,G=>
  injection B with hZ1 hZ2
  rw [E3]at I m;refine ⟨Z,⟨_,_,by rw [E3,Rg],⟨by omega,by omega⟩,fun i y K=>?_⟩,hZ2⟩;obtain ⟨h2,g,off,cur,T,zz,rfl,O,W,U⟩:=G (i+1) y (by simpa using K);have hi:=(C4.1 K).1
  refine ⟨h2,g,off+1*9,cur,T,zz,?_,O,by omega,by rw [show off+1*9+i*9=off+(i+1)*9 by omega];exact U⟩;unfold Ea;rw [As A0,N2,Ca]
def X9(q:QM)(r:AR):Int×Int×Int×Int:=(q.ot,0,Bl r q.bq,Bl r q.bq)
def YJ(q:QM):Int×Int×Int×Int:=(q.tb,q.cl,q.lo,q.hi)
def RP.scan(x:RP):Int×Int×Int×Int:=(x.tb,x.cl,x.lo,x.hi)
noncomputable def Oi(s:Int×Int×Int×Int):List RP->Option (List AR×List RP)
 |[]=>none
 |x::l=>if x.scan=s/\Gb x then some (ER x,l)else none
noncomputable def Er(q:QM):List AR->List RP->Option (List AR×List RP)
 |[],l=>some ([],l)
 |r::rs,l=>(Oi (X9 q r) l).bind fun a=>(Er q rs a.2).map fun b=>(a.1++b.1,b.2)
noncomputable def Eo(q:QM)(L:List RP):Option CB:=
 if BK q then(Oi (YJ q) L).bind fun a=>if a.1.length<=100 then(if q.kd=7 then Er q a.1 a.2 else some ([],a.2)).bind fun b=>if b.2=[]then some (FR q a.1 b.1)else none else none else none
theorem SQ{s:Int×Int×Int×Int}{a:List AR×List RP}(h:Oi s L=some a):∃x,L=x::a.2/\x.scan=s/\Gb x/\a.1=ER x:=by
 unfold Oi at h;split at h;· cases h
 · split at h
   · rename_i x l h9
     injection h with h
     subst h;exact ⟨x,V,h9.1,h9.2,V⟩
   · cases h
theorem VL{s:Int×Int×Int×Int}{l:List RP}(g:x.scan=s)(h2:Gb x):Oi s (x::l)=some (ER x,l):=Ax ⟨g,h2⟩
theorem Lu{r:AR}{l:List RP}{b:List AR×List RP}(h:Er q (r::rs) l=some b):∃a c,Oi (X9 q r) l=some a/\Er q rs a.2=some c/\b=(a.1++c.1,c.2):=by
 unfold Er at h;cases ha:Oi (X9 q r) l with
 |none=>rw [ha]at h;cases h
 |some a=>
  rw [ha,J1]at h;cases hc:Er q rs a.2 with
  |none=>rw [hc]at h;cases h
  |some c=>rw [hc]at h;injection h with h;exact ⟨a,c,rfl,hc,h.symm⟩
theorem Oh{q:QM}:∀(rows:List AR) (i:Nat) (L:List RP) (b:List AR×List RP),i<=rows.length->Er q rows L=some b->∃o g,Er q (rows.take i) L=some (o,g)/\∃m,Er q (rows.drop i) g=some (m,b.2)/\b.1=o++m
 |rows,0,L,b,_,h=>⟨[],L,rfl,b.1,by rw [Pr];exact h,rfl⟩
 |r::rows,i+1,L,b,hi,h=>by
  obtain ⟨a,c,B,h2,rfl⟩:=Lu h;obtain ⟨o,g,G,m,I,J⟩:=Oh rows i a.2 c (by simpa using hi) h2;refine ⟨a.1++o,g,?_,m,by rw [List.drop_succ_cons];exact I,by rw [J,CT]⟩;rw [lz];unfold Er;rw [B,J1,G];rfl
theorem Qa{q:QM}:∀(rows:List AR) (i:Nat) (r:AR) (L l':List RP) (o:List AR) (a:List AR×List RP),rows[i]?=some r->Er q (rows.take i) L=some (o,l')->Oi (X9 q r) l'=some a->Er q (rows.take (i+1)) L=some (o++a.1,a.2)
 |r9::rows,0,r,L,l',o,a,hr,h,ha=>by
  injection hr with hr
  subst hr;injection h with h
  injection h with g h2
  subst g h2;show Er q [r9] L=_
  unfold Er;rw [ha,J1];show some (a.1++[],a.2)=some ([]++a.1,a.2)
  rw [D2,Kx]
 |r9::rows,i+1,r,L,l',o,a,hr,h,ha=>by
  rw [lz]at h⊢;obtain ⟨G,B,g,h2,m⟩:=Lu h;injection m with m h4
  have:=Qa rows i r G.2 B.2 B.1 a (by simpa using hr) h2 (by rw [<-h4];exact ha);unfold Er;rw [g,J1,this,m,CT];rfl
variable{r:CB}
theorem QT(h:Eo q L=some r):∃x g,L=x::g/\BK q/\x.scan=YJ q/\Gb x/\(ER x).length<=100/\((q.kd≠7/\g=[]/\r=FR q (ER x) [])\/(q.kd=7/\∃o,Er q (ER x) g=some (o,[])/\r=FR q (ER x) o)):=by
 unfold Eo at h;split at h
 · rename_i hq
   cases ha:Oi (YJ q) L with
   |none=>rw [ha]at h;cases h
   |some a=>
    obtain ⟨x,m,h2,B,G⟩:=SQ ha;rw [ha,J1]at h;split at h
    · rename_i h5
      rw [G]at h5 h;refine ⟨x,a.2,m,hq,h2,B,h5,?_⟩;split at h
      · rename_i h7
        cases hb:Er q (ER x) a.2 with
        |none=>rw [hb]at h;cases h
        |some b=>
         rw [hb,J1]at h;split at h
         · rename_i h8
           injection h with h
           exact .inr ⟨h7,b.1,by rw [<-h8],h.symm⟩
         · cases h
      · rename_i h7
        rw [J1]at h;split at h
        · rename_i h8
          injection h with h
          exact .inl ⟨h7,h8,h.symm⟩
        · cases h
    · cases h
 · cases h
def Ff(rs:List AR)(q:QM):List RP:=Et rs q.tb.toNat q.cl.toNat q.lo q.hi::(if q.kd=7 then(CR rs q).map fun r=>Et rs q.ot.toNat 0 (Bl r q.bq) (Bl r q.bq)else [])
theorem SN{rs:List AR}(B:BP rs)(m:rs.length<=2000)(g:∀r∈rs,r.ok){q:QM}(J:0<=q.ot/\q.ot<=3):∀l:List AR,Er q l (l.map fun r=>Et rs q.ot.toNat 0 (Bl r q.bq) (Bl r q.bq))=some (l.flatMap fun r=>Dr rs q.ot 0 (Bl r q.bq) (Bl r q.bq),[])
 |[]=>rfl
 |r::l=>by
  have e:((q.ot.toNat:Nat):Int)=q.ot:=by omega
  have G:=Nw B m g q.ot.toNat 0 A0 A0 (Bl r q.bq) (Bl r q.bq) (V2 _);have h2:=SF B m g q.ot.toNat 0 A0 A0 (Bl r q.bq) (Bl r q.bq) (V2 _)
  have I:=SN B m g J l;rw [e]at h2;unfold Er;rw [Dd,VL (by show(((q.ot.toNat:Nat):Int),((0:Nat):Int),_,_)=(_,_,_,_);rw [e];rfl) G,J1];simp only [I,h2,N2,HW]
theorem nk{f:AR->Bool}{g:AR->List AR}{y:AR}(G:∀a b,f a=true->f b=true->(∃r,a∈g r)->(∃r,b∈g r)->a=b):∀l:List AR,(∃r∈l,y∈g r)->f y=true->(l.flatMap g).find? f=some y:=fun l ⟨r,I,m⟩ h=>by
 cases hfi:(l.flatMap g).find? f with
 |none=>exact absurd h (by simpa using cP.1 hfi y (S1.2 ⟨r,I,m⟩))
 |some x=>
  have B:=dp (p:=f) hfi;obtain ⟨K,_,J⟩:=S1.1 (cy hfi);rw [G x y B h ⟨K,J⟩ ⟨r,m⟩]
theorem dD(G:BP rs)(hn:rs.length<=2000)(J:∀r∈rs,r.ok)(m:BK q)(hl:(CR rs q).length<=100):Eo q (Ff rs q)=some (Cs rs q):=by
 have hk:=m.2.2.2;have hc:=m.2.1
 have ht:=m.1;obtain ⟨U,h2⟩:=rI G hn J q m;have O:=rR (rs:=rs) m
 have ax:(Et rs q.tb.toNat q.cl.toNat q.lo q.hi).scan=YJ q:=by unfold RP.scan YJ;rw [O.1,O.2.1,O.2.2.1,O.2.2.2]
 unfold Eo Ff;rw [Ax m,VL ax U,J1];simp only [h2];rw [show Dr rs q.tb q.cl.toNat q.lo q.hi=CR rs q from rfl,Ax hl];by_cases B:q.kd=7
 · rw [Ax B,Ax B,SN G hn J A0,J1,Ax rfl]
   unfold Cs FR;simp only [As (show¬q.kd=3 by omega),As (show¬q.kd=4 by omega),As (show¬q.kd=5 by omega),As (show¬q.kd=6 by omega),Ax B];congr 2;unfold Io;have g:∀k x,x∈Dr rs q.ot 0 k k↔x∈rs/\x.t=q.ot/\x.k=k:=fun k x=>by
    rw [(ES rs q.ot 0 k k).mem_iff,Fc];unfold inR Dh;rw [GO,Ax rfl];constructor;· rintro ⟨a,b,c,d⟩;exact ⟨a,b,by omega⟩
    · rintro ⟨a,b,c⟩;exact ⟨a,b,by omega,by omega⟩
   have af:∀r∈CR rs q,Il q ((CR rs q).flatMap fun r=>Dr rs q.ot 0 (Bl r q.bq) (Bl r q.bq)) r=Il q (IM rs q.ot) r:=fun r hr=>by
    unfold Il
    suffices e:Dc q ((CR rs q).flatMap fun r=>Dr rs q.ot 0 (Bl r q.bq) (Bl r q.bq)) (Bl r q.bq)=Dc q (IM rs q.ot) (Bl r q.bq) by rw [e]
    cases hp:Dc q (IM rs q.ot) (Bl r q.bq)with
    |none=>
     unfold Dc;refine cP.2 fun x K I=>?_;obtain ⟨r',_,K⟩:=S1.1 K;have W:=(g _ x).1 K
     have X:x.t=q.ot/\x.k=Bl r q.bq:=by simpa using I
     have:=(Fs G (q:=q) (Bl r q.bq) x).2 ⟨W.1,X⟩;rw [hp]at this;cases this
    |some x=>
     have I:=(Fs G (q:=q) (Bl r q.bq) x).1 hp;unfold Dc;refine nk (fun a b ha hb ⟨r1,U⟩ ⟨r2,h2⟩=>?_) _ ⟨r,hr,(g _ x).2 ⟨I.1,I.2⟩⟩ (DG I.2);have a1:=(g _ a).1 U
     have b1:=(g _ b).1 h2;have a2:a.t=q.ot/\a.k=Bl r q.bq:=by simpa using ha
     have b2:b.t=q.ot/\b.k=Bl r q.bq:=by simpa using hb
     have a3:=(Fs G (q:=q) (Bl r q.bq) a).2 ⟨a1.1,a2⟩;have b3:=(Fs G (q:=q) (Bl r q.bq) b).2 ⟨b1.1,b2⟩
     rw [a3]at b3;injection b3
   have:∀l:List AR,(∀r∈l,Il q ((CR rs q).flatMap fun r=>Dr rs q.ot 0 (Bl r q.bq) (Bl r q.bq)) r=Il q (IM rs q.ot) r)->l.flatMap (Il q ((CR rs q).flatMap fun r=>Dr rs q.ot 0 (Bl r q.bq) (Bl r q.bq)))=l.flatMap (Il q (IM rs q.ot)):=fun l=>by
    induction l with
    |nil=>intro _;rfl
    |cons r l ih=>intro h;rw [HW,HW,h r B4,ih fun x K=>h x (by simp [K])]
   exact this _ af
 · rw [As B,As B,J1,Ax rfl]
   rw [<-nX m B,PE m];rfl
theorem xM(v:A4)(p:Int)(rs:List AR)(s:List A9)(hv:RF v p rs s)(O:BP rs)(K:rs.length<=2000)(B:∀r∈rs,r.ok)(t c lo hi:Int)(U:0<=t/\t<=3)(hc:0<=c/\c<=3)(m:lo<=hi)(g:AM)(G:Nat×Nat):
 BR prog 90 #[v,I4 t,I4 c,I4 lo,I4 hi] [[(4,.cells (Ew.map Cz).toArray g G)],s] (fun r H'=>∃(z:RPZ) (mem:List A9),z.x=Et rs t.toNat c.toNat lo hi/\z.ok mem/\r= .tuple #[.agg #[I4 z.x.tb,I4 z.x.cl,I4 z.x.lo,I4 z.x.hi,I4 z.x.ct,I4 z.x.fi,.slice z.qr z.x.rows.length z.cr,.slice z.qp z.x.paths.length z.cp,.slice z.qt z.x.roots.length z.ct],I4 0]/\H'=[mem,[(4,.cells (Ew.map Cz).toArray g G)],s]):=by
 have h:=dZ v p rs s hv O K B t.toNat c.toNat A0 A0 lo hi m g G;rw [show((t.toNat:Nat):Int)=t by omega,show((c.toNat:Nat):Int)=c by omega]at h;refine h.mono ?_;rintro r H' ⟨W,mem,rfl,J,rfl⟩;obtain ⟨z,I,h2,rfl⟩:=rB J;exact ⟨z,mem,I,h2,V,V⟩
theorem yw(Z:List RPZ):∀u∈Z.flatMap Em,u.oneCell'=true:=by
 intro u g;obtain ⟨z,_,h⟩:=S1.1 g;unfold Em at h;simp only [DB,Pc,OR]at h;rcases h with rfl|rfl|rfl|rfl|rfl|rfl|rfl|rfl|rfl<;>rfl
theorem tj(Z:List RPZ):(Z.flatMap Em).length=Z.length*9:=by
 induction Z with
 |nil=>rfl
 |cons z Z ih=>rw [HW,Bm,ih,E3];show 9+_=_;omega
theorem Sn(q:QM)(g:0<=q.bq/\q.bq<=3)(r:AR):BJ prog 92 #[.agg q.A72,.agg r.A71] [] (.agg #[I4 q.ot,I4 0,I4 (Bl r q.bq),I4 (Bl r q.bq)]):=by
 refine Se func92 ntmps92 [0,1] ?_;intro u R;refine A1<|Ze (Bx q.A72)<|AG fun bq=>Ze (Bx #[_,_,_,_,_])<|AG fun B=>Ze (Al kA #[_,_,_,_])<|AG fun m=>A6<|A1<|Zo Wh (AB (cs:=#[_,_,_,_,_]) D0 B3 Y B5 (by exact BN V)) ?_;refine Zh 5 CN V rfl AE Y<|Zl AH Y ?_;refine Xr [_,_] Y SO Y V (G8 r q.bq g) ?_;refine A5 Y<|A1<|Zh 6 CN V rfl AE Y<|Zl AH Y ?_;refine Zm Y<|Zm Y<|Zv (BM (vs:=[(0,_),(1,_),(2,_),(3,_)]) (cs:=#[_,_,_,_]) Y (AY (pl:=#[(0,1),(1,1),(2,1),(3,1)]) kA N4 (fun _=>by kernel_rfl) rfl))<|Xe (BL cV Y Y (by(simp [Value.oneCell',Value.cells];done)) Wu (by exact EI rfl) FA B1 (by exact BC _)) ?_;refine Z0<|Zn [4] ?_;refine Zx<|AJ<|D6 V results92 Y Wh (Au isAgg190 cV Wn (BN V)) (by exact ⟨V,V⟩)
theorem zB(v:A4)(p:Int)(rs:List AR)(s:List A9)(hv:RF v p rs s)(hs:BP rs)(hn:rs.length<=2000)(X:∀r∈rs,r.ok)(t B lo hi:Int)(ht:0<=t/\t<=3)(hc:0<=B/\B<=3)(W:lo<=hi)(I:AM)(zg:Nat×Nat)(K J:Nat){g:B8}{G:List A9}(af:Bd 9 171 (.slice g Z.length c) Z.length (Z.flatMap Em) G)(hZ:Z.length<=1000000):BR prog 89 #[.agg #[I4 t,I4 B,I4 lo,I4 hi],I5 K,I5 J] [[(4,.cells (Ew.map Cz).toArray I zg)],s,[(K,.cells #[v] 66 (0,0))],[(J,.cells #[.slice g Z.length c] 41 (0,0))],G] (fun r H'=>r=undef/\∃(z:RPZ) (mem:List A9) (g:B8) (c:Nat) (G:List A9),z.x=Et rs t.toNat B.toNat lo hi/\z.ok mem/\Bd 9 171 (.slice g (Z.length+1) c) (Z.length+1) ((Z++[z]).flatMap Em) G/\H'=[mem,G,[(4,.cells (Ew.map Cz).toArray I zg)],s,[(K,.cells #[v] 66 (0,0))],[(J,.cells #[.slice g (Z.length+1) c] 41 (0,0))]]):=by
 have d9:=mL;obtain ⟨sp,mb,es,ck,lm,rfl,cO⟩:=id hv;refine Se func89 ntmps89 [0,1,2] ?_;intro u R;refine A1<|Ze (Bx #[_,_,_,_])<|AG fun bx=>A6<|A1<|Zl isAgg66 Y<|Zh 0 N4 V rfl AE Y<|Zl AH Y<|Zh 1 N4 V rfl AE Y<|Zl AH Y<|Zh 2 N4 V rfl AE Y<|Zl AH Y<|Zh 3 N4 V rfl AE Y<|Zl AH Y<|Zc [_,_,_,_,_] Y call90 Y V (xM _ p rs s hv hs hn X t B lo hi ht hc W I zg) ?_;rintro _ _ ⟨_,⟨z,mem,bn,ax,rfl,rfl⟩,rfl⟩;refine Zm Y<|Zd Y V<|Zd Y V<|Ze (Al cT #[_,_,_,_,_,_,_,_,_])<|AG fun bp=>Xe (Xw Mu #[I4 z.x.tb,I4 z.x.cl,I4 z.x.lo,I4 z.x.hi,I4 z.x.ct,I4 z.x.fi,.slice z.qr z.x.rows.length z.cr,.slice z.qp z.x.paths.length z.cp,.slice z.qt z.x.roots.length z.ct])<|AW Y<|Zn [2,4] ?_;refine Zx<|Zg<|Zl SP Y<|Zo Wh (AB (cs:=#[_,_,_,_,_,_,_,_,_]) isAgg171 Mu Y B5 B0)<|Ze (Ai (vs:=[_]) (cs:=[_,_,_,_,_,_,_,_,_]) W3 Mu cT Y V rfl V rfl V)<|AG fun gb=>Ze (BV (by_:=120) (sz:=9) W3 (V:Tryz.prog.info? 171=some Tryz.t171) V rfl V rfl Y (af) Y (Dl 9 gb 1 1 171 (0,0) (Em z) V) Wo Wo (by have:=yw [z];simpa using this) A0 A0) ?_;rintro _ _ ⟨cu,m,rfl⟩;obtain ⟨U,O,rfl⟩:=m.form;refine Xe (Zs My Y Y rfl (hi:=by(simp;done)))<|Z0<|Ce rfl results89 (by exact ⟨rfl,z,mem,U,O,cu,bn,ax,BZ m rfl (by rw [P2];simp),rfl⟩)
set_option maxHeartbeats 1000000 in
theorem rr(v:A4)(p:Int)(rs:List AR)(s:List A9)(hv:RF v p rs s)(hs:BP rs)(hn:rs.length<=2000)(gq:∀r∈rs,r.ok)(q:QM)(hq:BK q)(hl:(CR rs q).length<=100)(Tg:AM)(zg:Nat×Nat):BR prog 43 #[v,.agg q.A72] [[(4,.cells (Ew.map Cz).toArray Tg zg)],s] (fun w H'=>∃vo mem,w= .tuple #[vo,I4 0]/\GI mem vo (Ff rs q)/\H'=[mem,[(4,.cells (Ew.map Cz).toArray Tg zg)],s]):=by
 have qb:=mL;obtain ⟨sp,mb,es,ck,lm,rfl,pz⟩:=id hv;have d9:=hq.2.1
 have o9:=@SS rs q.tb q.cl.toNat q.lo q.hi;have l9:0<=q.bq/\q.bq<=3:=by have:=hq.2.2.2;omega
 have o8:0<=q.ot/\q.ot<=3:=by have:=hq.2.2.2;omega
 refine Se func43 ntmps43 [0,1] ?_;intro u R;refine A1<|Ze (Bx #[_])<|AG fun bs=>Ze (Bx q.A72)<|AG fun bq=>Za Y<|A5 Y<|Zq<|AQ<|A1<|Zl isAgg66 Y<|Zv (Bh lA Y Y)<|A5 Y<|AU Y (fun cu=>by cases cu)<|fun cu=>A1<|Zo Wh (AB (cs:=#[_,_,_,_,_,_,_]) F1 CM Y B5 B0)<|Xr [_] Y call29 Y V (Jd q)<|Zv (DD Y)<|A5 Y<|AU Y (fun cO=>?_) (fun cO=>?_);·
  exfalso;simp [hq]at cO
 refine AC<|A8<|Zx<|A1<|Ze (Al zeroValue41 #[_])<|AG fun bo=>A6<|A1<|Zv (Bg (vs:=[]) (us:=[_,_]) Y Y)<|AW Y<|Zn [2,3,6,7] ?_;refine Zx<|A1<|Zo Wh (AB (cs:=#[_,_,_,_,_,_,_]) F1 CM Y B5 B0)<|Xr [_] Y call91 Y V (pD q hq)<|Ze (Al kA #[_,_,_,_])<|AG fun bx=>Xe (Xw cV #[I4 q.tb,I4 q.cl,I4 q.lo,I4 q.hi])<|A6<|A1<|Zl isAgg66 Y<|Zh 0 N4 V rfl AE Y<|Zl AH Y<|Zh 1 N4 V rfl AE Y<|Zl AH Y<|Zh 2 N4 V rfl AE Y<|Zl AH Y<|Zh 3 N4 V rfl AE Y<|Zl AH Y<|Zc [_,_,_,_,_] Y call60 Y V (kR _ p rs s hv q.tb q.cl q.lo q.hi d9) ?_;rintro _ _ ⟨_,⟨s1,h1,rfl⟩,rfl⟩;rw [show Dr rs q.tb q.cl.toNat q.lo q.hi=CR rs q from rfl]at h1 o9;obtain ⟨p1,c1,rfl⟩:=h1.form;obtain ⟨p7,pg,e7,⟨qa,pq⟩,l5⟩:=id (DY h1 A0);injection e7 with e71 e72 e73
 subst e71 e73;refine AW Y<|Zn [3,6,7,8,9] ?_;refine Zx<|Zq<|A1<|Zm Y<|Zv (Ac C1 Y)<|Zv (DR (n:=100) Y Y)<|A6<|Aw Y (fun kv=>by omega)<|fun kv=>AC<|Zx<|Zq<|Bc<|Zg<|Zm Y<|Zo Wh (AB (cs:=#[_,_,_,_]) isAgg190 cV Y B5 B0)<|Zc [_] Y call89 Y V (zB _ p rs s hv hs hn gq q.tb q.cl q.lo q.hi hq.1 d9 hq.2.2.1.2.1 Tg zg bs bo (Z:=[]) (Bj 9 _) (C7 _)) ?_;rintro _ _ ⟨_,⟨rfl,z0,Dy,g0,c0,ax,j3,U,O,rfl⟩,rfl⟩;refine A6<|Zb [3,7,9,6] ?_;refine CW (e0:=[(3,_),(7,_),(9,_)]) (H0:=[[(bo,.cells #[.slice g0 (([]:List RPZ).length+1) c0] 41 (0,0))],ax,Dy]) (fun e H=>∃(Z:List RPZ) (g:B8) (c:Nat) (I B:List A9),(Z.map RPZ.x=Ff rs q/\(∀z∈Z,z.ok B)/\Bd 9 171 (.slice g Z.length c) Z.length (Z.flatMap Em) I/\Z.length<=1000)/\e=[]/\H=[[(bo,.cells #[.slice g Z.length c] 41 (0,0))],I,B]) Wp ?hx_1 ?hy_1
 case hx_1=>
  refine A1<|Zh 0 CN V rfl AE Y<|Zl AH Y<|Zv (CP Y Y)<|A6<|Aw Y (fun af=>?_) (fun af=>?_);·
   refine A1<|Zm Y<|Zv (Ac C1 Y)<|Zm Y<|A6<|AQ<|Zb [43,3,6,7,41,42] ?_;refine BI (e0:=[(43,_)]) (fun m e H=>∃(k:Nat) (Z:List RPZ) (g:B8) (c:Nat) (I B:List A9),m=(CR rs q).length -k/\(k<=(CR rs q).length/\Z.map RPZ.x=Et rs q.tb.toNat q.cl.toNat q.lo q.hi::((CR rs q).take k).map (fun r=>Et rs q.ot.toNat 0 (Bl r q.bq) (Bl r q.bq))/\(∀z∈Z,z.ok B)/\Z.length=k+1/\Bd 9 171 (.slice g Z.length c) Z.length (Z.flatMap Em) I)/\e=[(43,I4 (k:Int))]/\H=[[(bo,.cells #[.slice g Z.length c] 41 (0,0))],I,B]) (by exact ⟨0,[z0],g0,c0,ax,Dy,rfl,⟨C7 _,by rw [IF,JT,Lo,j3],fun z hz=>by rw [C5.1 hz];exact U,rfl,O⟩,rfl,rfl⟩) Wp ?_;rintro _ _ _ ⟨k,Z,g,c,I,B,rfl,⟨hk,G,J,bn,K⟩,rfl,rfl⟩;refine A1<|Zv (Ay Y Y)<|A6<|Zq<|Aw Y (fun gm=>?_) (fun gm=>?_);·
    obtain ⟨X,gy⟩:∃X,(CR rs q)[k]?=some X:=⟨_,BT gm⟩;obtain ⟨g8,off,cur,T,zz,rfl,l8,q9,dn⟩:=l5 k X gy;refine AC<|Zx<|Zq<|AQ<|A1<|BU (Ae C1 B3 Y Y A0)<|CS (cs:=[(g8,.cells cur T zz)]) (by simp [l8]) (AB (cs:=X.A71) D0 B3 Y A0 dn) V rfl<|Ze (Al F0 #[_,_,_,_,_])<|AG fun bx=>Xe (Xw B3 X.A71)<|A6<|Zg<|Zm Y<|Zo Wh (AB (cs:=#[_,_,_,_,_,_,_]) F1 CM Y B5 B0)<|Zo Wh (AB (cs:=#[_,_,_,_,_]) D0 B3 Y B5 B0)<|Xr [_,_] Y call92 Y V (Sn q l9 X)<|Zc [_] Y call89 Y V (zB _ p rs s hv hs hn gq q.ot 0 (Bl X q.bq) (Bl X q.bq) o8 A0 (V2 _) Tg zg bs bo K A0) ?_;rintro _ _ ⟨_,⟨rfl,z5,W,g5,c5,p9,p8,j5,ic,rfl⟩,rfl⟩;refine Z0<|A8<|Zx<|Cb (s1:=W) (s2:=B) Wo Wo ?_;refine Zg<|Ya (n:=1) Y Y<|Zm Y<|Z0<|Zn [43,3,6,7,41,42] ?_;refine Aa (e':=[(43,_)]) (by exact ⟨k+1,Z++[z5],g5,c5,p9,W++B,rfl,⟨by omega,by rw [C0,G,Bn gy,C0,Lo,p8];rfl,fun z hz=>by rcases C2.1 hz with h9|h9;exact (J z h9).mono (fun c hc=>G2 _ hc);rw [C5.1 h9];exact j5.mono (fun c hc=>Ek _ hc),by rw [Bm,bn];rfl,by rw [Bm];exact ic⟩,rfl,by rw [Bm]⟩)
   have ek:k=(CR rs q).length:=by omega
   subst ek;rw [G3]at G;refine BD<|Zt<|Zt<|AV<|Zn [6] ?_;refine Av (e':=[]) (by exact ⟨Z,_,_,I,B,⟨by unfold Ff;rw [Ax af];exact G,J,K,by omega⟩,rfl,rfl⟩)
  refine AC<|Zn [6] ?_;refine Av (e':=[]) (by exact ⟨[z0],g0,c0,ax,Dy,⟨by unfold Ff;rw [As af,Lo,j3],fun z hz=>by rw [C5.1 hz];exact U,O,by simp⟩,rfl,rfl⟩)
 rintro _ _ ⟨Z,g,c,I,B,⟨G,J,K,bn⟩,rfl,rfl⟩;refine Zq<|Cb (s1:=I) (s2:=B) Wo Wo ?_;refine Zg<|Zl SP Y<|Za Y<|A5 Y<|AJ<|DJ rfl results43 Y Y (by exact ⟨.slice g Z.length c,I++B,rfl,by rw [<-G];exact qQ K A0 J,rfl⟩)
set_option maxHeartbeats 1000000 in
theorem qy{p9:B8}{m:Nat}(hL:GI M (.slice p9 (L.length+1) m) (x::L))(G:Gb x){c lo hi:Int}(B:x.scan=(t,c,lo,hi))(U:Nat):BR prog 130 #[I5 U,.agg #[I4 t,I4 c,I4 lo,I4 hi]] [[(U,.cells #[.slice p9 (L.length+1) m] 238 (0,0))],M] (fun r H'=>∃O,Bd 5 80 r (ER x).length (Af (ER x)) O/\H'=[O,[(U,.cells #[.slice (Ea p9 1 m 9) L.length (m -1)] 238 (0,0))],M]):=by
 have cO:=mL;obtain ⟨p8,bn,e9,W,J⟩:=hL.form;injection e9 with e91 e92 e93
 subst e91 e93;rw [E3]at W J;obtain ⟨z,ax,af,g,off,cur,T,zz,rfl,X,cu,I⟩:=hL.at (i:=0) rfl;subst ax;unfold RP.scan at B;injection B with hd1 B
 injection B with hd2 B
 injection B with hd3 hd4
 refine Se func130 ntmps130 [0,1] ?_;intro u R;refine A1<|Ze (Bx #[_,_,_,_])<|AG fun bx=>A5 Y<|A1<|Zm Y<|Zp Y V<|Zh 0 fk V rfl My Y<|Zl SP Y ?_;refine Zv (Ac W3 Y)<|Zv (DR (n:=0) Y Y) ?_;rw [DG (show(0:Nat)<L.length+1 by omega)];refine Xr [_] Y call129 Y V (KY) ?_;refine A6<|A1<|Zm Y<|Zp Y V<|Zh 0 fk V rfl My Y<|Zl SP Y ?_;refine BU (Ae (j:=0) W3 Mu Y Y A0)<|CS (cs:=[(g,.cells cur T zz)]) (by simp [X]) (AB (cs:=#[_,_,_,_,_,_,_,_,_]) isAgg171 Mu Y A0 I) V rfl ?_;refine Ze (Al cT #[_,_,_,_,_,_,_,_,_])<|AG fun bp=>Xe (Xw Mu #[I4 z.x.tb,I4 z.x.cl,I4 z.x.lo,I4 z.x.hi,I4 z.x.ct,I4 z.x.fi,.slice z.qr z.x.rows.length z.cr,.slice z.qp z.x.paths.length z.cp,.slice z.qt z.x.roots.length z.ct]) ?_;refine Z0<|Zn [0,3,5] ?_;refine Zx<|A1<|Zm Y<|Zm Y<|Zp Y V<|Zh 0 fk V rfl My Y<|Zl SP Y ?_;refine BU (C8 (l:=1) W3 Mu Y Y A0)<|Zp Y V<|Zh 0 fk V rfl My Y<|Xe (Zs My Y Y V (hi:=by(simp;done))) ?_;refine A6<|A1<|Zh 0 E4 V rfl AE Y<|Zl AH Y (hv:=by exact (V:_=some (Value.int .i64 z.x.tb))) ?_;refine Zh 1 E4 V rfl AE Y<|Zl AH Y (hv:=by exact (V:_=some (Value.int .i64 z.x.cl))) ?_;refine Zh 2 E4 V rfl AE Y<|Zl AH Y (hv:=by exact (V:_=some (Value.int .i64 z.x.lo))) ?_;refine Zh 3 E4 V rfl AE Y<|Zl AH Y (hv:=by exact (V:_=some (Value.int .i64 z.x.hi))) ?_;refine Zv (BM (vs:=[(0,I4 z.x.tb),(1,I4 z.x.cl),(2,I4 z.x.lo),(3,I4 z.x.hi)]) (cs:=#[I4 z.x.tb,I4 z.x.cl,I4 z.x.lo,I4 z.x.hi]) Y (AY (pl:=#[(0,1),(1,1),(2,1),(3,1)]) kA N4 (fun _=>by kernel_rfl) AF))<|Zo Wh (AB (cs:=#[_,_,_,_]) isAgg190 cV Y B5 B0) ?_;refine Zv (Yx AF N4 AF B1 B1 B1 B1 D4 AH Y Y) ?_;rw [DG (show z.x.tb=t/\z.x.cl=c/\z.x.lo=lo/\z.x.hi=hi from⟨hd1,hd2,hd3,hd4⟩)];refine Xr [_] Y call129 Y V (KY) ?_;refine Z0<|Zn [5] ?_;refine Zx<|A1<|Zo Wh (AB (cs:=#[_,_,_,_,_,_,_,_,_]) isAgg171 Mu Y B5 B0) ?_;refine Zc [_] Y call186 Y V (rL af.rp G V) ?_;rintro _ _ ⟨_,⟨vr,O,rfl,K,rfl⟩,rfl⟩;obtain ⟨gr,c9,rfl⟩:=K.form
 refine Zm Y<|Zd Y V<|Zd Y V<|Za Y<|A5 Y<|A1<|Zm Y<|Xr [_] Y call129 Y V (KY) ?_;refine A6<|A1<|Zm Y<|A5 Y<|AJ<|AP V results130 Y (by exact ⟨O,K,V⟩)
theorem Oa(h:Gb x):(ER x).length<=2000/\∀r∈ER x,r.ok:=by
 have B:=h.ct;have h2:=h.fi
 have G:=h.n;rw [dN h];refine ⟨by have:=Of (inB x) x.rows;omega,fun r m=>?_⟩;obtain ⟨j,g⟩:=HH (Fc.1 m).1;exact (h.all j r g).1.1
theorem gP{α:Type}{l:List α}{k:Nat}{x:α}(h:l[k]?=some x):l.drop k=x::l.drop (k+1):=by
 obtain ⟨g,rfl⟩:=C4.1 h;exact RR g
set_option maxHeartbeats 1000000 in
theorem Wl(hL:GI M v L)(q:QM)(hr:Eo q L=some r):BR prog 79 #[.agg q.A72,v] [M] (fun w H'=>∃rv sr,w= .tuple #[.agg #[rv,I4 r.val,.bool r.fnd],.bool true]/\Bd 5 80 rv r.rows.length (Af r.rows) sr/\H'=[sr,M]):=by
 have sJ:=mL;obtain ⟨x,L2,rfl,hq,qb,K,p9,J⟩:=QT hr;obtain ⟨pv,cv,rfl,_⟩:=hL.form;rw [E3]at hL;rw [E3];have hT:=hL.tail
 rw [Rg]at hT;have pz:0<=q.bq/\q.bq<=3:=by have:=hq.2.2.2;omega
 refine DU func79 V ntmps79 V ?_;intro u R;refine Zb [0,1] ?_;refine A1<|Ze (Bx q.A72)<|AG fun bq=>Ze (Al Ge #[_,_,_])<|AG fun bo=>Ze (Al W6 #[_])<|AG fun bk=>A6<|A1<|Zv (Bg (vs:=[]) (us:=[_,_]) Y Y)<|lu V Y ?_;refine A6<|A1<|Xe (Zs DM Y Y V (hi:=by decide))<|A6<|A1<|ed V Y ?_;refine A6<|A1<|Zo Wh (AB (cs:=#[_,_,_,_,_,_,_]) F1 CM Y B5 B0)<|Xr [_] Y call29 Y V (Jd q) ?_;rw [DG hq];refine Xr [_] Y call129 Y V (KY)<|A6<|A1<|Zm Y<|Zv (BM (vs:=[(0,_)]) (cs:=#[_]) Y (AY (pl:=#[(0,1)]) zeroValue238 fk (fun _=>by kernel_rfl) V))<|Ze (Bx #[_])<|AG fun br=>AW Y<|Zn [2,4,5,6] ?_;refine Zx<|A1<|Zm Y<|Zo Wh (AB (cs:=#[_,_,_,_,_,_,_]) F1 CM Y B5 B0)<|Xr [_] Y call91 Y V (pD q hq)<|Zc [_,_] Y call130 Y V (qy hL K qb br) ?_;rintro _ _ ⟨_,⟨sr,j5,rfl⟩,rfl⟩;obtain ⟨gr,qz,rfl⟩:=j5.form;have gm:=DY j5 A0
 obtain ⟨p7,ql,e7,⟨sw,qo⟩,p8⟩:=id gm;injection e7 with e71 e72 e73
 subst e71 e73;refine A5 Y<|A1<|Zm Y<|Zv (Ac C1 Y)<|Zv (lZ (n:=100) Y Y) ?_;rw [DG (show(ER x).length<=100 by omega)];refine Xr [_] Y call129 Y V (KY)<|A6<|Zq<|Bc<|Zg<|A5 Y<|Zb [8,2,4,5,6,7] ?_;refine CW (e0:=[(8,_)]) (H0:=[[(br,.cells #[_] 238 (0,0))],[]]) (fun e H=>∃(o:List AR) (vo:A4) (so:List A9) (pr:B8) (cr:Nat),(r=FR q (ER x) o/\Bd 5 80 vo o.length (Af o) so/\o.length<=200000)/\e=[(8,vo)]/\H=[[(br,.cells #[.slice pr 0 cr] 238 (0,0))],so]) Wp ?hx_1 ?hy_1
 case hx_1=>
  refine A1<|Zh 0 CN V rfl AE Y<|Zl AH Y<|Zv (CP Y Y)<|A6<|Aw Y (fun cu=>?_) (fun cu=>?_);·
   obtain ⟨O,X,ax⟩:∃o,Er q (ER x) L2=some (o,[])/\r=FR q (ER x) o:=by rcases J with⟨h9,_⟩|⟨_,h9⟩;exact absurd cu h9;exact h9
   refine A1<|Zm Y<|Zv (Ac C1 Y)<|Zm Y<|A6<|AQ<|Zb [8,31,2,4,5,6,7,29,30] ?_;refine BI (e0:=[(8,_),(31,_)]) (fun m e H=>∃(k:Nat) (o:List AR) (l9:List RP) (vo:A4) (so:List A9) (pr:B8) (cr:Nat),m=(ER x).length -k/\(k<=(ER x).length/\Er q ((ER x).take k) L2=some (o,l9)/\Bd 5 80 vo o.length (Af o) so/\GI M (.slice pr l9.length cr) l9/\o.length<=2000*k)/\e=[(8,vo),(31,I4 (k:Int))]/\H=[[(br,.cells #[.slice pr l9.length cr] 238 (0,0))],so]) (by exact ⟨0,[],L2,.slice none 0 0,[],_,_,V,⟨C7 _,V,Bj 5 _,hT,C7 _⟩,V,V⟩) Wp ?_;rintro _ _ _ ⟨k,o,l9,vo,so,pr,cr,rfl,⟨hk,G,I,bn,sM⟩,rfl,rfl⟩;obtain ⟨go,co,rfl⟩:=I.form;refine A1<|Zv (Ay Y Y)<|A6<|Zq<|Aw Y (fun ic=>?_) (fun ic=>?_);·
    obtain ⟨r9,cO⟩:∃r9,(ER x)[k]?=some r9:=⟨_,BT ic⟩;obtain ⟨g,off,cur,T,zz,rfl,pq,qw,gq⟩:=p8 k r9 cO;obtain ⟨o8,l8,U,o9,d9,_⟩:=Oh (ER x) k L2 (O,[]) A0 X;rw [G]at U;injection U with U
    injection U with h83 h84
    subst h83 h84;rw [gP cO]at d9;obtain ⟨a9,c9,dn,_,_⟩:=Lu d9;obtain ⟨x2,gy,j3,B,W⟩:=SQ dn;have pg:=(Oa B).1
    have qj:=Qa (ER x) k r9 L2 _ _ a9 cO G dn;rw [gy,E3];rw [gy,E3]at bn;refine AC<|Zx<|Zq<|AQ<|A1<|BU (Ae C1 B3 Y Y A0)<|CS (cs:=[(g,.cells cur T zz)]) (by simp [pq]) (AB (cs:=r9.A71) D0 B3 Y A0 gq) V rfl<|Ze (Al F0 #[_,_,_,_,_])<|AG fun bx=>Xe (Xw B3 r9.A71)<|A6<|Zg<|Zm Y<|Zm Y<|Zo Wh (AB (cs:=#[_,_,_,_,_,_,_]) F1 CM Y B5 B0)<|Zo Wh (AB (cs:=#[_,_,_,_,_]) D0 B3 Y B5 B0)<|Xr [_,_] Y call92 Y V (Sn q pz r9)<|Zc [_,_] Y call130 Y V (qy bn B j3 br) ?_;rintro _ _ ⟨_,⟨s5,h5,rfl⟩,rfl⟩;rw [<-W]at h5;obtain ⟨g5,c5,rfl⟩:=h5.form;refine Ze (BV (by_:=40) (sz:=5) C1 (rfl:Tryz.prog.info? 80=some Tryz.t80) rfl rfl rfl rfl Y (I) Y (j6 h5) Wo Wo (by exact CV _) (by rw [W];omega) (by rw [W];omega)) ?_;rintro _ _ ⟨vz,af,rfl⟩;obtain ⟨sj,qx,rfl⟩:=af.form;refine AW Y<|Zn [2,4,5,6,7,8,29,30,31] ?_;refine A8<|Zx<|Zg<|Ya (n:=1) Y Y<|Zm Y<|Z0<|Zn [8,31,2,4,5,6,7,29,30] ?_;refine Aa (e':=[(8,_),(31,_)]) (by exact ⟨k+1,o++a9.1,a9.2,_,_,_,_,rfl,⟨by omega,qj,BZ af (by rw [Bm]) (by rw [Bo]),bn.tail,by rw [Bm,W];omega⟩,rfl,rfl⟩)
   have ek:k=(ER x).length:=by omega
   subst ek;rw [G3,X]at G;injection G with G
   injection G with hrd1 hrd2
   subst hrd1 hrd2;have ve:=ax
   refine BD<|Zt<|Zt<|AV<|Zn [8,2,4,5,6,7] ?_;refine Av (e':=[(8,_)]) (by exact ⟨O,.slice go O.length co,so,pr,cr,⟨ax,I,by omega⟩,V,V⟩)
  obtain ⟨kv,qa⟩:L2=[]/\r=FR q (ER x) []:=by rcases J with⟨_,h9⟩|⟨h9,_⟩;exact h9;exact absurd h9 cu
  subst kv;refine AC<|Zn [8,2,4,5,6,7] ?_;refine Av (e':=[(8,_)]) (by exact ⟨[],.slice none 0 0,[],Ea pv 1 cv 9,cv -1,⟨qa,Bj 5 _,C7 _⟩,V,V⟩)
 rintro _ _ ⟨o,vo,so,pr,cr,⟨q9,I,sO⟩,rfl,rfl⟩;obtain ⟨go,co,rfl⟩:=I.form;have l5:=DY I A0
 refine A1<|Zm Y<|Zp Y V<|Zh 0 fk V rfl My Y<|Zl SP Y<|Zv (Ac W3 Y)<|Zv (Ci (n:=0) Y Y) ?_;rw [DG (show(0:Nat)=0 from rfl)];refine Xr [_] Y call129 Y V (KY)<|A6<|A1<|Zo Wh (AB (cs:=#[_,_,_,_,_,_,_]) F1 CM Y B5 B0)<|Zm Y<|Zm Y<|Zc [_,_,_] Y call59 Y V (uX gm l5 q A0 (fun _ r hr=>WZ ((Oa K).2 r hr) q.bq)) ?_;rintro _ _ ⟨_,⟨vw,s3,rfl,h3,rfl⟩,rfl⟩;rw [PE hq,<-q9]at h3⊢;obtain ⟨p3,c3,rfl⟩:=h3.form;refine Xe (Xw B9 #[.slice p3 r.rows.length c3,I4 r.val,.bool r.fnd])<|Xe (Zs DM Y Y V (hi:=by decide))<|Z0<|Zn [4,5] ?_;refine Zx<|AJ<|si V rfl call128 (yT _) V call127 (ze bk _) Wp ?_;rintro _ rfl;refine ⟨_,[s3,M],fun a w hf hs=>UQ results79 ((CY a _ hf 4).trans rfl) (Au Cd B9 (by exact CI _) (cs:=#[.slice p3 r.rows.length c3,I4 r.val,.bool r.fnd]) (BN rfl) w (aH (b:=bo) Wh hs)) ((CY a _ hf 5).trans rfl) (M8 Fk (v:= .bool true) (i:=0) rfl w (aH (b:=bk) Wh hs)),⟨_,s3,rfl,h3,rfl⟩,Sub.amid (by repeat(first|exact Sub.refl _|exact Sub.nil _|(apply Sub.cons;(focus (repeat(first|exact One.here _ _|apply One.there))))|refine Sub.drop _ ?_))⟩
theorem Nr{α:Type}(f:α->List A4)(sz:Nat)(W:∀a,(f a).length=sz)(h0:0<sz){l:List α}(X:∀(i:Nat) (a:α),l[i]?=some a->∃g off cur T zz,p=some ⟨g,off,none⟩/\(g,Obj.cells cur T zz)∈M/\off+i*sz+sz<=cur.size/\cur.extract (off+i*sz) (off+i*sz+sz)=(f a).toArray):FM M p (l.flatMap f):=by
 intro j u J;have B:(l.flatMap f).length=l.length*sz:=by
  clear X J;induction l with
  |nil=>simp
  |cons a l ih=>rw [HW,Bm,ih,W,E3,Kf];omega
 have m:=(C4.1 J).1;rw [B]at m;have hd:=Nat.div_add_mod j sz
 have hm:=fh j h0;have hi:j/sz<l.length:=o4 (by rw [my];exact m)
 obtain ⟨a,U⟩:∃a,l[j/sz]?=some a:=⟨_,BT hi⟩;obtain ⟨g,off,cur,T,zz,rfl,G,K,I⟩:=X (j/sz) a U;refine ⟨g,off,cur,T,zz,V,G,?_⟩;have h1:=PI I K (j%sz) hm
 have h2:=J2 f sz W l (j/sz) a U;have e1:j/sz*sz+j%sz=j:=by rw [my];exact hd
 have O:(l.flatMap f)[j/sz*sz+j%sz]?=(f a)[j%sz]?:=by rw [<-h2,HI,Ax hm,RW]
 rw [e1,J]at O;rw [show off+j=off+j/sz*sz+j%sz by omega,h1,dc];exact O.symm
theorem jv(h:ZsU M (.slice p n cap) Z):FM M p (Z.flatMap Em):=by
 obtain ⟨B,g,e,_,m⟩:=h;injection e with e1 e2 e3
 subst e1;exact Nr _ 9 (fun _=>rfl) B1 fun i z hz=>(m i z hz).2
theorem dV(h:Ec M (.slice p n cap) l):FM M p (Du l):=by
 obtain ⟨B,g,e,_,m⟩:=h;injection e with e1 e2 e3
 subst e1;exact Nr _ 2 (fun _=>rfl) B1 fun i z hz=>(m i z hz).2
theorem UT(l:List BQ):(Du l).length=l.length*2:=by
 induction l with
 |nil=>rfl
 |cons a l ih=>unfold Du at*;rw [HW,Bm,ih];simp only [E3,KK];omega
theorem X3(l:List BQ):∀u∈Du l,u.oneCell'=true:=by
 intro u g;obtain ⟨z,_,h⟩:=S1.1 g;simp only [DB,Pc,OR]at h;rcases h with rfl|rfl<;>rfl
structure bQ where
 q:QM
 res:CB
 since:Int
 until_:Int
 base:Int
 ranges:List RP
 recs:List BQ
structure Xx where
 a:bQ
 rp:B8
 rc:Nat
 gp:B8
 gc:Nat
 cp:B8
 cc:Nat
abbrev Xx.A73(c:Xx):Array Go.Value:=#[I4 c.a.q.kd,I4 c.a.q.tb,I4 c.a.q.cl,I4 c.a.q.lo,I4 c.a.q.hi,I4 c.a.q.bq,I4 c.a.q.ot,.slice c.rp c.a.res.rows.length c.rc,I4 c.a.res.val,.bool c.a.res.fnd,I4 c.a.since,I4 c.a.until_,I4 c.a.base,.slice c.gp c.a.ranges.length c.gc,.slice c.cp c.a.recs.length c.cc]
def Xx.ok(M:List A9)(z:Xx):Prop:=EB M (.slice z.rp z.a.res.rows.length z.rc) z.a.res.rows/\GI M (.slice z.gp z.a.ranges.length z.gc) z.a.ranges/\Ec M (.slice z.cp z.a.recs.length z.cc) z.a.recs
theorem Lt(h:Ec M v l)(K:∀c∈M,c∈M'):Ec M' v l:=by
 obtain ⟨p,cap,e,U,O⟩:=h;refine ⟨p,cap,e,U,fun i r W=>?_⟩;obtain ⟨⟨X,cap2,e2,J,I⟩,g,off,cur,T,zz,m,B,G⟩:=O i r W;refine ⟨⟨X,cap2,e2,J,fun j c hc=>?_⟩,g,off,cur,T,zz,m,K _ B,G⟩;obtain ⟨g,off,cur,T,zz,m,B,G⟩:=I j c hc;exact ⟨g,off,cur,T,zz,m,K _ B,G⟩
theorem Xx.ok.mono{z:Xx}(h:z.ok M)(g:∀c∈M,c∈M'):z.ok M':=⟨h.1.mono g,h.2.1.mono g,Lt h.2.2 g⟩
noncomputable def K3(q:QM)(base:Int)(L:List RP)(recs:List BQ):Option bQ:=(Eo q L).bind fun r=>if recs.length<=64 then(GN q base 0 (r,base) recs).map fun st=>⟨q,st.1,st.2,base+(recs.length:Int),base,L,recs⟩else none
variable{base:Int}
theorem iG{recs:List BQ}(h:¬recs.length<=64):K3 q base L recs=none:=by
 unfold K3;cases Eo q L with
 |none=>rfl
 |some r=>rw [J1,As h]
theorem QP{recs:List BQ}(g:Eo q L=some r)(h:recs.length<=64):K3 q base L recs=(GN q base 0 (r,base) recs).map fun st=>⟨q,st.1,st.2,base+(recs.length:Int),base,L,recs⟩:=by
 unfold K3;rw [g,J1,Ax h]
theorem Ls(h:(BB q r base l).2.2=true):GN q base 0 (r,base) l=some ((BB q r base l).1,(BB q r base l).2.1):=by
 unfold BB at*;split at h;· rename_i st h9;rw [h9]
 · cases h
theorem YU(h:(BB q r base l).2.2=false):GN q base 0 (r,base) l=none:=by
 unfold BB at*;split at h;· cases h
 · rename_i h9;exact h9
theorem jb(hq:BK q){rows g:List AR}(hl:rows.length<=100)(I:∀r∈rows,r.ok):(FR q rows g).rows.length<=200/\-1000000000000000000<=(FR q rows g).val/\(FR q rows g).val<=1000000000000000000:=by
 have G:=jQ (q:=q) (rows:=rows) (fun r hr=>WZ (I r hr) q.bq);have B:(D5 q rows).length<=1000000000:=by rw [KP];omega
 have hj:=TR q rows g;have O:∀(lt:Int->Int->Bool) (hlt:∀a b c,lt b a=false->lt c b=false->lt c a=false) (hirr:∀a,lt a a=false) (hasy:∀a b,lt a b=true->lt b a=false),(EY lt (D5 q rows)).rows.length<=200/\-1000000000000000000<=(EY lt (D5 q rows)).val/\(EY lt (D5 q rows)).val<=1000000000000000000:=fun lt U W X=>by
  cases hms:D5 q rows with
  |nil=>exact ⟨C7 _,by show(_:Int)<=0;decide,by show(0:Int)<=_;decide⟩
  |cons z ms=>
   obtain ⟨x,J,_,K⟩:=KW lt U W X z ms;rw [K];rw [hms]at G;have:=G x J
   exact ⟨C7 _,by show _<=x;omega,by show x<=_;omega⟩
 have m:=j4 G B (D5 q rows).length;rw [G3]at m;unfold FR;split;· exact ⟨C7 _,by simp only;omega,by simp only;omega⟩
 · split
   · exact ⟨C7 _,m⟩
   · split
     · exact O _ (fun a b c h1 h2=>by simp only [MD]at*;omega) (fun a=>by simp) (fun a b h=>by simp only [GO,MD]at*;omega)
     · split
       · exact O _ (fun a b c h1 h2=>by simp only [MD]at*;omega) (fun a=>by simp) (fun a b h=>by simp only [GO,MD]at*;omega)
       · split
         · exact ⟨by simp only;omega,by simp only;decide,by simp only;decide⟩
         · exact ⟨by simp only;omega,by simp only;decide,by simp only;decide⟩
theorem Me{sz:Nat}{e:AM}{xs:List A4}(h:Bd sz e v n xs s):n<=maxLen:=by
 obtain ⟨_,⟨_,h0,_⟩|⟨_,_,_,_,_,_,g,h2,_⟩⟩:=h;· omega
 · omega
theorem OL(h:Eo q L=some r):BK q/\r.rows.length<=200/\-1000000000000000000<=r.val/\r.val<=1000000000000000000:=by
 obtain ⟨x,G,_,g,_,hc,m,B⟩:=QT h;refine ⟨g,?_⟩;rcases B with⟨_,_,rfl⟩|⟨_,o,_,rfl⟩
 · exact jb g m (Oa hc).2
 · exact jb g m (Oa hc).2
theorem Ld(hv:ZsU M v Z)(hb:Z.length<=1000000):BR prog 75 #[v] [M] (fun r H'=>∃K,Bd 9 171 r Z.length (Z.flatMap Em) K/\H'=[K,M]):=by
 have X:=mL;have B:=hv
 obtain ⟨p,cap,rfl,⟨hl,W⟩,U⟩:=id hv;replace B:=jv B;refine Se func75 ntmps75 [0] ?_;intro u R;refine A1<|A5 Y<|Zq<|A1<|Zm Y<|Zv (Dq W3 Y Y)<|A6<|AU Y (fun J=>?_) (fun J=>?_);·
  have G:p=none:=by cases p with
   |none=>rfl
   |some x=>cases J
  have h0:Z=[]:=by
   cases Z with
   |nil=>rfl
   |cons x l=>obtain ⟨_,g,off,cur,T,zz,I,_⟩:=U 0 x rfl;rw [G]at I;cases I
  refine Zq<|Bc<|Zg<|A5 Y<|AJ<|Zt<|AP rfl results75 Y (by exact ⟨[],by rw [h0];exact Bj 9 _,rfl⟩)
 refine AC<|Zx<|A1<|Ze (EQ W3 Mu)<|AG fun O=>Zm Y<|Ze (HY (by_:=120) (sz:=9) W3 (V:Tryz.prog.info? 171=some Tryz.t171) V rfl V rfl Y (IR 9 171 O 0 [] V B1) Y (B) (by exact tj _) B1 Wo Wo (by exact yw _) A0 A0) ?_;rintro _ _ ⟨af,m,rfl⟩;replace m:=BZ m (D3 _) (Kx _);refine A5 Y<|AJ<|AP V results75 Y (by exact ⟨_,m,V⟩)
theorem IE{Z:List BQ}(hv:Ec M v Z)(hb:Z.length<=1000000):BR prog 46 #[v] [M] (fun r H'=>∃K,Bd 2 57 r Z.length (Du Z) K/\H'=[K,M]):=by
 have X:=mL;have B:=hv
 obtain ⟨p,cap,rfl,⟨hl,W⟩,U⟩:=id hv;replace B:=dV B;refine Se func46 ntmps46 [0] ?_;intro u R;refine A1<|A5 Y<|Zq<|A1<|Zm Y<|Zv (Dq HF Y Y)<|A6<|AU Y (fun J=>?_) (fun J=>?_);·
  have G:p=none:=by cases p with
   |none=>rfl
   |some x=>cases J
  have h0:Z=[]:=by
   cases Z with
   |nil=>rfl
   |cons x l=>obtain ⟨_,g,off,cur,T,zz,I,_⟩:=U 0 x rfl;rw [G]at I;cases I
  refine Zq<|Bc<|Zg<|A5 Y<|AJ<|Zt<|AP rfl results46 Y (by exact ⟨[],by rw [h0];exact Bj 2 _,rfl⟩)
 refine AC<|Zx<|A1<|Ze (EQ HF GC)<|AG fun O=>Zm Y<|Ze (HY (by_:=32) (sz:=2) HF (V:Tryz.prog.info? 57=some Tryz.t57) V rfl V rfl Y (IR 2 57 O 0 [] V B1) Y (B) (by exact UT _) B1 Wo Wo (by exact X3 _) A0 A0) ?_;rintro _ _ ⟨af,m,rfl⟩;replace m:=BZ m (D3 _) (Kx _);refine A5 Y<|AJ<|AP V results46 Y (by exact ⟨_,m,V⟩)
set_option maxHeartbeats 1000000 in
theorem vO(q:QM)(te base:Int)(hb:-1000000000000<=base/\base<=1000000000000){pg:B8}{cg:Nat}(hL:GI M (.slice pg L.length cg) L)(j5:L.length<=1000000)(hr:Eo q L=some r){lv:A4}(O:Ec M lv l)(dn:∀x∈l,x.cs.length<=1000):BR prog 56 #[.agg #[I4 q.kd,I4 q.tb,I4 q.cl,I4 q.lo,I4 q.hi,I4 q.bq,I4 q.ot,I4 te,I4 base,.slice pg L.length cg],lv] [M] (fun w H'=>(∃(z:Xx) (s3 s1 s2:List A9),K3 q base L l=some z.a/\z.ok (s3++(s1++(s2++M)))/\w= .tuple #[.agg z.A73,.bool true]/\H'=[s3,s1,s2,M])\/(K3 q base L l=none/\w= .tuple #[.agg #[I4 0,I4 0,I4 0,I4 0,I4 0,I4 0,I4 0,.slice none 0 0,I4 0,.bool false,I4 0,I4 0,I4 0,.slice none 0 0,.slice none 0 0],.bool false]/\H'=[M])):=by
 have l8:=mL;obtain ⟨hq,l9,gy⟩:=OL hr;obtain ⟨pl,cl,rfl,kv,l5⟩:=id O;obtain ⟨Z,hZ,W⟩:=id hL;have U:Z.length=L.length:=by rw [<-W,B6]
 obtain ⟨pz,cz,ez,_,ic⟩:=id hZ;refine Se func56 ntmps56 [0,1] ?_;intro u R;refine A1<|Ze (Bx #[I4 q.kd,I4 q.tb,I4 q.cl,I4 q.lo,I4 q.hi,I4 q.bq,I4 q.ot,I4 te,I4 base,.slice pg L.length cg])<|AG fun be=>Ze (Al Mp #[_,_,_,_,_,_,_,_,_,_,_,_,_,_,_])<|AG fun bo=>A5 Y<|A1<|Zh 0 GB V rfl CM Y<|Zo Wh (AB (cs:=#[_,_,_,_,_,_,_]) F1 CM Y B5 B0) ?_;refine Zh 9 GB V rfl My Y<|Zl SP Y ?_;refine Zc [_,_] Y call79 Y V (Wl hL q hr) ?_;rintro _ _ ⟨_,⟨o8,s0,rfl,h0,rfl⟩,rfl⟩;obtain ⟨p0,c0,rfl⟩:=h0.form;have d9:=DY h0 A0
 refine Zm Y<|Zd Y V<|Zd Y V<|Ze (Al Ge #[_,_,_])<|AG fun bs=>Xe (Xw B9 #[.slice p0 r.rows.length c0,I4 r.val,.bool r.fnd]) ?_;refine AW Y<|Zn [1,2,4,6,7] ?_;refine Zx<|Zq<|A1<|Zm Y<|Zv (Bt Y)<|Zm Y<|Ah (t:=19) Y V (fun X=>by cases X)<|fun X=>Zf Y Y<|Yg (Ac HF Y)<|Yg (DR (n:=64) Y Y)<|Zv (AL Y Y)<|A6<|Aw Y (fun af=>?_) (fun af=>?_);·
  refine A1<|Zv (BM (vs:=[]) (cs:=#[_,_,_,_,_,_,_,_,_,_,_,_,_,_,_]) Y (AY (pl:=#[(0,7),(7,3),(10,1),(11,1),(12,1),(13,1),(14,1)]) Mp N5 (fun _=>by kernel_rfl) rfl))<|Xe (BL Lk Y Y Hb Wu (by exact EI rfl) FA B1 (by exact BC _)) ?_;refine A5 Y<|AJ<|Zt<|CL V results56 Y Wh (Au isAgg63 Lk Wn (BN V)) Y (by exact .inr ⟨iG A0,V,V⟩)
 refine AC<|Zx<|Zb [1,2,4,6] ?_;refine CW (e0:=[]) (H0:=[]) (fun e H=>∃(I:Nat) (G:B8) (B:Nat) (s1:List A9) (m:B8) (g:Nat) (s2:List A9),(Bd 9 171 (.slice G L.length B) Z.length (Z.flatMap Em) s1/\Bd 2 57 (.slice m l.length g) l.length (Du l) s2)/\e=[(8,I5 I)]/\H=[[(I,.cells #[I4 q.kd,I4 q.tb,I4 q.cl,I4 q.lo,I4 q.hi,I4 q.bq,I4 q.ot,.slice none 0 0,I4 0,.bool false,I4 0,I4 (base+(l.length:Int)),I4 base,.slice G L.length B,.slice m l.length g] 63 (0,0))],s1,s2]) Wp ?hx_2 ?hy_2
 case hx_2=>
  refine BA (n:=17) (0::1::0::4::0::16::60::0::128::0::512::1536::0::7680::16383::0::65535::[]) 108544 AF AF V<|A3 0 V (AA (off:=0) GB V rfl CM Y)<|FG 1 V Wh (AB (cs:=#[_,_,_,_,_,_,_]) F1 CM Y B5 B0) ?_;refine A3 2 V (AA (off:=8) GB V rfl AE Y)<|BE 3 V AH Y ?_;refine A3 4 V (AO Y)<|A3 5 V (Ac HF Y) ?_
  (refine Dn (D':=127) 6 (Gm Y Y (IntWalk.i64_in _ ?_)) ?_;(focus (omega)))
  refine A3 7 V (AA (off:=8) GB V rfl AE Y)<|BE 8 V AH Y ?_;refine A3 9 V (AA (off:=9) GB V rfl My Y)<|BE 10 V SP Y ?_;refine A3 12 V (AO Y)<|Zz (l:=[11,15])<|B7 [false,true,true,true] [(8,(_,_)),(3,(_,_)),(1,(_,_))] V rfl (Zw [_] Y call75 Y V (Ld hZ A0)) ?_ Bv ?_;·
   rintro _ _ ⟨_,⟨s1,J,rfl⟩,rfl⟩;refine ⟨Zk (Zk (Zk (AZ))),?_⟩;obtain ⟨G,B,e1⟩:=J.form;rw [U]at e1;subst e1;refine Zz (l:=[13,15])<|B7 [true,true,true] [(8,(_,_)),(3,(_,_)),(1,(_,_))] V rfl (Zw [_] Y call46 Y V (IE O A0)) ?_ Bv ?_;·
    rintro _ _ ⟨_,⟨s2,h2,rfl⟩,rfl⟩;refine ⟨Zk (Zk (Zk (AZ))),?_⟩;obtain ⟨m,g,rfl⟩:=h2.form;refine A3 14 V (BM (vs:=[(0,.agg q.A72),(3,I4 (base+(l.length:Int))),(4,I4 base),(5,.slice G L.length B),(6,.slice m l.length g)]) (cs:=#[I4 q.kd,I4 q.tb,I4 q.cl,I4 q.lo,I4 q.hi,I4 q.bq,I4 q.ot,.slice none 0 0,I4 0,.bool false,I4 0,I4 (base+(l.length:Int)),I4 base,.slice G L.length B,.slice m l.length g]) Y (AY (pl:=#[(0,7),(7,3),(10,1),(11,1),(12,1),(13,1),(14,1)]) Mp N5 (fun _=>by kernel_rfl) AF))<|Yz 15 0 65535 [8,3,1] [true,true,true] [(8,(_,_)),(3,(_,_)),(1,(_,_))] V Y V rfl V rfl (Al Mp #[_,_,_,_,_,_,_,_,_,_,_,_,_,_,_])<|AG fun I=>BW<|Yw 16 131071 V (Xw Lk #[I4 q.kd,I4 q.tb,I4 q.cl,I4 q.lo,I4 q.hi,I4 q.bq,I4 q.ot,.slice none 0 0,I4 0,.bool false,I4 0,I4 (base+(l.length:Int)),I4 base,.slice G L.length B,.slice m l.length g])<|Cp<|Ag<|Zn [8,1,2,4,6] ?_;refine Av (e':=[(8,_)]) (by exact ⟨I,G,B,s1,m,g,s2,⟨J,h2⟩,V,V⟩)
   refine B7 [true,true,true] [(8,(_,_)),(3,(_,_)),(1,(_,_))] V rfl (Al Mp #[_,_,_,_,_,_,_,_,_,_,_,_,_,_,_]) ?_ (fun _ _ h=>h.elim) Aj;rintro _ _ ⟨I,rfl,rfl⟩;refine BW<|Zz (l:=[13])<|B7 [true,true,true] [(8,(_,_)),(3,(_,_)),(1,(_,_))] V rfl (Zw [_] Y call46 Y V (IE O A0)) ?_ Bv Aj;rintro _ _ ⟨_,⟨s2,h2,rfl⟩,rfl⟩;refine ⟨Zk (Zk (Zk (AZ))),?_⟩;obtain ⟨m,g,rfl⟩:=h2.form;refine A3 14 V (BM (vs:=[(0,.agg q.A72),(3,I4 (base+(l.length:Int))),(4,I4 base),(5,.slice G L.length B),(6,.slice m l.length g)]) (cs:=#[I4 q.kd,I4 q.tb,I4 q.cl,I4 q.lo,I4 q.hi,I4 q.bq,I4 q.ot,.slice none 0 0,I4 0,.bool false,I4 0,I4 (base+(l.length:Int)),I4 base,.slice G L.length B,.slice m l.length g]) Y (AY (pl:=#[(0,7),(7,3),(10,1),(11,1),(12,1),(13,1),(14,1)]) Mp N5 (fun _=>by kernel_rfl) AF))<|Yw 16 131071 V (Xw Lk #[I4 q.kd,I4 q.tb,I4 q.cl,I4 q.lo,I4 q.hi,I4 q.bq,I4 q.ot,.slice none 0 0,I4 0,.bool false,I4 0,I4 (base+(l.length:Int)),I4 base,.slice G L.length B,.slice m l.length g])<|Cp<|Ag<|Zn [8,1,2,4,6] ?_;refine Av (e':=[(8,_)]) (by exact ⟨I,G,B,s1,m,g,s2,⟨J,h2⟩,V,V⟩)
  refine B7 [true,true,true,true] [(10,(_,_)),(8,(_,_)),(3,(_,_)),(1,(_,_))] V rfl (Al Mp #[_,_,_,_,_,_,_,_,_,_,_,_,_,_,_]) ?_ (fun _ _ h=>h.elim) Aj;rintro _ _ ⟨I,rfl,rfl⟩;refine BW<|Zz (l:=[11])<|B7 [false,true,true,true] [(8,(_,_)),(3,(_,_)),(1,(_,_))] V rfl (Zw [_] Y call75 Y V (Ld hZ A0)) ?_ Bv Aj;rintro _ _ ⟨_,⟨s1,J,rfl⟩,rfl⟩;refine ⟨Zk (Zk (Zk (AZ))),?_⟩;obtain ⟨G,B,e1⟩:=J.form;rw [U]at e1;subst e1;refine Zz (l:=[13])<|B7 [true,true,true] [(8,(_,_)),(3,(_,_)),(1,(_,_))] V rfl (Zw [_] Y call46 Y V (IE O A0)) ?_ Bv Aj;rintro _ _ ⟨_,⟨s2,h2,rfl⟩,rfl⟩;refine ⟨Zk (Zk (Zk (AZ))),?_⟩;obtain ⟨m,g,rfl⟩:=h2.form;refine A3 14 V (BM (vs:=[(0,.agg q.A72),(3,I4 (base+(l.length:Int))),(4,I4 base),(5,.slice G L.length B),(6,.slice m l.length g)]) (cs:=#[I4 q.kd,I4 q.tb,I4 q.cl,I4 q.lo,I4 q.hi,I4 q.bq,I4 q.ot,.slice none 0 0,I4 0,.bool false,I4 0,I4 (base+(l.length:Int)),I4 base,.slice G L.length B,.slice m l.length g]) Y (AY (pl:=#[(0,7),(7,3),(10,1),(11,1),(12,1),(13,1),(14,1)]) Mp N5 (fun _=>by kernel_rfl) AF))<|Yw 16 131071 V (Xw Lk #[I4 q.kd,I4 q.tb,I4 q.cl,I4 q.lo,I4 q.hi,I4 q.bq,I4 q.ot,.slice none 0 0,I4 0,.bool false,I4 0,I4 (base+(l.length:Int)),I4 base,.slice G L.length B,.slice m l.length g])<|Cp<|Ag<|Zn [8,1,2,4,6] ?_;refine Av (e':=[(8,_)]) (by exact ⟨I,G,B,s1,m,g,s2,⟨J,h2⟩,V,V⟩)
 rintro _ _ ⟨I,G,B,s1,m,g,s2,⟨J,h2⟩,rfl,rfl⟩;refine Zq<|A1<|Zh 0 GB V rfl CM Y<|Zo Wh (AB (cs:=#[_,_,_,_,_,_,_]) F1 CM Y B5 B0) ?_;refine Zo Wh (AB (cs:=#[_,_,_]) Cd B9 Y B5 B0) ?_;refine Zh 8 GB V rfl AE Y<|Zl AH Y ?_;refine Zm Y<|Zc [_,_,_,_] Y call80 Y V (QZ q hq base A0 O A0 dn d9 A0 gy) ?_;rintro _ _ ⟨_,⟨o9,s3,rfl,h3,rfl⟩,rfl⟩;obtain ⟨g3,c3,rfl⟩:=h3.form;refine Zm Y<|Zd Y rfl<|Zd Y rfl<|Zd Y rfl<|Zh 7 N5 rfl rfl B9 Y<|Xe (BL B9 Y Y Hb Wu (by exact (rfl:_=(#[I4 q.kd,I4 q.tb,I4 q.cl,I4 q.lo,I4 q.hi,I4 q.bq,I4 q.ot,.slice g3 (BB q r base l).1.rows.length c3,I4 (BB q r base l).1.val,.bool (BB q r base l).1.fnd,I4 0,I4 (base+(l.length:Int)),I4 base,.slice G L.length B,.slice m l.length g]:AK))) FA B5 (by exact BC _)) ?_;refine Zh 10 N5 V rfl AE Y<|Xe (Zs AE Y Y V (hc:=by exact (V:_=(#[I4 q.kd,I4 q.tb,I4 q.cl,I4 q.lo,I4 q.hi,I4 q.bq,I4 q.ot,.slice g3 (BB q r base l).1.rows.length c3,I4 (BB q r base l).1.val,.bool (BB q r base l).1.fnd,I4 (BB q r base l).2.1,I4 (base+(l.length:Int)),I4 base,.slice G L.length B,.slice m l.length g]:AK))) (hi:=by(simp;done))) ?_;refine AW Y<|Zn [4,7,8] ?_;refine Zx<|A1<|Zm Y<|Zv (Bt Y)<|A6<|AU Y (fun K=>?_) (fun K=>?_);·
  have gm:(BB q r base l).2.2=false:=by simpa using K
  refine A1<|Zv (BM (vs:=[]) (cs:=#[_,_,_,_,_,_,_,_,_,_,_,_,_,_,_]) Y (AY (pl:=#[(0,7),(7,3),(10,1),(11,1),(12,1),(13,1),(14,1)]) Mp N5 (fun _=>by kernel_rfl) rfl))<|Xe (BL Lk Y Y Hb Wu (by exact EI rfl) FA B1 (by exact BC _)) ?_;refine A5 Y<|AJ<|Zt<|CL rfl results56 Y Wh (Au isAgg63 Lk Wn (BN rfl)) Y (by exact .inr ⟨by rw [QP hr A0,YU gm];rfl,rfl,rfl⟩)
 have bn:(BB q r base l).2.2=true:=by simpa using K
 refine AC<|Zx<|Zq ?_;have cu:∀z∈Z,z.ok M:=fun z hz=>by obtain ⟨i,hi⟩:=HH hz;exact (ic i z hi).1
 have ax:∀x∈l,Cv M (.slice x.q x.cs.length x.cap) x.cs:=fun x hx=>by obtain ⟨i,hi⟩:=HH hx;obtain ⟨_,_,_,_,ek⟩:=O;exact (ek i x hi).1
 have gq:=Ls bn;have j3:=Ez h3
 have cO:=Me h3;refine Zg<|Zo Wh (AB (cs:=#[_,_,_,_,_,_,_,_,_,_,_,_,_,_,_]) isAgg63 Lk Y B5 B0) ?_;refine Xe (BL Lk Y Y Hb Wu (by exact EI rfl) FA B1 (by exact BC _)) ?_;refine A5 Y<|AJ<|CL rfl results56 Y Wh (Au isAgg63 Lk Wn (BN rfl)) Y (by exact .inl ⟨⟨⟨q,(BB q r base l).1,(BB q r base l).2.1,base+(l.length:Int),base,L,l⟩,g3,c3,G,B,m,g⟩,s3,s1,s2,by rw [QP hr A0,gq];rfl,⟨(DY h3 cO).mono (fun c hc=>Ek _ hc),⟨Z,(WR J A0 cu).mono (fun c hc=>by rcases C2.1 hc with h9|h9;exact G2 _ (Ek _ h9);exact G2 _ (G2 _ (G2 _ h9))),W⟩,Lt (KF h2 (by show l.length<=maxLen;omega) ax) (fun c hc=>G2 _ (G2 _ hc))⟩,rfl,rfl⟩)
theorem yV(q:QM)(te base:Int)(J:-1000000000000<=base/\base<=1000000000000){G:B8}{B:Nat}(I:GI M (.slice G L.length B) L)(g:L.length<=1000000)(O:Eo q L=some r){lv:A4}(K:Ec M lv l)(m:∀x∈l,x.cs.length<=1000):BR prog 56 #[.agg #[I4 q.kd,I4 q.tb,I4 q.cl,I4 q.lo,I4 q.hi,I4 q.bq,I4 q.ot,I4 te,I4 base,.slice G L.length B],lv] [M] (fun w H'=>∃(z:Xx) (s:List A9) (b:Bool),((b=true/\K3 q base L l=some z.a/\z.ok (s++M))\/(b=false/\K3 q base L l=none))/\w= .tuple #[.agg z.A73,.bool b]/\H'=[s,M]):=by
 refine Gx (vO q te base J I g O K m) V ?_;rintro w H' (⟨z,s3,s1,s2,h1,h2,rfl,rfl⟩|⟨h1,rfl,rfl⟩);· exact ⟨_,⟨z,s3++(s1++s2),true,.inl ⟨rfl,h1,by simpa only [CT]using h2⟩,rfl,rfl⟩,by simp⟩
 · exact ⟨_,⟨⟨⟨⟨0,0,0,0,0,0,0⟩,CB.none,0,0,0,[],[]⟩,none,0,none,0,none,0⟩,[],false,.inr ⟨rfl,h1⟩,rfl,rfl⟩,by simp⟩
end Go.Proofs.YthhakdmlpngcmaaGreatDoor
