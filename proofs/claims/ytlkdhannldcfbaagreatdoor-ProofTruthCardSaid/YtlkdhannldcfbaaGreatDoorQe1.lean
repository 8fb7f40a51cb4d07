/- statetree: Verify. -/
import Derived.Test.YtlkdhannldcfbaaGreatDoorTr8
import Derived.ProofKit
import Derived.OpenShut
import Derived.Lib.LaidTab
import Derived.Test.YtlkdhannldcfbaaGreatDoorRows
import Derived.Stop.LaidErr
set_option linter.unusedVariables false
set_option linter.unusedSimpArgs false
namespace Go.Proofs.YtlkdhannldcfbaaGreatDoor
open Go.Proofs.Tryz
open Go Go.RowKit Gw
set_option maxRecDepth 100000
attribute [local irreducible] Gw.At Gw.Nx Gw.Ops
structure Ke(root:Bs)(x:RP):Prop where
 comp:Fp x
 n16:x.roots.length=16
 np:x.paths.length=x.rows.length
 root:Cs x.roots=root
 sum:∃d:Bs,d.length=32/\x.roots[4*x.tb.toNat+x.cl.toNat]?=some (JS x.ct++d)/\(x.ct=0->d=Cs [])/\
  (x.ct≠0->∀(k:Nat) (r:AY) (pf:List Bs),x.rows[k]?=some r->x.paths[k]?=some pf->RU d x.ct.toNat (x.fi.toNat+k) (Ep r) pf=true)
noncomputable instance(root:Bs)(x:RP):Decidable (Ke root x):=Classical.propDecidable _
theorem II{root:Bs}{x:RP}(h:¬Ke root x):Value.bool false=Value.bool (decide (Ke root x)):=congrArg Value.bool (Bm h).symm
theorem Lc{a b:Bs}(h:str a=str b):a=b:=by rw [<-Io a,<-Io b,h]
theorem tY(a b:Bs):(str (a++b)).extract 0 (str a).size=str a:=by
 apply ByteArray.ext;rw [im,BO];simp [str]
theorem mf(a b:Bs):(str (a++b)).extract (str a).size (str (a++b)).size=str b:=by
 apply ByteArray.ext;rw [im,BO,BO];simp [str]
theorem xA{s n:Bs}(h:(str s).extract 0 (str n).size=str n):∃d,s=n++d:=by
 have g:((str s).extract 0 (str n).size).data.toList=n:=by rw [h,Io]
 rw [im,BO]at g;refine ⟨s.drop n.length,?_⟩;conv=>lhs;rw [<-HW n.length s]
 congr 1;simp [str]at g;exact g
theorem bH(M:List AU):DK M (.slice none 0 0) []:=⟨none,0,rfl,⟨by simp,by simp⟩,by intro i s h;simp at h⟩
theorem Ml{n:Int}(h:0<=n):∃k:Nat,n=(k:Int):=⟨n.toNat,by omega⟩
set_option maxHeartbeats 4000000 in
theorem WW{M:List AU}{v:A4}{x:RP}(hv:Ql M v x)(O:∀s∈x.roots,s.length<=140737488354000)(af:∀l∈x.paths,l.length<=1000000)(root:Bs)(Tg:AM)(zg:Nat×Nat):BC prog 30 #[.string (str root),v] [[(1,.cells (Di.map CB).toArray Tg zg)],M] (.bool (decide (Ke root x))):=by
 have zk:=mL;obtain ⟨vr,vp,vt,rfl,hR,hP,hT⟩:=id hv;obtain ⟨p,cap,e9,hl,hg⟩:=id hR;subst e9;obtain ⟨p3,vz,q9,zb,qo⟩:=id hP;subst q9;obtain ⟨p4,wo,qa,zh,qw⟩:=id hT;subst qa;refine Se func30 ntmps30 [0,1] ?_;intro u R;refine A1<|Ze (Bx #[_,_,_,_,_,_,_,_,_])<|AF fun pb=>A3 Y<|Zq<|A1<|Zo Wh (Pa #[_,_,_,_,_,_,_,_,_] LI DE Y) ?_;refine Xr [_] Y call69 Y V (Nr hv) ?_;refine Zv (C9 Y)<|Zm Y<|Ai (t:=16) Y V (fun J=>?_) (fun J=>?_);·
  refine A7 Y V<|A7 Y V<|A7 Y V<|A7 Y V<|Zv (AR Y Y)<|Zm Y<|A7 Y V<|A7 Y V<|A7 Y V<|A7 Y V<|A7 Y V<|A7 Y V<|A7 Y V<|Zv (AR Y Y)<|Zm Y<|A7 Y V<|A7 Y V<|A7 Y V<|A7 Y V<|A7 Y V<|Zv (AR Y Y)<|Z0<|Zn [3,37] ?_;refine Zx<|CQ Y<|A1<|A3 Y<|AA<|Zt<|AC V V1 Y (by exact ⟨II (fun E=>by have cO:=E.comp;have ek:=E.n16;have gm:=E.np;have Z:=E.root;contradiction),V⟩)
 refine Yf 8 C1 V rfl HM Y<|Yl I0 Y ?_;refine Yg (AP Bk Y)<|Yg (E5 (n:=16) Y Y)<|Zv (AL Y Y)<|Zm Y<|Ai (t:=22) Y V (fun o8=>?_) (fun o8=>?_);·
  refine A7 Y V<|A7 Y V<|A7 Y V<|A7 Y V<|A7 Y V<|A7 Y V<|A7 Y V<|Zv (AR Y Y)<|Zm Y<|A7 Y V<|A7 Y V<|A7 Y V<|A7 Y V<|A7 Y V<|Zv (AR Y Y)<|Z0<|Zn [3,37] ?_;refine Zx<|CQ Y<|A1<|A3 Y<|AA<|Zt<|AC V V1 Y (by exact ⟨II (fun E=>by have cO:=E.comp;have ek:=E.n16;have gm:=E.np;have Z:=E.root;contradiction),V⟩)
 refine Yf 7 C1 V rfl Ln Y<|Yl W0 Y ?_;refine Yg (AP Lk Y)<|Yf 6 C1 V rfl C4 Y<|Yl DO Y ?_;refine Yg (AP B4 Y)<|Yg (E5 Y Y)<|Zv (AL Y Y)<|Zm Y<|Ai (t:=31) Y V (fun o9=>?_) (fun o9=>?_);·
  refine A7 Y V<|A7 Y V<|A7 Y V<|A7 Y V<|A7 Y V<|Zv (AR Y Y)<|Z0<|Zn [3,37] ?_;refine Zx<|CQ Y<|A1<|A3 Y<|AA<|Zt<|AC V V1 Y (by exact ⟨II (fun E=>by have cO:=E.comp;have ek:=E.n16;have gm:=E.np;have Z:=E.root;contradiction),V⟩)
 refine Yf 8 C1 V rfl HM Y<|Yl I0 Y ?_;refine Xr [_] Y call70 Y V (Kk hT A0 O Tg zg) ?_;refine Zf Y Y<|Yg (NM Y Y)<|Zv (AL Y Y)<|Z0<|Zn [3,37] ?_;refine Zx<|Ak Y (fun kz=>?_) (fun kz=>?_);·
  refine A1<|A3 Y<|AA<|Zt<|AC rfl V1 Y (by exact ⟨II (fun E=>by have cO:=E.comp;have ek:=E.n16;have gm:=E.np;have Z:=E.root;exact kz (by rw [Z])),rfl⟩)
 have J:=G2.1 J;obtain ⟨⟨⟨sw,zw⟩,qb,y9⟩,_,⟨qA,zl⟩,⟨qg,za⟩,zm,_⟩:=id J;obtain ⟨tn,sO⟩:=Ml sw;obtain ⟨cn,qc⟩:=Ml qb;obtain ⟨nn,K⟩:=Ml qA;obtain ⟨fn,qh⟩:=Ml qg;obtain ⟨s9,I⟩:∃s,x.roots[4*tn+cn]?=some s:=⟨_,zn A0⟩;have cu:Cs x.roots=root:=Lc (G2.1 kz)
 rw [sO,qc,K,qh];obtain ⟨g4,x9,lv,T4,vo,rfl,qz,p9⟩:=qw _ s9 I;have yt:=I8 (nn:Int) A0 A0
 have sj:=BO s9;have q8:=BO (JS (nn:Int))
 have zo:=O s9 (Cd I);have G:4*x.tb.toNat+x.cl.toNat=4*tn+cn:=by omega
 refine AB<|Zx<|A1<|Zh 4 C1 V rfl A5 Y<|Zl AE Y ?_;refine Xr [_] Y call71 Y V (Me (nn:Int) A0 A0) ?_;refine Zm Y<|Zd Y V<|Zd Y V<|Za Y<|A3 Y<|A1<|Zh 8 C1 V rfl HM Y<|Zl I0 Y ?_;refine Zh 0 C1 V rfl A5 Y<|Zl AE Y ?_;refine Ap (Df (m:=4) Y Y (by first|omega|(simp;omega)))<|Zh 1 C1 rfl rfl A5 Y<|Zl AE Y ?_;refine Ap (Bp Y Y (by first|omega|(simp;omega)))<|Ap (BP Bk CH Y Y CT)<|Ca (cs:=[(g4,.cells lv T4 vo)]) (by simp [qz]) (Bj Fm Y p9) rfl rfl ?_;refine AH Y<|Zn [3,5,7] ?_;refine Zx<|Zq<|A1<|Zm Y<|Zv (Ev HE Y)<|Zm Y<|Zv (Ev HE Y)<|Ya (n:=32) Y Y<|Zv (E5 Y Y)<|Zm Y<|Ai (t:=60) Y V (fun l8=>?_) (fun l8=>?_);·
  refine A7 Y V<|A7 Y V<|A7 Y V<|A7 Y V<|A7 Y V<|A7 Y V<|Zv (AR Y Y)<|Z0<|Zn [3,5,7,67] ?_;refine Zx<|CQ Y<|A1<|A3 Y<|AA<|Zt<|AC rfl V1 Y (by exact ⟨II (fun E=>by obtain ⟨d,hd,y,_⟩:=E.sum;rw [G,I,K]at y;injection y with y;subst y;exact l8 (by rw [sj,q8,zq,hd])),rfl⟩)
 refine Zf Y Y<|Zf Y Y<|Yg (Ev HE Y) ?_;refine DV Y (Sw HE Y Y (by first|omega|(simp;omega))) rfl rfl ?_;refine Zf Y Y<|Yg (NM Y Y)<|Zv (AL Y Y)<|Z0<|Zn [3,5,7,67] ?_;refine Zx<|Ak Y (fun kv=>?_) (fun kv=>?_);·
  refine A1<|A3 Y<|AA<|Zt<|AC rfl V1 Y (by exact ⟨II (fun E=>by obtain ⟨d,hd,y,_⟩:=E.sum;rw [G,I,K]at y;injection y with y;subst y;exact kv (tY _ _)),rfl⟩)
 obtain ⟨d9,rfl⟩:=xA (G2.1 kv);have bn:d9.length=32:=by rw [q8,BO,zq]at l8;omega
 refine AB<|Zx<|A1<|Zm Y<|Zm Y<|Zv (Ev HE Y)<|Ap (QL HE Y Y (by rw [BO,BO,zq];omega))<|A3 Y<|Zq<|Zq ?_;rw [mf];refine Zg<|Zh 4 C1 V rfl A5 Y<|Zl AE Y ?_;refine Zv (Bb (n:=0) Y Y)<|AD<|Ak Y (fun hz=>?_) (fun hz=>?_);·
  refine A1<|Zm Y<|Xr [_] Y call70 Y V (Kk (bH M) B3 B3 Tg zg) ?_;refine Zv (NN Y Y)<|A3 Y<|AA<|Zt<|AC rfl V1 Y (by exact ⟨GL ⟨fun E=>⟨J,by omega,by omega,cu,d9,bn,by rw [G,I,K],fun _=>Lc E,fun h0=>by omega⟩,fun E=>by obtain ⟨d,hd,y,gq,_⟩:=E.sum;rw [G,I,K]at y;injection y with y;rw [List.append_cancel_left y,gq A0]⟩,rfl⟩)
 refine AB<|Zx<|Zq<|A1<|Zh 6 C1 V rfl C4 Y<|Zl DO Y ?_;refine Zv (AP B4 Y)<|Zm Y<|AD<|AX<|Zb [81,3,8,79,80] ?_;refine BB (e0:=[(81,_)]) (fun m e H=>∃(k:Nat),m=x.rows.length -k/\(k<=x.rows.length/\∀(j:Nat) (r:AY) (pf:List Bs),j<k->x.rows[j]?=some r->x.paths[j]?=some pf->RU d9 nn (fn+j) (Ep r) pf=true)/\e=[(81,I4 (k:Int))]/\H=[]) (by exact ⟨0,V,⟨C2 _,by intro j r pf hj;omega⟩,V,V⟩) Wp ?_;rintro _ _ _ ⟨k,rfl,⟨hk,bf⟩,rfl,rfl⟩;refine A1<|Zv (Au Y Y)<|AD<|Zq<|Ak Y (fun pg=>?_) (fun pg=>?_);·
  obtain ⟨r,hr⟩:∃r,x.rows[k]?=some r:=⟨_,zn pg⟩;obtain ⟨g,off,cur,T,zz,rfl,pq,wz,gy⟩:=hg k r hr;obtain ⟨pf,ax⟩:∃pf,x.paths[k]?=some pf:=⟨_,zn A0⟩;obtain ⟨q6,c6,tT,g6,y5,mR,T6,vw,rfl,qx,p8⟩:=qo k pf ax;have pz:=(J.all k r hr).1.1
  refine AB<|Zx<|Zq<|AX<|A1<|Zm Y<|Ap (AO B4 Ax Y Y CT)<|Ca (cs:=[(g,.cells cur T zz)]) (by simp [pq]) (A9 (cs:=r.Ao5) C7 Ax Y A0 gy) rfl rfl ?_;refine Ze (Al Dd #[_,_,_,_,_])<|AF fun rb=>Za Y<|Xe (Xw Ax r.Ao5) ?_;refine AD<|A1<|Zo Wh (Pa #[_,_,_,_,_] C7 Ax Y) ?_;refine Xr [_] Y call72 Y V (V5 r pz) ?_;refine Zm Y<|Zd Y V<|Zd Y V<|Za Y<|AH Y<|Zn [3,8,9,11,79,80,81] ?_;refine Zx<|Zq<|BJ (n:=15) (0::0::2::0::8::0::56::0::0::256::0::1792::3840::8191::16383::[]) 8192 AG AG V<|A2 0 V (AJ Y)<|A2 1 V (AV (off:=4) C1 V rfl A5 Y)<|B2 2 V AE Y ?_;refine A2 3 V (AV (off:=5) C1 V rfl A5 Y)<|B2 4 V AE Y ?_;refine A2 5 rfl (AJ Y)<|A2 6 rfl (Bp Y Y (by first|omega|(simp;omega)))<|A2 7 rfl (AJ Y)<|A2 8 rfl (AV (off:=7) C1 rfl rfl Ln Y)<|B2 9 rfl W0 Y ?_;refine A2 10 rfl (AJ Y)<|A2 11 rfl (BP Lk HM Y Y CT)<|Gf (b:=g6) (x:= .cells mR T6 vw) (D':=8191) 12 rfl rfl rfl (by simp [qx]) (Bj I0 Y p8) ?_;refine Yw 13 16383 V (Zu [_,_,_,_,_] Y call73 Y V (Xv tT (af pf (Cd ax)) d9 (Ep r) (by have:=M6 pz;omega) nn (fn+k) A0 A0 Tg zg))<|C3<|A2 14 V (Cj Y)<|Ao<|Zn [3,8,79,80,81,105] ?_;refine Zx<|Ad Y (fun l9=>?_) (fun l9=>?_);·
   refine A1<|A3 Y<|AA<|Ab<|Zt<|Zt<|Ab<|Zt<|AC rfl V1 Y (by exact ⟨II (fun E=>by obtain ⟨d,hd,y,_,qd⟩:=E.sum;rw [G,I,K]at y;injection y with y;have gq:=List.append_cancel_left y;have h5:=qd A0 k r pf hr ax;rw [<-gq,show x.ct.toNat=nn by omega,show x.fi.toNat=fn by omega]at h5;simp [h5]at l9),rfl⟩)
  refine AB<|A8<|Zx<|Zg<|Ya (n:=1) Y Y<|Zm Y<|Z0<|Zn [81,3,8,79,80] ?_;refine AZ (e':=[(81,_)]) (by
   exact ⟨k+1,V,⟨by omega,fun j r9 ve hj X U=>by
    rcases DP j k with E|E
    · exact bf j r9 ve E X U
    · obtain rfl:j=k:=A0
      rw [hr]at X;injection X with X;subst X
      rw [ax]at U;injection U with U;subst U
      simpa using l9⟩,rfl,rfl⟩)
 refine Aw<|Zt<|Zt<|AQ<|Zx<|A1<|A3 Y<|AA<|AC rfl V1 Y (by exact ⟨congrArg Value.bool (CA (show Ke root x from⟨J,by omega,by omega,cu,d9,bn,by rw [G,I,K],fun h0=>by omega,fun h0 j r pf hj hp=>by rw [show x.ct.toNat=nn by omega,show x.fi.toNat=fn by omega];exact bf j r pf (by have:=(zt.1 hj).1;omega) hj hp⟩)).symm,rfl⟩)
theorem aD{M:List AU}{va vb:A4}{a b:List Bs}(ha:DK M va a)(hb:DK M vb b):BC prog 118 #[va,vb] [M] (.bool (decide (a=b))):=by
 have gy:=mL;obtain ⟨pa,ca,rfl,gm,X⟩:=ha;obtain ⟨pb,cb,rfl,gq,Z⟩:=hb;refine Se func118 ntmps118 [0,1] ?_;intro u R;refine A1<|A3 Y<|Zq<|A1<|Zm Y<|Zv (AP Bk Y)<|Zm Y<|Zv (AP Bk Y)<|Zv (E5 Y Y)<|AD<|Ak Y (fun K=>?_) (fun K=>?_);·
  refine A1<|A3 Y<|AA<|Zt<|AC rfl results118 Y (by exact ⟨Ea (fun e=>K (by rw [e])),rfl⟩)
 have af:a.length=b.length:=by omega
 refine AB<|Zx<|Zq<|A1<|Zm Y<|Zv (AP Bk Y)<|Zm Y<|AD<|AX<|Zb [13,0,1,12] ?_;refine BB (e0:=[(13,_)]) (fun m e H=>∃(i:Nat),m=a.length -i/\(i<=a.length/\∀j,j<i->a[j]?=b[j]?)/\e=[(13,I4 (i:Int))]/\H=[]) (by exact ⟨0,V,⟨C2 _,by intro j hj;omega⟩,V,V⟩) Wp ?_;rintro _ _ _ ⟨i,rfl,⟨hi,g⟩,rfl,rfl⟩;refine A1<|Zv (Au Y Y)<|AD<|Zq<|Ak Y (fun ax=>?_) (fun ax=>?_);·
  obtain ⟨x,hx⟩:∃x,a[i]?=some x:=⟨_,zn A0⟩;obtain ⟨y,hy⟩:∃y,b[i]?=some y:=⟨_,zn A0⟩;obtain ⟨g1,d9,E,T1,cu,rfl,bf,I⟩:=X i x hx;obtain ⟨g2,ek,G,T2,cO,rfl,bn,J⟩:=Z i y hy;refine AB<|Zx<|Zq<|AX<|A1<|Zm Y<|A3 Y<|Zq<|BJ (n:=9) (0::0::3::7::0::0::48::112::255::[]) 0 AG AG V<|A2 0 V (AJ Y)<|A2 1 V (AJ Y)<|A2 2 V (BP Bk CH Y Y A0)<|Gf (b:=g1) (x:= .cells E T1 cu) (D':=15) 3 V rfl V (by simp [bf]) (Bj Fm Y I) ?_;refine A2 4 V (AJ Y)<|A2 5 V (AJ Y)<|A2 6 V (BP Bk CH Y Y A0)<|Gf (b:=g2) (x:= .cells G T2 cO) (D':=255) 7 V rfl V (by simp [bn]) (Bj Fm Y J) ?_;refine A2 8 V (NM Y Y)<|Ao<|Zx<|Ak Y (fun O=>?_) (fun O=>?_);·
   refine A1<|AH Y<|Zn [4] ?_;refine Zx<|AA<|Ab<|Zt<|Zt<|Ab<|Zt<|AC rfl results118 Y (by exact ⟨Ea (fun e=>by rw [e,hy]at hx;injection hx with hx;exact O (by rw [hx])),rfl⟩)
  have U:x=y:=Lc (G2.1 O);refine AB<|A8<|Zx<|Zg<|Ya (n:=1) Y Y<|Zm Y<|Z0<|Zn [13,0,1,12] ?_;refine AZ (e':=[(13,_)]) (by exact ⟨i+1,rfl,⟨by omega,fun j hj=>by rcases DP j i with h9|h9;exact g j h9;obtain rfl:j=i:=A0;rw [hx,hy];exact congrArg some U⟩,rfl,rfl⟩)
 refine Aw<|Zt<|Zt<|AQ<|Zx<|A1<|A3 Y<|AA<|AC V results118 Y (by exact ⟨LP (NS af (fun j hj=>g j A0)),V⟩)
theorem YF{a b:RP}:a=b↔a.paths=b.paths/\(a.tb=b.tb/\a.cl=b.cl/\a.lo=b.lo/\a.hi=b.hi/\a.ct=b.ct/\a.fi=b.fi)/\a.rows=b.rows/\a.roots=b.roots:=by
 obtain ⟨M,O,U,X,Z,a6,a7,a8,a9⟩:=a;obtain ⟨b1,b2,b3,b4,b5,b6,b7,b8,b9⟩:=b;simp only [RP.mk.injEq];constructor;· rintro ⟨g,h2,m,y,E,G,I,J,K⟩;exact ⟨J,⟨g,h2,m,y,E,G⟩,I,K⟩
 · rintro ⟨J,⟨g,h2,m,y,E,G⟩,I,K⟩;exact ⟨g,h2,m,y,E,G,I,J,K⟩
theorem bP{M:List AU}{g m:A4}{a b:List Bs}(y:DK M g a)(E:DK M m b):BC prog 117 #[g,m] [M] (.bool (decide (a=b))):=by
 refine Se func117 ntmps117 [0,1] ?_;intro u R;refine A1<|A3 Y<|A1<|Zm Y<|Zm Y<|Xr [_,_] Y call118 Y V (aD y E)<|A3 Y<|AA<|AC V results117 Y (by exact ⟨V,V⟩)
theorem rC{M:List AU}{va vb:A4}{a b:List (List Bs)}(ha:G5 M va a)(hb:G5 M vb b):BC prog 161 #[va,vb,.func (.func 117) #[] #[]] [M] (.bool (decide (a=b))):=by
 have kz:=mL;obtain ⟨pa,ca,rfl,gy,X⟩:=ha;obtain ⟨pb,cb,rfl,kv,Z⟩:=hb;refine Se func161 ntmps161 [0,1,2] ?_;intro u R;refine A1<|A3 Y<|Zq<|A1<|Zm Y<|Zv (AP Lk Y)<|Zm Y<|Zv (AP Lk Y)<|Zv (E5 Y Y)<|AD<|Ak Y (fun K=>?_) (fun K=>?_);·
  refine A1<|A3 Y<|AA<|Zt<|AC rfl results161 Y (by exact ⟨Ea (fun e=>K (by rw [e])),rfl⟩)
 have af:a.length=b.length:=by omega
 refine AB<|Zx<|Zq<|A1<|Zm Y<|Zv (AP Lk Y)<|Zm Y<|AD<|AX<|Zb [17,1,2,15,16] ?_;refine BB (e0:=[(17,_)]) (fun m e H=>∃(i:Nat),m=a.length -i/\(i<=a.length/\∀j,j<i->a[j]?=b[j]?)/\e=[(17,I4 (i:Int))]/\H=[]) (by exact ⟨0,V,⟨C2 _,by intro j hj;omega⟩,V,V⟩) Wp ?_;rintro _ _ _ ⟨i,rfl,⟨hi,g⟩,rfl,rfl⟩;refine A1<|Zv (Au Y Y)<|AD<|Zq<|Ak Y (fun ax=>?_) (fun ax=>?_);·
  obtain ⟨x,hx⟩:∃x,a[i]?=some x:=⟨_,zn A0⟩;obtain ⟨y,hy⟩:∃y,b[i]?=some y:=⟨_,zn A0⟩;obtain ⟨q1,c1,cu,g1,gm,E,T1,d9,rfl,bf,I⟩:=X i x hx;obtain ⟨q2,c2,cO,g2,gq,G,T2,ek,rfl,bn,J⟩:=Z i y hy;refine AB<|Zx<|Zq<|AX<|A1<|Zm Y<|Ap (BP Lk HM Y Y A0)<|Ca (cs:=[(g1,.cells E T1 d9)]) (by simp [bf]) (Bj I0 Y I) V rfl<|Za Y<|A3 Y<|A1<|Zm Y<|Zm Y<|Ap (BP Lk HM Y Y A0)<|Ca (cs:=[(g2,.cells G T2 ek)]) (by simp [bn]) (Bj I0 Y J) V rfl<|A3 Y<|A1<|Zm Y<|Zm Y<|Zm Y<|Xr [_,_] Y call117 Y V (bP cu cO)<|Zv (C9 Y)<|Z0<|Zn [1,2,15,16,17,30] ?_;refine Zx<|Ak Y (fun O=>?_) (fun O=>?_);·
   refine A1<|A3 Y<|AA<|Ab<|Zt<|Zt<|Ab<|Zt<|AC rfl results161 Y (by exact ⟨Ea (fun e=>by rw [e,hy]at hx;injection hx with hx;exact O hx.symm),rfl⟩)
  have U:x=y:=G2.1 O;refine AB<|A8<|Zx<|Zg<|Ya (n:=1) Y Y<|Zm Y<|Z0<|Zn [17,1,2,15,16] ?_;refine AZ (e':=[(17,_)]) (by exact ⟨i+1,rfl,⟨by omega,fun j hj=>by rcases DP j i with h9|h9;exact g j h9;obtain rfl:j=i:=A0;rw [hx,hy];exact congrArg some U⟩,rfl,rfl⟩)
 refine Aw<|Zt<|Zt<|AQ<|Zx<|A1<|A3 Y<|AA<|AC V results161 Y (by exact ⟨LP (NS af (fun j hj=>g j A0)),V⟩)
theorem fK{M:List AU}{g m:A4}{a b:List (List Bs)}(y:G5 M g a)(E:G5 M m b):BC prog 116 #[g,m,.func (.func 117) #[] #[]] [M] (.bool (decide (a=b))):=by
 refine Se func116 ntmps116 [0,1,2] ?_;intro u R;refine A1<|A3 Y<|A1<|Zm Y<|Zm Y<|Zm Y<|Xr [_,_,_] Y call161 Y V (rC y E)<|A3 Y<|AA<|AC V results116 Y (by exact ⟨V,V⟩)
theorem Vf(x:RP)(m g y:A4):BC prog 115 #[.agg #[I4 x.tb,I4 x.cl,I4 x.lo,I4 x.hi,I4 x.ct,I4 x.fi,m,g,y]] [] (.agg #[I4 x.tb,I4 x.cl,I4 x.lo,I4 x.hi,I4 x.ct,I4 x.fi]):=by
 refine Se func115 ntmps115 [0] ?_;intro u R;refine A1<|Ze (Bx #[_,_,_,_,_,_,_,_,_])<|AF fun E=>Ze (Al zeroValue189 #[_,_,_,_,_,_])<|AF fun G=>AD<|A1<|Zh 0 C1 V rfl A5 Y<|Zl AE Y<|Zh 1 C1 V rfl A5 Y<|Zl AE Y<|Zh 2 C1 V rfl A5 Y<|Zl AE Y<|Zh 3 C1 V rfl A5 Y<|Zl AE Y<|Zh 4 C1 V rfl A5 Y<|Zl AE Y<|Zh 5 C1 V rfl A5 Y<|Zl AE Y<|Zv (BQ (vs:=[(0,I4 x.tb),(1,I4 x.cl),(2,I4 x.lo),(3,I4 x.hi),(4,I4 x.ct),(5,I4 x.fi)]) (cs:=#[I4 x.tb,I4 x.cl,I4 x.lo,I4 x.hi,I4 x.ct,I4 x.fi]) Y (Cv zeroValue189 eV A5 AG))<|Xe (Xw sizeOf189 #[I4 x.tb,I4 x.cl,I4 x.lo,I4 x.hi,I4 x.ct,I4 x.fi])<|Z0<|Zn [2] ?_;refine Zx<|AA<|DI V results115 Y Wh (Ar isAgg189 sizeOf189 Wn (V)) (by exact ⟨V,V⟩)
theorem jG{M:List AU}{va vb:A4}{a b:RP}(ha:Ql M va a)(hb:Ql M vb b):BC prog 52 #[va,vb] [M] (.bool (decide (a=b))):=by
 obtain ⟨Z,U,ax,rfl,I,E,K⟩:=ha;obtain ⟨af,X,bf,rfl,J,G,O⟩:=hb;refine Se func52 ntmps52 [0,1] ?_;intro u R;refine A1<|Ze (Bx #[_,_,_,_,_,_,_,_,_])<|AF fun b1=>Ze (Bx #[_,_,_,_,_,_,_,_,_])<|AF fun b2=>A3 Y<|A1<|A3 Y<|A1<|Zh 7 C1 V rfl Ln Y<|Zl W0 Y<|Zh 7 C1 V rfl Ln Y<|Zl W0 Y<|Xr [_,_,_] Y call116 Y V (fK E G)<|A3 Y<|Zq<|BJ (n:=25) (0::1::3::3::15::3::3::127::255::511::1023::2047::4095::2047::10239::32767::65535::131071::262143::524287::262143::1310719::4194303::8388607::16777215::[]) 4227216 AG AG V<|A2 0 V (AJ Y)<|A2 1 V (AJ Y)<|Cc (t:=13) Y (fun g=>?_) (fun g=>?_);·
  rw [CA g];refine B1 2 V (AJ Y)<|D4 3 V Wh (A9 (cs:=#[_,_,_,_,_,_,_,_,_]) LI DE Y B5 An)<|B1 5 V (AJ Y)<|D4 6 V Wh (A9 (cs:=#[_,_,_,_,_,_,_,_,_]) LI DE Y B5 An)<|Yz 4 15 127 [6,3] [true,false] [(6,(_,_))] V Y V rfl V rfl (Zu [_] Y call115 Y V (Vf a Z U ax))<|C3<|BT<|Yw 7 255 V (Zu [_] Y call115 Y V (Vf b af X bf))<|C3<|B1 8 V (dL AG eV F0 AE A5 Y Y)<|A2 9 V (AR Y Y)<|A2 10 V (AJ Y)<|Cc (t:=22) Y (fun h2=>?_) (fun h2=>?_);·
   rw [CA h2];refine B1 11 V (AV (off:=6) C1 V rfl C4 Y)<|D4 12 V Wh (Bj DO Y An)<|B1 13 V (AV (off:=6) C1 V rfl C4 Y)<|D4 14 V Wh (Bj DO Y An)<|Yw 15 65535 V (Zu [_,_] Y call37 Y V (aF I J))<|C3<|A2 16 V (AR Y Y)<|A2 17 V (AJ Y)<|Cc (t:=29) Y (fun m=>?_) (fun m=>?_);·
    rw [CA m];refine B1 18 V (AV (off:=8) C1 V rfl HM Y)<|D4 19 V Wh (Bj I0 Y An)<|B1 20 V (AV (off:=8) C1 V rfl HM Y)<|D4 21 V Wh (Bj I0 Y An)<|Yw 22 8388607 V (Zu [_,_] Y call118 Y V (aD K O))<|C3<|A2 23 V (AR Y Y)<|A2 24 V (BF Y)<|Ao<|Zn [4] ?_;refine Zx<|AA<|AC V results52 Y (by exact ⟨by exact GL ⟨fun y=>YF.2 ⟨g,h2,m,y⟩,fun y=>(YF.1 y).2.2.2⟩,V⟩)
   rw [Bm m];refine AW 18 V<|AW 19 V<|AW 20 V<|AW 21 V<|AW 22 V<|A2 23 V (AL Y Y)<|A2 24 V (BF Y)<|Ao<|Zn [4] ?_;refine Zx<|AA<|AC V results52 Y (by exact ⟨by exact Ea (fun e=>m (YF.1 e).2.2.1),V⟩)
  rw [Bm h2];refine AW 11 V<|AW 12 V<|AW 13 V<|AW 14 V<|AW 15 V<|A2 16 V (AL Y Y)<|A2 17 V (AJ Y)<|AW 18 V<|AW 19 V<|AW 20 V<|AW 21 V<|AW 22 V<|A2 23 V (AL Y Y)<|A2 24 V (BF Y)<|Ao<|Zn [4] ?_;refine Zx<|AA<|AC V results52 Y (by exact ⟨by exact Ea (fun e=>h2 (YF.1 e).2.1),V⟩)
 rw [Bm g];refine AW 2 V<|AW 3 V<|AW 4 V<|AW 5 V<|AW 6 V<|AW 7 V<|AW 8 V<|A2 9 V (AL Y Y)<|A2 10 V (AJ Y)<|AW 11 V<|AW 12 V<|AW 13 V<|AW 14 V<|AW 15 V<|A2 16 V (AL Y Y)<|A2 17 V (AJ Y)<|AW 18 V<|AW 19 V<|AW 20 V<|AW 21 V<|AW 22 V<|A2 23 V (AL Y Y)<|A2 24 V (BF Y)<|Ao<|Zn [4] ?_;refine Zx<|AA<|AC V results52 Y (by exact ⟨by exact Ea (fun e=>g (YF.1 e).1),V⟩)
theorem Pv(s:Bs):∀(n:Nat) (l:List Bs) (i:Nat),l.length<=n->l[i]?=some s->Kg s l.length i (EK l i).reverse=some (Cs l)
 |n,l,i,hn,hi=>by
  have m:=(zt.1 hi).1;rcases DP l.length 2 with h|h
  · match l,hi with
    |[x],hi=>
     have h0:i=0:=by simp at m;exact m
     subst h0;simp at hi;subst hi;rw [Kq B3,Kl];rfl
    |[],hi=>simp at hi
    |x::y::l,hi=>simp only [D3]at h;omega
  · have J:=FK h
    have h2:=En l.length
    match n,hn with
    |0,hn=>omega
    |n+1,hn=>
    have I:(l.take (BV l.length)).length=BV l.length:=by rw [zy];omega
    have G:(l.drop (BV l.length)).length=l.length -BV l.length:=C0;by_cases g:i<BV l.length
    · have E:=Pv s n (l.take (BV l.length)) i A0 (by rw [Gk,B0 g];exact hi)
      rw [I]at E;rw [Iy h g,SM];show Kg s l.length i (Cs (l.drop (BV l.length))::(EK (l.take (BV l.length)) i).reverse)=_
      rw [Uo h g,E,IQ h];rfl
    · have E:=Pv s n (l.drop (BV l.length)) (i -BV l.length) A0 (by rw [Hh,show BV l.length+(i -BV l.length)=i by omega];exact hi)
      rw [G]at E;rw [Hu h g,SM];show Kg s l.length i (Cs (l.take (BV l.length))::(EK (l.drop (BV l.length)) (i -BV l.length)).reverse)=_
      rw [Rv h g,E,IQ h];rfl
theorem iw{l:List Bs}{i:Nat}{s:Bs}(hi:l[i]?=some s):RU (Cs l) l.length i s (EK l i)=true:=by
 unfold RU;rw [Pv s l.length l i (B8 _) hi];have h:(EK l i).any PL=false:=by
  rw [ff];intro x hx;simp [PL,KW l.length l i (B8 _) x hx]
 rw [h];simp
theorem Tn{m:AY->Bool}:∀{l:List AY} {i:Nat} {x:AY},i<Cm m l->l[i]?=some x->m x=false
 |[],i,x,_,hx=>by simp at hx
 |z::l,i,x,hi,hx=>by
  unfold Cm at hi;rw [W8]at hi;by_cases hz:m z=true;· rw [As (by simp [hz])]at hi;simp at hi
  · have g:m z=false:=by simpa using hz
    rw [B0 (by simp [g])]at hi;rcases i with _|i
    · simp at hx;rw [<-hx];exact g
    · simp only [W5]at hx
      exact Tn (l:=l) (by unfold Cm;simp at hi;omega) hx
theorem Qa{g:AY->Bool}:∀{l:List AY} {x:AY},l[Cm g l]?=some x->g x=true
 |[],x,hx=>by simp at hx
 |z::l,x,hx=>by
  unfold Cm at hx;rw [W8]at hx;by_cases hz:g z=true;· rw [As (by simp [hz])]at hx;simp at hx;rw [<-hx];exact hz
  · have m:g z=false:=by simpa using hz
    rw [B0 (by simp [m])]at hx;simp only [D3,W5]at hx;exact Qa (l:=l) hx
def ltV(c:Nat)(a b:AY):Prop:=DZ a c<DZ b c\/DZ a c=DZ b c/\a.k<b.k
theorem OD{rs:List AY}(g:BL rs)(t:Int)(c:Nat):(BI rs t c).Pairwise (ltV c):=by
 have m:=F9 g t c (-1000000000) 1000000000;have h2:(rs.filter (inR t c (-1000000000) 1000000000)).Pairwise (fun a b=>a.k≠b.k):=(NP g fun r h=>iJ h).imp (fun h=>by omega)
 have y:(Cg rs t c (-1000000000) 1000000000).Pairwise (fun a b=>a.k≠b.k):=((Ez rs t c (-1000000000) 1000000000).pairwise_iff (fun h=>h.symm)).2 h2;exact (m.and y).imp (fun{a b} h=>by unfold ltV;obtain ⟨E,G⟩:=h;unfold leV at E;omega)
theorem rf{l:List AY}{R:AY->AY->Prop}(h:l.Pairwise R){i j:Nat}{a b:AY}(g:i<j)(m:l[i]?=some a)(y:l[j]?=some b):R a b:=by
 obtain ⟨hi,rfl⟩:=zt.1 m;obtain ⟨E,rfl⟩:=zt.1 y;exact ia.1 h i j hi E g
theorem PH{rs:List AY}(E:BL rs){t:Int}{c i j:Nat}{a b:AY}(m:i<=j)(y:(BI rs t c)[i]?=some a)(g:(BI rs t c)[j]?=some b):DZ a c<=DZ b c:=by
 rcases Nat.eq_or_lt_of_le m with rfl|h
 · rw [y]at g;injection g with g;rw [g];exact cT _
 · have:=rf (OD E t c) h y g
   unfold ltV at this;omega
theorem iC{rs:List AY}(y:BL rs)(t c:Nat)(lo:Int){i:Nat}{r:AY}(g:(BI rs (t:Int) c)[i]?=some r):(Cm (geV c lo) (BI rs (t:Int) c)<=i->lo<=DZ r c)/\(i<Cm (geV c lo) (BI rs (t:Int) c)->DZ r c<lo):=by
 constructor
 · intro h
   have m:=(zt.1 g).1;have hx:(BI rs (t:Int) c)[Cm (geV c lo) (BI rs (t:Int) c)]?=some _:=zn A0
   have E:=HH (Qa hx);have h2:=PH y h hx g
   omega
 · intro h
   have:=N2 (Tn h g);omega
theorem iK{rs:List AY}(y:BL rs)(t c:Nat)(hi:Int){i:Nat}{r:AY}(g:(BI rs (t:Int) c)[i]?=some r):(Cm (gtV c hi) (BI rs (t:Int) c)<=i->hi<DZ r c)/\(i<Cm (gtV c hi) (BI rs (t:Int) c)->DZ r c<=hi):=by
 constructor
 · intro h
   have m:=(zt.1 g).1;have hx:(BI rs (t:Int) c)[Cm (gtV c hi) (BI rs (t:Int) c)]?=some _:=zn A0
   have E:=HH (Qa hx);have h2:=PH y h hx g
   omega
 · intro h
   have:=N2 (Tn h g);omega
theorem Tk{rs:List AY}(g:BL rs)(t c:Nat)(lo hi:Int)(m:lo<=hi):Cm (geV c lo) (BI rs (t:Int) c)<=Cm (gtV c hi) (BI rs (t:Int) c):=by
 rcases DP (Cm (gtV c hi) (BI rs (t:Int) c)) (Cm (geV c lo) (BI rs (t:Int) c))with h|h
 · have E:=Gj (geV c lo) (BI rs (t:Int) c)
   have hx:(BI rs (t:Int) c)[Cm (gtV c hi) (BI rs (t:Int) c)]?=some _:=zn A0;have y:=(iK g t c hi hx).1 (B8 _)
   have h2:=(iC g t c lo hx).2 h;omega
 · exact h
theorem Ho{l:List AY}{f m j:Nat}{r:AY}(h:((l.drop f).take m)[j]?=some r):j<m/\l[f+j]?=some r:=by
 rw [Gk]at h;split at h;· rw [Hh]at h;exact ⟨by assumption,h⟩
 · cases h
theorem PI{rs:List AY}{t:Int}{c:Nat}{r:AY}(h:r∈BI rs t c):r∈rs/\r.t=t:=by
 have:=MD.1 ((Ez rs t c _ _).mem_iff.1 h);exact ⟨this.1,iJ this.2⟩
theorem Jj{rs:List AY}(m:BL rs)(t c:Nat)(lo hi:Int)(g:lo<=hi):CR (BI rs (t:Int) c) c lo<=toT (BI rs (t:Int) c) c hi/\toT (BI rs (t:Int) c) c hi<=(BI rs (t:Int) c).length/\(0<(BI rs (t:Int) c).length->CR (BI rs (t:Int) c) c lo<toT (BI rs (t:Int) c) c hi):=by
 have y:=Tk m t c lo hi g;have h2:=Gj (geV c lo) (BI rs (t:Int) c)
 have E:=Gj (gtV c hi) (BI rs (t:Int) c);unfold CR toT;omega
theorem QH{rs:List AY}(m:BL rs)(t c:Nat)(lo hi:Int)(g:lo<=hi):(Eb rs t c lo hi).rows.length=toT (BI rs (t:Int) c) c hi -CR (BI rs (t:Int) c) c lo:=by
 have:=Jj m t c lo hi g;show(((BI rs (t:Int) c).drop _).take _).length=_
 rw [zy,C0];omega
theorem M9{rs:List AY}(y:BL rs)(hn:rs.length<=2000)(K:∀r∈rs,r.ok)(t c:Nat)(ht:t<=3)(hc:c<=3)(lo hi:Int)(m:lo<=hi):Fp (Eb rs t c lo hi):=by
 have h1:=Tk y t c lo hi m;have h2:=Gj (geV c lo) (BI rs (t:Int) c)
 have h3:=Gj (gtV c hi) (BI rs (t:Int) c);have h4:=Jj y t c lo hi m
 have G:=QH y t c lo hi m;have Z:=Fh y (t:Int) c
 have hf:CR (BI rs (t:Int) c) c lo=Cm (geV c lo) (BI rs (t:Int) c) -1:=rfl;have af:toT (BI rs (t:Int) c) c hi=min (Cm (gtV c hi) (BI rs (t:Int) c)+1) (BI rs (t:Int) c).length:=rfl
 have hv:∀r:AY,Bh r ((c:Nat):Int)=DZ r c:=fun r=>KT r c hc;refine ⟨⟨⟨?_,?_⟩,?_,?_⟩,m,⟨?_,?_⟩,⟨?_,?_⟩,?_,?_,?_,?_,?_⟩;· show(0:Int)<=(t:Int);omega
 · show(t:Int)<4;omega
 · show(0:Int)<=(c:Int);omega
 · show(c:Int)<4;omega
 · show(0:Int)<=((BI rs (t:Int) c).length:Int);omega
 · show((BI rs (t:Int) c).length:Int)<=2000;omega
 · show(0:Int)<=((CR (BI rs (t:Int) c) c lo:Nat):Int);omega
 · show((CR (BI rs (t:Int) c) c lo:Nat):Int)<=((BI rs (t:Int) c).length:Int);omega
 · rw [G];show _<=((BI rs (t:Int) c).length:Int) -((CR (BI rs (t:Int) c) c lo:Nat):Int);omega
 · rw [G];intro h0;show((BI rs (t:Int) c).length:Int)=0;omega
 · intro j r E
   obtain ⟨U,g⟩:=Ho E;have O:=PI (Cd g)
   have J:=iC y t c lo g;have I:=iK y t c hi g
   refine ⟨⟨K r O.1,O.2,?_,?_⟩,?_⟩;· intro h;change Bh r (c:Int)<lo at h;rw [hv]at h;omega
   · intro h;change hi<Bh r (c:Int)at h;rw [hv]at h;rw [G];omega
   · intro X q hq
     obtain ⟨_,M⟩:=Ho hq;have:=rf (OD y (t:Int) c) A0 M g
     unfold RS;show Bh q (c:Int)<Bh r (c:Int)\/Bh q (c:Int)=Bh r (c:Int)/\q.k<r.k
     rw [hv,hv];exact this
 · intro r E
   obtain ⟨_,g⟩:=Ho E;have J:=iC y t c lo g
   show((CR (BI rs (t:Int) c) c lo:Nat):Int)=0\/Bh r (c:Int)<lo;rw [hv];omega
 · intro r E
   rw [G]at E⊢;obtain ⟨U,g⟩:=Ho E;have I:=iK y t c hi g
   show((CR (BI rs (t:Int) c) c lo:Nat):Int)+_=((BI rs (t:Int) c).length:Int)\/hi<Bh r (c:Int);rw [hv];omega
theorem Um{rs:List AY}(G:BL rs)(hn:rs.length<=2000)(y:∀r∈rs,r.ok)(t c:Nat)(M:t<=3)(hc:c<=3)(lo hi:Int)(g:lo<=hi):Ke (E8 rs) (Eb rs t c lo hi):=by
 have O:=Jj G t c lo hi g;have I:=QH G t c lo hi g
 refine ⟨M9 G hn y t c M hc lo hi g,FO rs,?_,V,Cs (Gu (BI rs (t:Int) c)),Dk _,?_,?_,?_⟩;· rw [I];exact O7 _ _ _
 · show(Im rs)[4*(t:Int).toNat+(c:Int).toNat]?=some (JS ((BI rs (t:Int) c).length:Int)++_)
   rw [M1,M1];unfold Im;rw [FG,Ut t A0 c A0];rfl
 · intro h0
   change ((BI rs (t:Int) c).length:Int)=0 at h0;rw [Lq (show(BI rs (t:Int) c).length=0 by omega)];rfl
 · intro _ k r pf K m
   obtain ⟨J,E⟩:=Ho K;change (Jk (BI rs (t:Int) c) (CR (BI rs (t:Int) c) c lo) _)[k]?=some pf at m;unfold Jk at m;rw [FG,cH J]at m;injection m with m
   subst m;show RU _ ((BI rs (t:Int) c).length:Int).toNat (((CR (BI rs (t:Int) c) c lo:Nat):Int).toNat+k) _ _=true
   rw [M1,M1,<-EJ (BI rs (t:Int) c)];refine iw ?_;unfold Gu;rw [FG,E];rfl
theorem bS{rs:List AY}(E:BL rs)(hn:rs.length<=2000)(J:∀r∈rs,r.ok)(t c:Nat)(U:t<=3)(hc:c<=3)(lo hi:Int)(m:lo<=hi):ES (Eb rs t c lo hi)=(BI rs (t:Int) c).filter (inR (t:Int) c lo hi):=by
 have I:=M9 E hn J t c U hc lo hi m;have h4:=Jj E t c lo hi m
 have hf:CR (BI rs (t:Int) c) c lo=Cm (geV c lo) (BI rs (t:Int) c) -1:=rfl;have X:toT (BI rs (t:Int) c) c hi=min (Cm (gtV c hi) (BI rs (t:Int) c)+1) (BI rs (t:Int) c).length:=rfl
 have hv:∀r:AY,Bh r ((c:Nat):Int)=DZ r c:=fun r=>KT r c hc;rw [Q6 I];show(((BI rs (t:Int) c).drop (CR (BI rs (t:Int) c) c lo)).take (toT (BI rs (t:Int) c) c hi -CR (BI rs (t:Int) c) c lo)).filter _=_
 have e:BI rs (t:Int) c=(BI rs (t:Int) c).take (CR (BI rs (t:Int) c) c lo)++(((BI rs (t:Int) c).drop (CR (BI rs (t:Int) c) c lo)).take (toT (BI rs (t:Int) c) c hi -CR (BI rs (t:Int) c) c lo)++(BI rs (t:Int) c).drop (toT (BI rs (t:Int) c) c hi)):=by
  have K:(BI rs (t:Int) c).drop (toT (BI rs (t:Int) c) c hi)=((BI rs (t:Int) c).drop (CR (BI rs (t:Int) c) c lo)).drop (toT (BI rs (t:Int) c) c hi -CR (BI rs (t:Int) c) c lo):=by
   rw [ab];congr 1;omega
  rw [K,HW,HW]
 conv=>rhs;rw [e]
 rw [KB,KB];have Z:((BI rs (t:Int) c).take (CR (BI rs (t:Int) c) c lo)).filter (inR (t:Int) c lo hi)=[]:=by
  rw [er];intro r y G;obtain ⟨i,g⟩:=H4 y;rw [Gk]at g;split at g
  · have:=(iC E t c lo g).2 A0
    have:=HH G;omega
  · cases g
 have z2:((BI rs (t:Int) c).drop (toT (BI rs (t:Int) c) c hi)).filter (inR (t:Int) c lo hi)=[]:=by
  rw [er];intro r y G;obtain ⟨i,g⟩:=H4 y;rw [Hh]at g;have M:=(zt.1 g).1
  have:=(iK E t c hi g).1 A0;have:=HH G
  omega
 rw [Z,z2,L5,H3];refine cJ ?_;intro r y;have O:=PI (ID (HI y))
 unfold inB inR;show decide (lo<=Bh r (c:Int)/\Bh r (c:Int)<=hi)=_
 rw [hv];exact decide_eq_decide.2 ⟨fun h=>⟨O.2,h⟩,fun h=>h.2⟩
theorem ZV{rs:List AY}(y:BL rs)(m:∀r∈rs,r.ok)(t c:Nat)(O:t<=3)(hc:c<=3)(lo hi:Int)(I:lo<=hi):(BI rs (t:Int) c).filter (inR (t:Int) c lo hi)=Cg rs (t:Int) c lo hi:=by
 refine VG y ?_ ?_
 · have g:=(Ez rs (t:Int) c (-1000000000) 1000000000).filter (inR (t:Int) c lo hi)
   refine g.trans ?_;rw [List.filter_filter];refine List.Perm.of_eq (cJ ?_);intro r J;obtain ⟨⟨g,h2,E⟩,K,M⟩:=m r J;unfold inV at g h2 E;have G:-1000000000<=DZ r c/\DZ r c<=1000000000:=by
    unfold DZ;split;· omega
    · split
      · omega
      · split<;>omega
   unfold inR;rw [<-Bool.decide_and];exact decide_eq_decide.2 ⟨fun h=>h.1,fun h=>⟨h,h.1,G⟩⟩
 · exact (F9 y (t:Int) c (-1000000000) 1000000000).filter _
theorem SV{rs:List AY}(y:BL rs)(hn:rs.length<=2000)(m:∀r∈rs,r.ok)(t c:Nat)(E:t<=3)(hc:c<=3)(lo hi:Int)(g:lo<=hi):ES (Eb rs t c lo hi)=Cg rs (t:Int) c lo hi:=by rw [bS y hn m t c E hc lo hi g,ZV y m t c E hc lo hi g]
def Bu(c:Int)(n:Nat):Nat:=((if c<0 then-(c+1)else c).tmod n).toNat
theorem Dm(c:Int)(n:Nat)(hn:0<n):Bu c n<n:=by
 unfold Bu;have g:0<=(if c<0 then-(c+1)else c):=by split<;>omega
 have h2:=Int.tmod_lt_of_pos (if c<0 then-(c+1)else c) (b:=(n:Int)) A0;have m:=Int.tmod_nonneg (n:Int) g
 omega
theorem Kr(c:Int)(n:Nat):(if c<0 then-(c+1)else c).tmod n=(Bu c n:Int):=by
 unfold Bu;have g:0<=(if c<0 then-(c+1)else c):=by split<;>omega
 have m:=Int.tmod_nonneg (n:Int) g;omega
theorem uI{rs:List AY}{c:Chg}{x:AY}(h:x∈Ei rs c):x∈rs\/(c.has=true/\x=⟨c.t,c.k,c.n⟩):=by
 unfold Ei at h;rcases DM.1 h with h|h
 · rcases DM.1 h with h|h
   · exact .inl (HI h)
   · exact .inr (PN.1 h)
 · exact .inl (ID (ID h))
theorem vL{c:Chg}(h:c.ok)(g:c.has=true):AY.ok ⟨c.t,c.k,c.n⟩:=by
 obtain ⟨_,h2,_⟩:=h;rw [KR g]at h2;exact G2.1 fun m=>h2 (.inr ⟨g,m⟩)
theorem VL:∀(cs:List Chg) (rs:List AY),(∀r∈rs,r.ok)->(∀c∈cs,c.ok)->∀r∈Dc rs cs,r.ok
 |[],rs,h,_=>h
 |c::cs,rs,h,hc=>by
  have y:∀r∈Ei rs c,r.ok:=fun r m=>by
   rcases uI m with m|⟨hh,rfl⟩
   · exact h r m
   · exact vL (hc c B3) hh
  exact VL cs (Ei rs c) y (fun c g=>hc c (by simp [g]))
theorem DN.rowsOk{l:List Bg}(h:DN l):∀i,i<=l.length->∀r∈Bd (l.take i),r.ok
 |0,_=>by intro r g;simp [Bd]at g
 |i+1,hi=>by
  obtain ⟨r,g⟩:∃r,l[i]?=some r:=⟨_,zn A0⟩;rw [C8 g,Ew];refine VL _ _ (DN.rowsOk h i A0) fun c hc=>?_;obtain ⟨j,m⟩:=H4 hc;exact (h i r g).1.ok.all j c m
theorem nG{M:List AU}{p:B7}{n cap:Nat}{xs:List (List Int)}(h:Pm M (.slice p n cap) xs)(k:Nat)(E:k<=n):Pm M (.slice p k cap) (xs.take k):=by
 obtain ⟨I,g,e,G,y⟩:=h;injection e with e1 e2 e3
 subst e1 e2 e3;have m:(xs.take k).length=k:=by rw [zy];exact LO E
 refine ⟨p,cap,by rw [m],by omega,fun i z hz=>y i z ?_⟩;rw [Gk]at hz;split at hz;· exact hz
 · cases hz
def cs0:List Chg:=[⟨0,3,false,V3.zero,true,⟨10,0,0⟩⟩,⟨0,5,false,V3.zero,true,⟨10,21,30⟩⟩]
def RP.cut(x:RP):RP:=⟨x.tb,x.cl,x.lo,x.hi,x.ct,x.fi,x.rows.drop 1,x.paths.drop 1,x.roots⟩
theorem ww{M:List AU}{v:A4}{x:RP}(hv:Ql M v x)(h:Fp x){l:List AY}(y:ES x=l):Bz prog 156 #[v] [M] (fun r H'=>∃m sr,r= .tuple #[m,.bool true]/\BZ 5 98 m l.length (Ac l) sr/\H'=[sr,M]):=by
 have g:=V9 hv;rw [CA h,y]at g;exact g
theorem Ql.mono{M M':List AU}{v:A4}{x:RP}(h:Ql M v x)(g:∀c∈M,c∈M'):Ql M' v x:=by
 obtain ⟨G,E,I,e,m,h2,y⟩:=h;exact ⟨G,E,I,e,m.mono g,h2.mono g,y.mono g⟩
theorem Sj:∀(n:Nat) (l:List Bs) (i:Nat),l.length<=n->(EK l i).length<=l.length
 |n,l,i,hn=>by
  rcases DP l.length 2 with h|h
  · rw [Kq A0];simp
  · have m:=FK h
    have h2:=En l.length
    match n,hn with
    |0,hn=>omega
    |n+1,hn=>
    by_cases hi:i<BV l.length
    · have g:=Sj n (l.take (BV l.length)) i (by rw [zy];omega)
      rw [zy]at g;rw [Iy h hi,zq];simp only [FF];omega
    · have g:=Sj n (l.drop (BV l.length)) (i -BV l.length) (by rw [C0];omega)
      rw [C0]at g;rw [Hu h hi,zq];simp only [FF];omega
theorem R4{rs:List AY}(g:BL rs)(hn:rs.length<=2000)(t c:Nat)(lo hi:Int):∀s∈(Eb rs t c lo hi).roots,s.length<=140737488354000:=by
 intro s h;obtain ⟨x,_,rfl⟩:=GB.1 h;have:=MS g hn x
 omega
theorem Mf{rs:List AY}(m:BL rs)(hn:rs.length<=2000)(t c:Nat)(lo hi:Int):∀l∈(Eb rs t c lo hi).paths,l.length<=1000000:=by
 intro l h;obtain ⟨x,_,rfl⟩:=GB.1 h;have g:=Sj _ (Gu (BI rs (t:Int) c)) (CR (BI rs (t:Int) c) c lo+x) (B8 _)
 have h2:=Fh m (t:Int) c;rw [EJ]at g;omega
end Go.Proofs.YtlkdhannldcfbaaGreatDoor
namespace Go.Proofs.YtlkdhannldcfbaaGreatDoor
open Go.Proofs.Tryz
open Go Go.RowKit Gw
set_option maxRecDepth 100000
attribute [local irreducible] Gw.At Gw.Nx Gw.Ops
open Go.ChangeShapes Go.WideShapes Go.Deep
theorem zC(g:Addr):g.add 0=g:=by simp [Addr.add]
theorem ry{w:A6}{a:Addr}{v:A4}(h:w.cell? a=some v):a=⟨a.block,a.off,none⟩:=by
 cases a with|mk b o s=>
 cases s with
 |none=>rfl
 |some s=>
  simp only [World.cell?]at h;split at h<;>simp at h
theorem WF{w:A6}{g i:Nat}{v:A4}(h:w.cell? ⟨g,i,none⟩=some v):∃cur T z,w.heap[g]?=some (.cells cur T z)/\cur[i]?=some v:=by
 unfold World.cell? at h;simp only at h;split at h
 · rename_i c T z hc
   exact ⟨c,T,z,hc,by simpa using h⟩
 · cases h
section
variable{H:Type}{enc:AM×A4->H}{P:Program}{w:A6}{base:Nat}{held:Bool}
end
def WT(w:A6):List AU:=(List.range w.heap.size).filterMap fun b=>(w.heap[b]?).map fun o=>(b,o)
theorem Vh{w:A6}{b:Nat}{o:Obj}:(b,o)∈WT w↔w.heap[b]?=some o:=by
 unfold WT;rw [Z2];constructor
 · rintro ⟨a,_,m⟩
   obtain ⟨o',g,h2⟩:=S8.1 m;injection h2 with e1 e2
   subst e1 e2;exact g
 · intro h
   refine ⟨b,?_,by rw [h];rfl⟩;rw [L0];rcases DP b w.heap.size with g|g
   · exact g
   · simp [I3 g]at h
theorem ay(w:A6):((WT w).map (·.1)).Nodup:=by
 have:∀l:List Nat,((l.filterMap fun b=>(w.heap[b]?).map fun o=>(b,o)).map (·.1)).Sublist l:=by
  intro l;induction l with
  |nil=>simp
  |cons a l ih=>
   rw [fN];cases h:w.heap[a]?with
   |none=>simp only [Option.map_none];exact ih.cons a
   |some o=>simp only [L7,HJ];exact ih.cons_cons a
 exact List.Nodup.sublist (this _) ju
def MZ(w:A6)(ks:List Nat):List AU:=(WT w).filter fun c=>!ks.contains c.1
theorem PO{w:A6}{g:List Nat}{b:Nat}{o:Obj}(h:w.heap[b]?=some o)(m:b∉g):(b,o)∈MZ w g:=by
 unfold MZ;rw [MD];exact ⟨Vh.2 h,by simp [m]⟩
theorem kI{P:Program}{f:FuncId}{args:AN}{v:A4}{w:A6}(L:List AU)(M:∀c∈L,w.heap[c.1]?=some c.2)(hn:(L.map (·.1)).Nodup){H:Hp}(y:H.flatten=L++MZ w (L.map (·.1)))(h:BC P f args H v):
 Calls P f args w fun e K=>e= .returned v/\Below w.heap.size w K:=by
 have J:Sat w (H++[]) w:=by
  refine ⟨V,V,V,?_,?_⟩
  · rw [H3,y,Dg,PB]
    refine ⟨hn,?_,?_⟩;· exact List.Nodup.sublist (j8.map _) (ay w)
    · intro a X b Z e
      subst e;obtain ⟨c,hc,rfl⟩:=GB.1 Z;unfold MZ at hc;have:=(MD.1 hc).2
      simp only [N5,List.contains_eq_mem,Nd]at this;exact this X
  · intro p G
    rw [H3,y,DM]at G;rcases G with G|G
    · exact M p G
    · exact Vh.1 (MD.1 G).1
 refine Calls.mono (h w [] w J) fun e K he=>?_;rcases he with⟨v',H',rfl,⟨rfl,rfl⟩,m⟩|⟨_,_,_,hf,_⟩
 · refine ⟨rfl,m.os,m.tape,m.output,?_,?_⟩
   · rcases Lz w.heap.size with h0|h0
     · omega
     · have O:w.heap.size -1<w.heap.size:=by omega
       have I:w.heap[w.heap.size -1]?=some w.heap[w.heap.size -1]:=HO O;have:K.heap[w.heap.size -1]?=some w.heap[w.heap.size -1]:=by
        by_cases E:(w.heap.size -1)∈L.map (·.1)
        · obtain ⟨c,hc,E⟩:=GB.1 E
          have g:=m.get c (by rw [H3,y];exact E3 _ hc);have h2:=M c hc
          rw [E]at g h2;rw [g,<-h2,I]
        · exact m.get (_,_) (by rw [H3,y];exact DA _ (PO I E))
       rcases DP (w.heap.size -1) K.heap.size with g|g
       · omega
       · rw [I3 g]at this;cases this
   · intro k E
     have I:w.heap[k]?=some w.heap[k]:=HO E;by_cases U:k∈L.map (·.1)
     · obtain ⟨c,hc,rfl⟩:=GB.1 U
       have g:=m.get c (by rw [H3,y];exact E3 _ hc);rw [g,M c hc]
     · rw [I]
       exact m.get (_,_) (by rw [H3,y];exact DA _ (PO I U))
 · exact hf.elim
theorem Xx{P:Program}{w:A6}{n:String}{g:Nat}{cs:AN}(m:P.globalNamed n=some g)(h:w.var? P n=some cs):∃T z,w.heap[g]?=some (.cells cs T z):=by
 unfold World.var? at h;rw [m,IF]at h;split at h
 · rename_i c T z hc
   injection h with e
   subst e;exact ⟨T,z,hc⟩
 · cases h
theorem qP:Tryz.prog.globalNamed "cachetier/digest.round"=some 1:=by kernel_rfl
theorem wT:(Tryz.prog.globals[1]?).map (·.type)=some 269:=by kernel_rfl
theorem c32:Tryz.prog.cellsOf 164=1:=by kernel_rfl
theorem zT:Tryz.prog.cellsOf 269=64:=by kernel_rfl
def nT:List Int:=Di.map fun x=>(x.toNat:Int)
theorem bV:(Rows.laid_cachetier_digest_round:DataW Unit)=Lib.tabData .u32 nT:=by kernel_rfl
theorem YI:(nT.map fun z=>Value.int .u32 z).toArray=(Di.map CB).toArray:=by kernel_rfl
theorem yY:Tryz.prog.globalNamed "cachetier/proof.errMisfit"=some 0:=by kernel_rfl
theorem zI:(Tryz.prog.globals[0]?).map (·.type)=some 222:=by kernel_rfl
theorem zV:Tryz.prog.cellsOf 362=1:=by kernel_rfl
theorem wy(u:AM)(h:Tryz.prog.typeName? 3 u=some "*errors.errorString"):u=339:=typeName_ptr_named (nm:= "errors.errorString") AG AG AK u h
def WK(W:A6)(Tg:AM)(zg:Nat×Nat)(pa:Addr)(Tx:AM)(zx:Nat×Nat):Prop:=W.heap[1]?=some (.cells (Di.map CB).toArray Tg zg)/\W.heap[0]?=some (.cells #[.iface 339 (.pointer (some pa))] Tx zx)
theorem oZ{r:List (String×DataW Unit)}{W:A6}(h:laidMet prog (("cachetier/digest.round",Rows.laid_cachetier_digest_round)::("cachetier/proof.errMisfit",Rows.laid_cachetier_proof_errMisfit)::r) W):
 ∃Tg zg pa Tx zx,WK W Tg zg pa Tx zx:=by
 have h1:=h;rw [bV]at h1;have h2:=Lib.tabIs_of_head qP wT S2 MT c32 zT h1
 unfold Lib.TabIs at h2;rw [YI]at h2;obtain ⟨Tg,zg,hb⟩:=Xx qP h2;obtain ⟨pa,s,hv,_⟩:=laid_sentinel h1.tail yY zI hQ wy underlying339 underlying362 rfl rfl HE zV AG;obtain ⟨Tx,zx,hx⟩:=Xx yY hv;exact ⟨Tg,zg,pa,Tx,zx,hb,hx⟩
def qC:A4->Bool
 | .string _=>true
 | .slice _ _ _=>true
 | .bool _=>true
 | .int .i64 _=>true
 |_=>false
theorem ZP{W:A6}{J K:AM}{O U:Nat×Nat}{M:Addr}(G:WK W J O M K U)
 {g i:Nat}{cur:AN}{T:AM}{z:Nat×Nat}(E:W.heap[g]?=some (.cells cur T z)){y:A4}(hc:cur[i]?=some y)(I:qC y=true):g∉ [1,0]:=by
 intro m;simp only [E4,Mu,N3]at m;rcases m with m|m
 · subst m
   rw [G.1]at E;injection E with e
   injection e with e1 _ _
   subst e1;rw [cE,FG]at hc;obtain ⟨u,_,rfl⟩:=S8.1 hc;simp [CB,qC]at I
 · subst m
   rw [G.2]at E;injection E with e
   injection e with e1 _ _
   subst e1;rw [cE]at hc;have:=Cd hc
   simp only [D0]at this;subst this;simp [qC]at I
theorem ui{f:FuncId}{args:AN}{v:A4}{W:A6}{g m:AM}{E G:Nat×Nat}{y:Addr}(I:WK W g E y m G)
 (h:BC prog f args [[(1,.cells (Di.map CB).toArray g E)],[(0,.cells #[.iface 339 (.pointer (some y))] m G)],MZ W [1,0]] v):
 Calls prog f args W fun e J=>e= .returned v/\Below W.heap.size W J:=
 kI [(1,.cells (Di.map CB).toArray g E),(0,.cells #[.iface 339 (.pointer (some y))] m G)] (by
  intro c hc;simp only [E4,Mu,N3]at hc;rcases hc with rfl|rfl
  · exact I.1
  · exact I.2) B3 B3 h
theorem KM{α:Type}:∀(n:Nat) (p:Nat->α->Prop),(∀i,i<n->∃o,p i o)->∃os:List α,os.length=n/\∀i o,os[i]?=some o->p i o
 |0,_,_=>⟨[],rfl,fun i o h=>by cases h⟩
 |n+1,p,h=>by
  obtain ⟨os,g,h2⟩:=KM n p (fun i hi=>h i (by omega));obtain ⟨o,m⟩:=h n (by omega);refine ⟨os++[o],by simp [g],fun i o' hi=>?_⟩;rw [iv]at hi;split at hi;· exact h2 i o' hi
  · rename_i hlt
    have:i=n:=by
     have:=(zt.1 hi).1;simp at this;omega
    subst this;rw [g,S1]at hi;simp only [T7,TO]at hi;subst hi;exact m
section
variable{H:Type}{enc:AM×A4->H}{P:Program}{W:A6}{base:Nat}{held:Bool}
theorem TF{t e:AM}{s E:Nat}{cs:List A4}{x:DataW H×List MemPlace}(ht:P.underlying t=some (.slice e))(hc:P.cellsOf e=s)(hs:0<s)(h:DataW.trod enc P W base (fun _=>true) held E t cs=some x):
 ∃p len cap,cs=[.slice p len cap]/\(len<=maxLen/\len<=cap)/\∀i,i<len->∃cs' n z,cs'.length=s/\DataW.trod enc P W base (fun _=>true) held n e cs'=some z/\
  ∃g o cur T zz,p=some ⟨g,o,none⟩/\W.heap[g]?=some (.cells cur T zz)/\∀j,j<s->cur[o+i*s+j]?=cs'[j]?:=by
 rcases open_slice ht h with⟨rfl,_⟩|⟨a,len,cap,m,n,D,Pl,rfl,_,hl,hm,hmm,_,hel⟩
 · exact ⟨none,0,0,rfl,⟨C2 _,B8 _⟩,fun i hi=>by omega⟩
 · simp only [Ks]at hmm
   subst hmm;refine ⟨some a,len,m,V,⟨by omega,hl⟩,fun i hi=>?_⟩;have y:a=⟨a.block,a.off,none⟩:=by
    obtain ⟨cs0,O,_⟩:=hel 0 A0;rw [hc]at O;obtain ⟨_,X,gg⟩:=World.cells?_some O;have U:=gg 0 hs
    rw [zn (l:=cs0) (i:=0) A0,Tr,zC,zC]at U;exact ry U
   obtain ⟨cs',Z,h2⟩:=hel i A0;rw [hc]at Z;obtain ⟨_,I,hg⟩:=World.cells?_some Z;refine ⟨cs',n,_,I,h2,?_⟩;have h9:=hg 0 hs
   rw [zn (l:=cs') (i:=0) A0,y,Cb,Cb]at h9;obtain ⟨cur,T,zz,hb,_⟩:=WF h9;refine ⟨a.block,a.off,cur,T,zz,by rw [<-y],hb,fun j hj=>?_⟩;have J:=hg j hj
   rw [zn (l:=cs') (i:=j) A0]at J⊢;rw [y,Cb,Cb]at J;obtain ⟨M,T2,af,G,K⟩:=WF J;rw [hb]at G;injection G with e
   injection e with e1 _ _
   rw [e1];exact K
end
theorem xZ:Tryz.prog.cellsOf 3=1:=by kernel_rfl
theorem zU:Tryz.prog.cellsOf 189=6:=by kernel_rfl
theorem Yv{H:Type}{enc:AM×A4->H}{W:A6}{base:Nat}{held:Bool}{Tg Tx:AM}{zg zx:Nat×Nat}{pa:Addr}(h4:WK W Tg zg pa Tx zx){E:Nat}{cs:List A4}{x:DataW H×List MemPlace}(h:DataW.trod enc prog W base (fun _=>true) held E 22 cs=some x):
 ∃v xs,cs=[v]/\Pm (MZ W [1,0]) v xs:=by
 obtain ⟨p,len,cap,rfl,hl,M⟩:=TF cV zU AK h;obtain ⟨xs,h1,h2⟩:=KM len (fun i (z:List Int)=>z.length=6/\(∀n∈z,-9223372036854775808<=n/\n<=9223372036854775807)/\∃g o cur T zz,p=some ⟨g,o,none⟩/\(g,Obj.cells cur T zz)∈MZ W [1,0]/\∀(j:Nat) (n:Int),z[j]?=some n->cur[o+i*6+j]?=some (I4 n)) (fun i hi=>by
  obtain ⟨cs',n,z,af,ht,g,o,cur,T,zz,hp,hb,hc⟩:=M i hi;obtain ⟨ys,m,_,_,_,bf,hf⟩:=DataW.trod_array eV ht;obtain ⟨ns,Z,K⟩:=KM 6 (fun j (n:Int)=>(-9223372036854775808<=n/\n<=9223372036854775807)/\cs'[j]?=some (I4 n)) (fun j y=>by
   have f:=hf j y;rw [xZ,Iv,zn A0]at f;have I:j<cs'.length:=by omega
   have e:(cs'.drop j).take 1=[cs'[j]]:=by rw [RC I];rfl
   rw [e]at f;obtain ⟨k,O,_,U⟩:=DataW.trod_int F0 f;injection O with O _
   exact ⟨k,bounds_i64 U,by rw [zn I,O]⟩)
  have G:∀(j:Nat) (n:Int),ns[j]?=some n->cur[o+i*6+j]?=some (I4 n):=fun j n y=>by
   have ax:=(zt.1 y).1;rw [hc j A0];exact (K j n y).2
  obtain ⟨n0,X⟩:∃n,ns[0]?=some n:=⟨_,zn A0⟩;exact ⟨ns,Z,fun n J=>by
   obtain ⟨j,y⟩:=H4 J;exact (K j n y).1,g,o,cur,T,zz,hp,PO hb (ZP h4 hb (G 0 n0 X) V),G⟩)
 subst h1;exact ⟨_,xs,V,p,cap,V,hl,h2⟩
end Go.Proofs.YtlkdhannldcfbaaGreatDoor
namespace Go.Proofs.YtlkdhannldcfbaaGreatDoor
open Go.Proofs.Tryz
open Go Go.RowKit Gw
set_option maxRecDepth 100000
attribute [local irreducible] Gw.At Gw.Nx Gw.Ops
def Ra(pd:AY->Bool)(rows:List AY):Int:=(rows.findIdx? pd).elim (-1) fun i=>(i:Int)
theorem qI{g:AY->Bool}{rows:List AY}{i:Nat}{x:AY}(h:∀(j:Nat) (y:AY),j<i->rows[j]?=some y->g y=false)(hx:rows[i]?=some x)(E:g x=true):Ra g rows=(i:Int):=by
 obtain ⟨hi,rfl⟩:=zt.1 hx;unfold Ra;rw [W1.2 ⟨hi,E,fun j m=>by simp [h j _ m (zn A0)]⟩];rfl
theorem qJ{m:AY->Bool}{rows:List AY}(h:∀(j:Nat) (y:AY),j<rows.length->rows[j]?=some y->m y=false):Ra m rows=-1:=by
 unfold Ra;rw [Ys.2 fun y hy=>by
  obtain ⟨j,g⟩:=H4 hy;exact h j y (zt.1 g).1 g]
 rfl
theorem kW(g:AY->Bool)(rows:List AY):(Ra g rows=-1/\∀y∈rows,g y=false)\/∃(i:Nat) (x:AY),Ra g rows=(i:Int)/\rows[i]?=some x/\g x=true/\∀(j:Nat) (y:AY),j<i->rows[j]?=some y->g y=false:=by
 unfold Ra;cases h:rows.findIdx? g with
 |none=>exact .inl ⟨rfl,Ys.1 h⟩
 |some i=>
  obtain ⟨m,h2,E⟩:=W1.1 h;refine .inr ⟨i,_,V,zn m,h2,fun j y G hy=>?_⟩;obtain ⟨I,rfl⟩:=zt.1 hy;simpa using E j G
theorem o6{rs:List AY}{k:Nat}(g:k<rs.length)(x:AY):(Ac rs).take (k*5)++Ac [x]++(Ac rs).drop (k*5+(Ac [x]).length)=Ac (rs.set k x):=by
 rw [show k*5+(Ac [x]).length=(k+1)*5 by rw [BG];simp;omega,Du,DX,<-Bf,<-Bf,dq,B0 g];simp
theorem ZX{cur:AN}{rs:List AY}{k:Nat}{x:AY}(g:CG cur 0 (Ac rs))(hx:rs[k]?=some x):k*5+5<=cur.size/\cur.extract (0+k*5) (0+k*5+5)=(Ac [x]).toArray:=by
 have K:=(zt.1 hx).1;have J:k*5+5<=cur.size:=by
  have G:=KA hx 4 AK;have I:=g.get (k*5+4) _ (G.trans An)
  have:=(Hc.1 I).1;omega
 refine ⟨J,?_⟩;apply MA.1;apply OK;intro j;rw [HS,Z1];split
 · rename_i hj
   have m:j<5:=by omega
   have y:=KA hx j m;obtain ⟨u,E⟩:∃u,(Ac [x])[j]?=some u:=⟨_,zn (by rw [BG];simpa using m)⟩;rw [E]at y;have h2:=g.get _ _ y
   rw [C6]at h2;rw [C6,h2];exact E.symm
 · rw [Mb]
   show(Ac [x]).length<=j;rw [BG];simp only [FF];omega
theorem Y8{α:Type}{xs:List α}{i:Nat}(hi:i<xs.length)(x:α):(xs.set i x).take (i+1)=xs.take i++[x]:=by
 rw [dq,B0 hi,List.take_append,zy,LO A0];rw [HK (by rw [zy];omega),show i+1 -i=1 by omega];simp
theorem Mv{rows:List AY}{j:Nat}{x:AY}(f:AY->Bool)(hx:rows[j]?=some x):(rows.take (j+1)).filter f=(rows.take j).filter f++(if f x then [x]else []):=by
 rw [C8 hx,KB];congr 1;rw [fj,fp]
theorem OQ{rows:List AY}{f:AY->Bool}(h:∀(j:Nat) (y:AY),rows[j]?=some y->f y=true):rows.filter f=rows:=List.filter_eq_self.2 fun y hy=>by
 obtain ⟨j,g⟩:=H4 hy;exact h j y g
theorem TV{A B:List AU}{v:A4}{rows:List AY}(hv:Da A v rows)(E:Nat)(us:List A4)(U:AY->Bool)(M:∀(args:AN) (w:A6),(callFunc E args).run prog w= .ok (.enter E args) w)(hf:∀x:AY,BC prog E (.agg x.Ao5::us).toArray [B] (.bool (U x))):BC prog 107 #[v,.func (.func E) #[] us.toArray] [A,B] (I4 (Ra U rows)):=by
 have ax:=mL;obtain ⟨p,cap,rfl,⟨hl,af⟩,hg⟩:=id hv;refine Se func107 ntmps107 [0,1] ?_;intro u R;refine A1<|A3 Y<|Zq<|A1<|Zm Y<|Zv (AP B4 Y)<|Zm Y<|AD<|AX<|Zb [8,0,1,7] ?_;refine BB (e0:=[(8,_)]) (fun m e H=>∃(i:Nat),m=rows.length -i/\(i<=rows.length/\∀(j:Nat) (y:AY),j<i->rows[j]?=some y->U y=false)/\e=[(8,I4 (i:Int))]/\H=[]) (by exact ⟨0,V,⟨C2 _,fun j y h=>by omega⟩,V,V⟩) Wp ?_;rintro _ _ _ ⟨i,rfl,⟨hi,G⟩,rfl,rfl⟩;refine A1<|Zv (Au Y Y)<|AD<|Zq<|Ak Y (fun K=>?_) (fun K=>?_);·
  obtain ⟨x,hx⟩:∃x,rows[i]?=some x:=⟨_,zn K⟩;obtain ⟨g,off,cur,T,zz,rfl,O,X,J⟩:=hg i x hx;refine AB<|Zx<|Zq<|AX<|A1<|Zm Y<|A3 Y<|A1<|Zm Y<|Zm Y<|Zm Y<|Ap (AO B4 Ax Y Y A0)<|Ca (cs:=[(g,.cells cur T zz)]) (by simp [O]) (A9 (cs:=x.Ao5) C7 Ax Y A0 J) V rfl<|Xr [_] Y (M) Y V (hf x)<|AD<|Ad Y (fun I=>?_) (fun I=>?_);·
   refine A1<|Zm Y<|A3 Y<|AA<|Ab<|Zt<|Zt<|Ab<|Zt<|AC V dT Y (by exact ⟨congrArg (Value.int .i64) (qI G hx I).symm,V⟩)
  refine AB<|A8<|Zx<|Zg<|Ya (n:=1) Y Y<|Zm Y<|Z0<|Zn [8,0,1,7] ?_;refine AZ (e':=[(8,_)]) (by exact ⟨i+1,rfl,⟨by omega,fun j y h1 h2=>by rcases DP j i with h9|h9;exact G j y h9 h2;obtain rfl:j=i:=A0;rw [hx]at h2;injection h2 with h2;subst h2;exact I⟩,rfl,rfl⟩)
 have Z:i=rows.length:=by omega
 subst Z;refine Aw<|Zt<|Zt<|AQ<|Zx<|A1<|A3 Y<|AA<|AC V dT Y (by exact ⟨congrArg (Value.int .i64) (qJ G).symm,V⟩)
set_option maxHeartbeats 1000000 in
theorem aO{B s:List AU}{v:A4}{rows:List AY}(E:BZ 5 98 v rows.length (Ac rows) s)(hn:rows.length<=1000000000)(I:Nat)(us:List A4)(M:AY->Bool)(af:∀(args:AN) (w:A6),(callFunc I args).run prog w= .ok (.enter I args) w)(hf:∀x:AY,BC prog I (.agg x.Ao5::us).toArray [B] (.bool (M x))):Bz prog 238 #[v,.func (.func I) #[] us.toArray] [s,B] (fun r H'=>∃s',BZ 5 98 r (rows.filter fun x=>!M x).length (Ac (rows.filter fun x=>!M x)) s'/\H'=[s',B]):=by
 have o8:=mL;obtain ⟨p,cap,rfl⟩:=E.form;have hU:=D6 E A0
 refine Se func238 ntmps238 [0,1] ?_;intro u R;refine A1<|A3 Y<|A1<|Zm Y<|Zm Y<|Xr [_,_] Y call107 Y V (TV hU I us M af hf) ?_;rcases kW M rows with⟨e9,O⟩|⟨k,x0,e9,hx0,hp0,hno⟩
 ·
  rw [e9];refine A3 Y<|Zq<|A1<|Zm Y<|Zv (Br Y Y)<|AD<|Ak Y (fun h1=>?_) (fun h1=>?_);·
   refine A1<|Zm Y<|A3 Y<|AA<|Zt<|AC rfl results238 Y (by exact ⟨_,BH E (congrArg List.length (OQ fun j y hy=>by rw [O y (Cd hy)];rfl).symm) (congrArg Ac (OQ fun j y hy=>by rw [O y (Cd hy)];rfl).symm),rfl⟩)
  exact absurd V h1
 rw [e9];have mR:=(zt.1 hx0).1
 obtain ⟨g,gq,cur,z,gm,rfl,kz,kv⟩:=EE E A0;injection gm with hv1 hv2 hv3
 subst hv1 hv3;refine A3 Y<|Zq<|A1<|Zm Y<|Zv (Br Y Y)<|AD<|Ak Y (fun h2=>by omega)<|fun h2=>AB<|Zx<|Zq<|A1<|Zm Y<|Ya (n:=1) Y Y<|A3 Y<|AX<|Zb [5,6,0,1] ?_;refine BB (e0:=[(5,_),(6,_)]) (fun m e H=>∃(i j:Nat) (W:List AY) (cur:AN),m=rows.length -j/\((i<j/\j<=rows.length)/\W.length=rows.length/\BZ 5 98 (I6 g rows.length cap) rows.length (Ac W) [(g,.cells cur 98 z)]/\W.take i=(rows.take j).filter (fun x=>!M x)/\∀t,j<=t->W[t]?=rows[t]?)/\e=[(5,I4 (i:Int)),(6,I4 (j:Int))]/\H=[[(g,.cells cur 98 z)]]) (by exact ⟨k,k+1,rows,cur,rfl,⟨⟨by omega,by omega⟩,rfl,E,by rw [Mv _ hx0,hp0];simp only [ON,Mn,Hb,H3];exact (OQ (fun j y hy=>by rw [Gk]at hy;split at hy;rw [hno j y dp hy];rfl;cases hy)).symm,fun t _=>rfl⟩,rfl,rfl⟩) Wp ?_;rintro _ _ _ ⟨i,j,W,cur,rfl,⟨lv,Z,K,J,X⟩,rfl,rfl⟩;obtain ⟨bn,ax,l8,gy,U⟩:=K9 K;refine Zq<|A1<|Zm Y<|Zm Y<|Zv (AP B4 Y)<|Zv (Au Y Y)<|AD<|Ak Y (fun cu=>?_) (fun cu=>?_);·
  obtain ⟨x,hx⟩:∃x,rows[j]?=some x:=⟨_,zn cu⟩;obtain ⟨l9,bf⟩:=ZX bn ((X j (B8 _)).trans hx);refine AB<|Zx<|Zq<|AX<|A1<|Zm Y<|Zm Y<|Ap (AO B4 Ax Y Y A0)<|Zo Wh (A9 (cs:=x.Ao5) C7 Ax Y A0 bf)<|Ze (Al Dd #[_,_,_,_,_])<|AF fun bx=>Xe (Xw Ax x.Ao5)<|AD<|A1<|Zm Y<|Zo Wh (A9 (cs:=#[_,_,_,_,_]) C7 Ax Y B5 An)<|Xr [_] Y (af) Y V (hf x)<|Zv (Cj Y)<|Z0<|Zn [0,1,5,6,7,29] ?_;refine Zx<|Ad Y (fun G=>?_) (fun G=>?_);·
   have G:M x=false:=by simpa using G
   have cO:=BH (xs':=Ac (W.set i x)) (Eh (i:=0+i*5) (ys:=Ac [x]) K (by rw [BG,BG,FF];omega)) rfl (by rw [C6];exact o6 A0 x);refine A1<|Zm Y<|Zm Y<|Zo Wh (A9 (cs:=#[_,_,_,_,_]) C7 Ax Y B5 An)<|Ap (AO B4 Ax Y Y A0)<|Xe (BN Ax Y Y HU Wu (by exact (rfl:_=FD cur (0+i*5) (Ac [x]))) Ek A0 U)<|AD<|Zg<|Zm Y<|Ya (n:=1) Y Y<|AH Y<|A8<|Zx<|Zg<|Zm Y<|Ya (n:=1) Y Y<|AH Y<|Zn [5,6,0,1] ?_;refine AZ (e':=[(5,_),(6,_)]) (by exact ⟨i+1,j+1,W.set i x,_,rfl,⟨by omega,by rw [GS];exact Z,cO,by rw [Y8 A0,J,Mv _ hx];simp [G],fun t ht=>by rw [List.getElem?_set_ne A0];exact X t A0⟩,rfl,rfl⟩)
  have G:M x=true:=by simpa using G
  refine AB<|A8<|Zx<|Zg<|Zm Y<|Ya (n:=1) Y Y<|AH Y<|Zn [5,6,0,1] ?_;refine AZ (e':=[(5,_),(6,_)]) (by exact ⟨i,j+1,W,cur,rfl,⟨by omega,Z,K,by rw [J,Mv _ hx];simp [G],fun t ht=>X t A0⟩,rfl,rfl⟩)
 have ej:j=rows.length:=by omega
 subst ej;rw [G0]at J;have ek:(rows.filter fun x=>!M x).length=i:=by rw [<-J,zy];omega
 refine Aw<|Zt<|Zt<|AQ<|Zx<|A1<|Zm Y<|Zm Y<|Ap (Bn B4 Ax Y Y A0)<|Ze (Ob B4 (V:Tryz.prog.info? 98=some Tryz.t98) V rfl (by simp [Value.cells,Value.oneCell']) Y A0 ax U Wo) ?_;rintro _ _ rfl;have d9:=VD (Eh (i:=i*5) (ys:=(Builtin.zeroCells (Value.agg #[I4 0,I4 0,I4 0,I4 0,I4 0]).cells (rows.length -i)).toList) K (by rw [RR,size_zeroCells,BG];show i*5+(rows.length -i)*5<=_;omega)) i A0
 refine AD<|A1<|Zm Y<|Zm Y<|Ap (Bc B4 Ax Y Y A0)<|A3 Y<|AA<|AC V results238 Y (by
  refine ⟨_,BH d9 ek.symm ?_,V⟩;rw [D2,Hi (by rw [zy,BG];omega),Du,J])
theorem qG{A Y D:List A4}{i n:Nat}(g:A.length=(n+1)*5)(hi:i<=n)(y:Y.length=5)(m:D.length=(n -i)*5):(A.take (0+i*5)++Y++A.drop (0+i*5+Y.length)).take (0+(i+1)*5)++D++(A.take (0+i*5)++Y++A.drop (0+i*5+Y.length)).drop (0+(i+1)*5+D.length)=A.take (i*5)++Y++D:=by
 rw [C6,C6,Hi (by rw [zq,zy];omega),P2 (by simp only [zq,zy,C0];omega),H3]
theorem kQ{A Y D:List A4}{i n:Nat}(g:A.length=(n+1)*5)(hi:i<=n)(y:Y.length=5)(m:D.length=(n -i)*5):(A.take (0+(i+1)*5)++D++A.drop (0+(i+1)*5+D.length)).take (0+i*5)++Y++(A.take (0+(i+1)*5)++D++A.drop (0+(i+1)*5+D.length)).drop (0+i*5+Y.length)=A.take (i*5)++Y++D:=by
 rw [C6,C6,P2 (l:=A) A0,H3,W3 (by rw [zy];omega),SR,LO A0,S0 (by rw [zy];omega)]
theorem YG(rows:List AY)(i:Nat)(y:AY):(Ac rows).take (i*5)++Ac [y]++Ac (rows.drop i)=Ac (rows.take i++[y]++rows.drop i):=by
 rw [Du,Bf,Bf]
theorem U1{c:AN}{rows:List AY}(h:CG c 0 (Ac rows))(i:Nat)(hi:i<=rows.length):CG c (0+i*5) (Ac (rows.drop i)):=by
 have g:=JV h (i*5) ((rows.length -i)*5) (by rw [BG];omega);rw [DX,HK (by rw [BG,C0];omega)]at g;exact g
theorem fA{c:AN}{rows:List AY}(h:CG c 0 (Ac rows))(i:Nat)(hi:i<=rows.length):CG c 0 (Ac (rows.take i)):=by
 have g:=JV h 0 (i*5) (by rw [BG];omega);rw [NO,Du]at g;exact g
theorem XK(rows:List AY)(i:Nat)(hi:i<=rows.length)(y:AY):(rows.take i++[y]++rows.drop i).length=rows.length+1:=by
 simp only [zq,zy,C0,FF];omega
set_option maxHeartbeats 1000000 in
theorem ZH{s:List AU}{v:A4}{rows:List AY}(m:BZ 5 98 v rows.length (Ac rows) s)(hn:rows.length<=1000000000)(i:Nat)(hi:i<=rows.length)(y:AY)(M:Nat):Bz prog 239 #[v,I4 (i:Int),I6 M 1 1] [s,[(M,.cells y.Ao5 98 (0,0))]] (fun r H'=>∃s' s2,BZ 5 98 r (rows.take i++[y]++rows.drop i).length (Ac (rows.take i++[y]++rows.drop i)) s'/\H'=[s',s2,[(M,.cells y.Ao5 98 (0,0))]]):=by
 have mR:=mL;obtain ⟨p,cap,rfl⟩:=m.form;have lv:=Ex m
 refine Se func239 ntmps239 [0,1,2] ?_;intro u R;refine A1<|A3 Y<|Zq<|Bl<|Zg<|Zm Y<|Zm Y<|Ap (Bn B4 Ax Y Y A0)<|AD<|A1<|Zm Y<|Zv (AP B4 Y)<|A3 Y<|Zq<|A1<|Zm Y<|Zv (Bb (n:=0) Y Y)<|AD<|Ak Y (fun h0=>by cases h0)<|fun h0=>AB<|Zx<|A1<|Zm Y<|Zv (AP B4 Y)<|A3 Y<|Zq<|A1<|Zm Y<|Zm Y<|Zv (Bb Y Y)<|Z0<|Zn [0,1,2,7,8,22] ?_;refine Zx<|Ak Y (fun O=>?_) (fun O=>?_);·
  refine A1<|Zm Y<|Zm Y<|Ze (BR (by_:=40) (sz:=5) B4 (V:Tryz.prog.info? 98=some Tryz.t98) V rfl V rfl Y (m) Y (Dy 5 M 1 1 98 (0,0) (Ac [y]) V) Wo Wo (by exact CE _) A0 A0) ?_;rintro _ _ ⟨o8,K,rfl⟩;obtain ⟨kz,kv,rfl⟩:=K.form;refine A3 Y<|AA<|Zt<|AC V results239 Y (by
   have O:i=rows.length:=by omega
   subst O;exact ⟨_,[],BH K (XK rows _ (B8 _) y).symm (by rw [G0,jx,H3,Bf]),rfl⟩)
 obtain ⟨g,cu,cur,z,bf,rfl,gy,G⟩:=EE m A0;injection bf with hv1 hv2 hv3
 subst hv1 hv3;obtain ⟨_,l9,_,l8,X⟩:=K9 m;refine AB<|Zx<|Zq<|A1<|Zm Y<|Zm Y<|Ya Y Y<|Zm Y<|Zv (R9 B4 Y)<|Zv (CO Y Y)<|AD<|Ak Y (fun hg=>?_) (fun hg=>?_);·
  refine A1<|Zm Y<|Zm Y<|Ap (Bc B4 Ax Y Y A0)<|Zm Y<|Zm Y<|Ya Y Y<|Zm Y<|Yb Y Y ?_;refine Ze (MJ (by_:=40) (sz:=5) (xs:=Ac (rows.take i)) B4 F0 (rfl:Tryz.prog.info? 98=some Tryz.t98) rfl rfl rfl rfl Y Y Wh (fA G i hi) (by rw [BG,zy];omega) A0 AK A0 A0 A0) ?_;rintro _ _ ⟨s9,I,rfl⟩;rw [show i+(rows.length+1 -i)=rows.length+1 by omega]at I;have E:=I.1
  obtain ⟨g3,bn,cO,z3,rfl,rfl,gq,gm⟩:=EE I A0;obtain ⟨_,ek,_,d9,J⟩:=K9 I;refine AH Y<|Zn [0,1,2,7,9] ?_;refine Zx<|A1<|Zm Y<|Zm Y ?_
  (refine Ap (Bw B4 Ax Y Y ?_ ?_) ?_;(focus (omega));(focus (omega)))
  refine Zm Y<|Xe (Jz (cs:=Ac [y]) B4 Ax Y Y Wh Wo ((rfl:CG (y.Ao5:AN) 0 (Ac [y]))) (by rw [BG,FF];omega) (by rw [BG,FF];omega) (J) (CE _)) ?_;refine AD<|Zq<|BJ (n:=9) (0::0::0::6::15::0::0::96::255::[]) 256 AG AG V<|A2 0 V (AJ Y)<|A2 1 V (AJ Y)<|A2 2 V (AJ Y)<|A2 3 V (Bp Y Y A0) ?_
  (refine Bq (D':=31) 4 (Bw B4 Ax Y Y ?_ ?_) ?_;(focus (omega));(focus (omega)))
  refine A2 5 V (AJ Y)<|A2 6 V (AJ Y) ?_
  (refine Bq (D':=255) 7 (Bw B4 Ax Y Y ?_ ?_) ?_;(focus (omega));(focus (omega)))
  refine Yw 8 511 rfl (Jz (cs:=Ac (rows.drop i)) B4 Ax Y Y Wh Wo (U1 G i hi) (by rw [BG,C0];omega) (by rw [BG,C0,Gh (by rw [BG,FF];omega)];omega) (by rw [Gh (by rw [BG,FF];omega)];exact J) (CE _))<|C3<|Ao<|Zn [9] ?_;refine Zx<|A1<|Zm Y<|A3 Y<|AA<|Zt<|AC V results239 Y (by
   refine ⟨_,[(g,.cells cur 98 z)],BH (Eh (i:=0+(i+1)*5) (ys:=Ac (rows.drop i)) (Eh (i:=0+i*5) (ys:=Ac [y]) I (by rw [E,BG,FF];omega)) ?_) (XK rows i hi y).symm ?_,rfl⟩;· simp only [zq,zy,C0,E,BG,FF];omega
   · rw [qG E hi (by rw [BG];rfl) (by rw [BG,C0]),Hi (by rw [BG,zy];omega),<-Du,YG])
 refine AB<|Zx<|Zq ?_;obtain ⟨o9,ax,af⟩:=VC m (rows.length+1) A0 A0;have E:=af.1
 refine Zg<|Zm Y<|Zm Y<|Zm Y<|Ya Y Y ?_;refine Ap (Bc B4 Ax Y Y A0)<|A3 Y<|Zq<|Zq<|wM (s1:=[(M,_)]) (s2:=[(g,_)]) (a:=M) (b:=g) Wo Wo (D0.2 V) (D0.2 V) (fun Z=>?_);refine Zg<|Zm Y<|Zm Y<|Zm Y<|Zm Y<|Ya Y Y ?_
 (refine Ap (Bw B4 Ax Y Y ?_ ?_) ?_;(focus (omega));(focus (omega)))
 refine Ca (cs:=[(M,.cells y.Ao5 98 (0,0)),(g,.cells cur 98 z)]) B3 (T9 (tR:=4) func250 AG AG AG AG B4 Ax Y Z A0) V rfl ?_;refine Zv (Cj Y)<|Z0<|Zn [0,1,2,7,8,68] ?_;refine Zx<|Ad Y (fun U=>?_) (fun U=>?_);·
  refine Zq<|BJ (n:=9) (0::0::0::6::15::0::0::96::255::[]) 256 AG AG V<|A2 0 V (AJ Y)<|A2 1 V (AJ Y)<|A2 2 V (AJ Y)<|A2 3 V (Bp Y Y A0) ?_
  (refine Bq (D':=31) 4 (Bw B4 Ax Y Y ?_ ?_) ?_;(focus (omega));(focus (omega)))
  refine A2 5 V (AJ Y)<|A2 6 V (AJ Y) ?_
  (refine Bq (D':=255) 7 (Bw B4 Ax Y Y ?_ ?_) ?_;(focus (omega));(focus (omega)))
  refine Yw 8 511 rfl (Jz (cs:=Ac (rows.drop i)) B4 Ax Y Y Wh Wo (U1 G i hi) (by rw [BG,C0];omega) (by rw [BG,C0];omega) (X) (CE _))<|C3<|Ao<|Zx<|A1<|Zm Y<|Zm Y ?_
  (refine Ap (Bw B4 Ax Y Y ?_ ?_) ?_;(focus (omega));(focus (omega)))
  refine Zm Y<|Xe (Jz (cs:=Ac [y]) B4 Ax Y Y Wh Wo ((rfl:CG (y.Ao5:AN) 0 (Ac [y]))) (by rw [BG,FF];omega) (by rw [BG,FF,Gh (by rw [BG,C0];omega)];omega) (by rw [Gh (by rw [BG,C0];omega)];exact X) (CE _)) ?_;refine Z0<|Zn [0] ?_;refine Zx<|A1<|Zm Y<|A3 Y<|AA<|Zt<|AC V results239 Y (by
   refine ⟨_,[],BH (Eh (i:=0+i*5) (ys:=Ac [y]) (Eh (i:=0+(i+1)*5) (ys:=Ac (rows.drop i)) af (by rw [E,BG,C0];omega)) ?_) (XK rows i hi y).symm ?_,rfl⟩;· simp only [zq,zy,C0,BG,ax,FF];omega
   · rw [kQ E hi (by rw [BG];rfl) (by rw [BG,C0]),W3 (by rw [BG];omega),YG])
 cases U
structure QM where
 kd:Int
 tb:Int
 cl:Int
 lo:Int
 hi:Int
 bq:Int
 ot:Int
deriving DecidableEq
abbrev QM.GO(q:QM)(c:Chg)(x y:Option Go.Addr)(o n:Int):Array Go.Value:=#[I4 q.kd,I4 q.tb,I4 q.cl,I4 q.lo,I4 q.hi,I4 q.bq,I4 q.ot,I4 c.t,I4 c.k,.bool c.had,I4 c.o.a,I4 c.o.b,I4 c.o.c,.bool c.has,I4 c.n.a,I4 c.n.b,I4 c.n.c,.pointer x,.pointer y,I4 o,I4 n]
abbrev QM.Ao6(c:QM):Array Go.Value:=#[I4 c.kd,I4 c.tb,I4 c.cl,I4 c.lo,I4 c.hi,I4 c.bq,I4 c.ot]
structure CP where
 rows:List AY
 val:Int
 fnd:Bool
deriving DecidableEq
def inQ(q:QM)(r:AY):Bool:=decide (r.t=q.tb/\q.lo<=Bh r q.cl/\Bh r q.cl<=q.hi)
def BS(q:QM):Prop:=(0<=q.tb/\q.tb<=3)/\(0<=q.cl/\q.cl<=3)/\(-1000000000<=q.lo/\q.lo<=q.hi/\q.hi<=1000000000)/\
 ((q.kd=1/\q.cl=0/\q.lo=q.hi/\(1<=q.lo/\q.lo<=1000000)/\q.bq=0/\q.ot=0)\/((q.kd=2\/q.kd=3)/\q.bq=0/\q.ot=0)\/
  ((q.kd=4\/q.kd=5\/q.kd=6)/\(1<=q.bq/\q.bq<=3)/\q.ot=0)\/(q.kd=7/\(1<=q.bq/\q.bq<=3)/\(0<=q.ot/\q.ot<=3)))
instance(q:QM):Decidable (BS q):=by unfold BS;infer_instance
def CP.none:CP:=⟨[],0,false⟩
def MU(ms:List Int):Int:=ms.foldl (·+·) 0
def Ej(lt:Int->Int->Bool)(ms:List Int):CP:=ms.foldl (fun r n=>⟨r.rows,if !r.fnd||lt n r.val then n else r.val,true⟩) CP.none
def Dz(q:QM)(others:List AY)(k:Int):Option AY:=others.find? (fun x=>decide (x.t=q.ot/\x.k=k))
def JK(q:QM)(others:List AY)(r:AY):List AY:=match Dz q others (Bh r q.bq)with
 |some x=>[r,x]
 |none=>[]
def JL(q:QM)(rows others:List AY):List AY:=rows.flatMap (JK q others)
def Cy(q:QM)(rows:List AY):List Int:=rows.map fun r=>Bh r q.bq
def EZ(q:QM)(rows others:List AY):CP:=
 if q.kd=3 then⟨[],rows.length,false⟩else if q.kd=4 then⟨[],MU (Cy q rows),false⟩
 else if q.kd=5 then Ej (fun a b=>decide (a<b)) (Cy q rows)else if q.kd=6 then Ej (fun a b=>decide (b<a)) (Cy q rows)
 else if q.kd=7 then⟨JL q rows others,0,false⟩else⟨rows,0,false⟩
def CX(rs:List AY)(q:QM):List AY:=Cg rs q.tb q.cl.toNat q.lo q.hi
def D5(rs:List AY)(q:QM):CP:=EZ q (CX rs q) (G9 rs q.ot)
def jq(c:Chg):List AY:=if c.had then [⟨c.t,c.k,c.o⟩]else []
def J3(q:QM)(b:Bool)(r:AY):Option AY:=if b&&inQ q r then some r else none
def bfQ(q:QM)(c:Chg):Option AY:=J3 q c.had ⟨c.t,c.k,c.o⟩
def afQ(q:QM)(c:Chg):Option AY:=J3 q c.has ⟨c.t,c.k,c.n⟩
def mQ(q:QM):Option AY->Int
 |some r=>Bh r q.bq
 |none=>0
def Xd(q:QM)(c:Chg):Bool:=(bfQ q c).isSome||(afQ q c).isSome
def Yy(q:QM)(c:Chg):Bool:=(bfQ q c).isSome !=(afQ q c).isSome
def EA(q:QM)(c:Chg):Bool:=
 if q.kd=1\/q.kd=2 then Xd q c else if q.kd=3 then Yy q c else if q.kd=4 then decide (mQ q (bfQ q c)≠mQ q (afQ q c))
 else if q.kd=5\/q.kd=6 then Yy q c||decide (mQ q (bfQ q c)≠mQ q (afQ q c))else Xd q c||decide (c.t=q.ot)
theorem QG{rs:List AY}{c:Chg}(G:Gb rs c):∃A B,rs=A++jq c++B/\Ei rs c=A++OE c++B:=by
 refine ⟨rs.take (EL rs c.t c.k),(rs.drop (EL rs c.t c.k)).drop (if c.had then 1 else 0),?_,V⟩;unfold jq;cases hh:c.had with
 |false=>simp
 |true=>
  have m:(GZ rs c.t c.k).2=true:=by rw [G.1,hh]
  obtain ⟨r,M,hi,J,K⟩:=Jq m;have hv:=G.2 m
  rw [K]at hv;have e:r=⟨c.t,c.k,c.o⟩:=by
   obtain ⟨t,k,v⟩:=r;obtain ⟨y,E⟩:=hi;simp only at y E hv;subst y E hv;rfl
  rw [e]at J;obtain ⟨I,g⟩:=zt.1 J;simp only [Ks,D2];conv=>lhs;rw [<-HW (EL rs c.t c.k) rs,RC I,g]
  rw [SD,RC I];rfl
theorem wG{q:QM}(h:BS q)(r:AY):inR q.tb q.cl.toNat q.lo q.hi r=inQ q r:=by
 have hc:=h.2.1;have:=KT r q.cl.toNat A0
 rw [show((q.cl.toNat:Nat):Int)=q.cl by omega]at this;unfold inR inQ;rw [this]
theorem Qq{q:QM}(h:BS q)(rs:List AY):CX rs q=(rs.filter (inQ q)).foldl (UQ q.cl.toNat) []:=by
 unfold CX Cg;rw [cJ fun r _=>wG h r]
theorem IP{q:QM}(h:BS q)(rs:List AY):(CX rs q).Perm (rs.filter (inQ q)):=by
 have:=Ez rs q.tb q.cl.toNat q.lo q.hi;rwa [cJ fun r _=>wG h r]at this
theorem TI(q:QM)(c:Chg):(jq c).filter (inQ q)=(bfQ q c).toList:=by
 unfold jq bfQ J3;cases c.had with
 |false=>rfl
 |true=>simp only [Ks,To,fj,fp];split<;>rfl
theorem TL(q:QM)(c:Chg):(OE c).filter (inQ q)=(afQ q c).toList:=by
 unfold OE afQ J3;cases c.has with
 |false=>rfl
 |true=>simp only [Ks,To,fj,fp];split<;>rfl
def KU:List Int->Int
 |[]=>0
 |x::l=>x+KU l
theorem NU(l:List Int):∀a,l.foldl (·+·) a=a+KU l:=by
 induction l with
 |nil=>intro a;simp [KU]
 |cons x l ih=>intro a;rw [Tl,ih];simp only [KU];omega
theorem Y1(a b:List Int):KU (a++b)=KU a+KU b:=by
 induction a with
 |nil=>simp [KU]
 |cons x a ih=>simp only [TX,KU,ih];omega
theorem NH{a b:List Int}(h:a.Perm b):KU a=KU b:=by
 induction h with
 |nil=>rfl
 |cons x _ ih=>simp only [KU,ih]
 |swap x y l=>simp only [KU];omega
 |trans _ _ ih1 ih2=>exact ih1.trans ih2
theorem vH(lt:Int->Int->Bool)(G:∀a b c,lt b a=false->lt c b=false->lt c a=false)(E:∀a,lt a a=false)(g:∀a b,lt a b=true->lt b a=false)(l:List Int):∀(m:Int),∃x,(x=m\/x∈l)/\lt m x=false/\(∀y∈l,lt y x=false)/\l.foldl (fun(r:CP) n=>(⟨r.rows,if !r.fnd||lt n r.val then n else r.val,true⟩:CP)) ⟨[],m,true⟩=⟨[],x,true⟩:=by
 induction l with
 |nil=>intro m;exact ⟨m,.inl rfl,E m,by simp,rfl⟩
 |cons z l ih=>
  intro m;rw [Tl];cases hz:lt z m with
  |true=>
   obtain ⟨x,I,h2,J,K⟩:=ih z;simp only [ON,gA,hz,Ks];refine ⟨x,.inr (by rcases I with h|h;rw [h];simp;exact HQ _ h),G x z m h2 (g z m hz),fun y hy=>?_,K⟩;rcases E4.1 hy with rfl|hy
   · exact h2
   · exact J y hy
  |false=>
   obtain ⟨x,I,h2,J,K⟩:=ih m;simp only [ON,gA,hz,Mn,Hb];refine ⟨x,by rcases I with h|h;exact .inl h;exact .inr (HQ _ h),h2,fun y hy=>?_,K⟩;rcases E4.1 hy with rfl|hy
   · exact G x m y h2 hz
   · exact J y hy
theorem LM(lt:Int->Int->Bool)(E:∀a b c,lt b a=false->lt c b=false->lt c a=false)(m:∀a,lt a a=false)(g:∀a b,lt a b=true->lt b a=false)(z:Int)(l:List Int):∃x∈z::l,(∀y∈z::l,lt y x=false)/\Ej lt (z::l)=⟨[],x,true⟩:=by
 obtain ⟨x,G,h2,I,J⟩:=vH lt E m g l z;refine ⟨x,by rcases G with h|h;rw [h];simp;exact HQ _ h,fun y hy=>?_,?_⟩
 · rcases E4.1 hy with rfl|hy
   · exact h2
   · exact I y hy
 · unfold Ej
   rw [Tl];exact J
theorem PV(lt:Int->Int->Bool)(G:∀a b c,lt b a=false->lt c b=false->lt c a=false)(m:∀a,lt a a=false)(g:∀a b,lt a b=true->lt b a=false)(I:∀a b,lt a b=false->lt b a=false->a=b){l E:List Int}(h:∀y,y∈l↔y∈E):Ej lt l=Ej lt E:=by
 match l,E,h with
 |[],[],_=>rfl
 |[],y::E,h=>have:=(h y).2 B3;cases this
 |y::l,[],h=>have:=(h y).1 B3;cases this
 |y::l,y'::E,h=>
  obtain ⟨x,K,M,O⟩:=LM lt G m g y l;obtain ⟨J,U,X,Z⟩:=LM lt G m g y' E;rw [O,Z,I x J (X x ((h x).1 K)) (M J ((h J).2 U))]
theorem gD{rs:List AY}{c:Chg}(y:Gb rs c){t:Int}(h:c.t≠t):G9 (Ei rs c) t=G9 rs t:=by
 obtain ⟨A,B,g,m⟩:=QG y;have E:(jq c).filter (inT t)=[]:=by
  unfold jq;split;· simp [inT,h]
  · rfl
 have G:(OE c).filter (inT t)=[]:=by
  unfold OE;split;· simp [inT,h]
  · rfl
 unfold G9;rw [m];conv=>rhs;rw [g]
 simp only [KB,E,G,H3]
theorem Rw{o:Option AY}(h:o.isSome=false):o.toList=[]:=by
 cases o with
 |none=>rfl
 |some x=>cases h
theorem aB{rs:List AY}{c:Chg}{q:QM}(I:BS q)(X:Gb rs c)(h:EA q c=false):D5 (Ei rs c) q=D5 rs q:=by
 obtain ⟨A,B,Z,e2⟩:=QG X;have O:rs.filter (inQ q)=A.filter (inQ q)++(bfQ q c).toList++B.filter (inQ q):=by
  conv=>lhs;rw [Z]
  rw [KB,KB,TI]
 have U:(Ei rs c).filter (inQ q)=A.filter (inQ q)++(afQ q c).toList++B.filter (inQ q):=by
  rw [e2,KB,KB,TL]
 have J:=IP I rs;have K:=IP I (Ei rs c)
 rw [O]at J;rw [U]at K;have G:(bfQ q c).isSome=false->(afQ q c).isSome=false->CX (Ei rs c) q=CX rs q:=fun h1 h2=>by
  rw [Qq I,Qq I,O,U,Rw h1,Rw h2]
 unfold EA at h;unfold D5 EZ;split at h
 · rename_i hk
   unfold Xd at h;rw [ey]at h;rw [G h.1 h.2,As A0,As A0,As A0,As A0,As A0,As A0,As A0,As A0,As A0,As A0]
 · split at h
   · rename_i hk
     rw [B0 hk,B0 hk];have hl:(CX (Ei rs c) q).length=(CX rs q).length:=by
      rw [J.length_eq,K.length_eq];simp only [zq];unfold Yy at h;cases hb:bfQ q c<;>cases g:afQ q c<;>simp [hb,g]at h⊢
     rw [hl]
   · split at h
     · rename_i hk3 hk
       rw [As hk3,As hk3,B0 hk,B0 hk];have hs:MU (Cy q (CX (Ei rs c) q))=MU (Cy q (CX rs q)):=by
        unfold MU Cy;rw [NU,NU,NH (J.map _),NH (K.map _)];simp only [Dg,Y1];have M:=N2 h
        have key:∀o:Option AY,KU (o.toList.map fun r=>Bh r q.bq)=mQ q o:=fun o=>by
         cases o with
         |none=>rfl
         |some x=>simp [KU,mQ]
        rw [key,key];omega
       rw [hs]
     · split at h
       · rename_i hk3 hk4 hk
         rw [ey]at h;have M:=N2 h.2
         have E:=h.1;have m:∀y,y∈Cy q (CX (Ei rs c) q)↔y∈Cy q (CX rs q):=fun y=>by
          unfold Cy;rw [(J.map _).mem_iff,(K.map _).mem_iff];unfold Yy at E;cases hb:bfQ q c<;>cases g:afQ q c<;>simp [hb,g]at E⊢
          simp [hb,g,mQ]at M;rw [M]
         rw [As hk3,As hk3,As hk4,As hk4];rcases hk with hk|hk
         · rw [B0 hk,B0 hk]
           exact PV _ (by intro a b c;simp;omega) (by intro a;simp) (by intro a b;simp;omega) (by intro a b;simp;omega) m
         · rw [As (show¬q.kd=5 by omega),As (show¬q.kd=5 by omega),B0 hk,B0 hk]
           exact PV _ (by intro a b c;simp;omega) (by intro a;simp) (by intro a b;simp;omega) (by intro a b;simp;omega) m
       · rw [ey]at h
         have g:=h.1;unfold Xd at g;rw [ey]at g;rw [G g.1 g.2,gD X (N2 h.2)]
theorem RD{rs:List AY}{cs:List Chg}{q:QM}(E:BS q)(G:BL rs)(g:sJ cs)(m:∀c∈cs,Gb rs c)(h:∀c∈cs,EA q c=false):∀i,i<=cs.length->D5 (Dc rs (cs.take i)) q=D5 rs q
 |0,_=>rfl
 |i+1,hi=>by
  obtain ⟨y,hy⟩:∃y,cs[i]?=some y:=⟨_,zn A0⟩;rw [EO rs cs i y hy,aB E ((Jr G g m i A0).2 i y (B8 _) hy) (h y (Cd hy))];exact RD E G g m h i A0
theorem aC{l:List Bg}(g:DN l){q:QM}(E:BS q)(b:Nat):∀c,b<=c->c<=l.length->(∀(i:Nat) (r:Bg),b<=i->i<c->l[i]?=some r->∀x∈r.cs,EA q x=false)->D5 (Bd (l.take c)) q=D5 (Bd (l.take b)) q
 |0,h1,_,_=>by obtain rfl:b=0:=by omega
               rfl
 |c+1,h1,h2,h=>by
  rcases DP b (c+1)with h3|h3
  · obtain ⟨r,m⟩:∃r,l[c]?=some r:=⟨_,zn A0⟩
    rw [Kx,m,fX,Ew];obtain ⟨y,_⟩:=g c r m;have I:=(g.rows c A0).1
    have:=RD E I (Qg y.ok.ord) y.fit (h c r A0 A0 m) r.cs.length (B8 _);rw [G0]at this;rw [this];exact aC g E b c A0 A0 fun i r G J=>h i r G A0
  · obtain rfl:b=c+1:=by omega
    rfl
end Go.Proofs.YtlkdhannldcfbaaGreatDoor
