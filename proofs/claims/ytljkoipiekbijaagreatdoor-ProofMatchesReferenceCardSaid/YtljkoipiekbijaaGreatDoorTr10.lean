/- statetree: complete, Rows. -/
import Derived.Test.YtljkoipiekbijaaGreatDoorTr7
set_option linter.unusedVariables false
set_option linter.unusedSimpArgs false
namespace Go.Proofs.YtljkoipiekbijaaGreatDoor
open Go.Proofs.Tryz
open Go Go.RowKit Gw
set_option maxRecDepth 100000
attribute [local irreducible] Gw.At Gw.Nx Gw.Ops
def GG(M:List AR)(v:A3)(ps:List (List Bs)):Prop:=∃p cap,v= .slice p ps.length cap/\(ps.length<=maxLen/\ps.length<=cap)/\∀(i:Nat) (l:List Bs),ps[i]?=some l->∃q c,DU M (.slice q l.length c) l/\∃g off cur T zz,p=some ⟨g,off,none⟩/\(g,Obj.cells cur T zz)∈M/\cur[off+i]?=some (.slice q l.length c)
def LQ(M:List AR)(v:A3)(x:RP):Prop:=∃vr vp vt,v= .agg #[I4 x.tb,I4 x.cl,I4 x.lo,I4 x.hi,I4 x.ct,I4 x.fi,vr,vp,vt]/\CZ M vr x.rows/\GG M vp x.paths/\DU M vt x.roots
variable{v:A3}
theorem VU{e:An}{ps:List (List Bs)}{m:List A3}{s O:List AR}(h:BS 1 e v ps.length m s)(E:FV O m ps)(hn:ps.length<=maxLen):GG (s++O) v ps:=by
 rcases P2 ps.length with h0|h0
 · obtain ⟨b,cap,rfl⟩:=h.form
   exact ⟨b,cap,rfl,⟨hn,by omega⟩,fun i s I=>by rw [N3 h0]at I;simp at I⟩
 · obtain ⟨g,cap,cur,z,rfl,rfl,y,W⟩:=MO h h0
   refine ⟨_,cap,V,⟨hn,y⟩,fun i l G=>?_⟩;have X:=(D3.1 G).1
   obtain ⟨w,K⟩:∃w,m[i]?=some w:=⟨_,Bk (by have:=E.1;omega)⟩;have J:=E.2 i w l K G
   obtain ⟨q,c,U,Z,h2⟩:=id J;subst U;refine ⟨q,c,J.mono (fun c h=>G2 _ h),g,0,cur,e,z,V,by simp,?_⟩;rw [Dd];exact W i _ K
variable{M:List AR}
theorem GG.mono{M':List AR}{ls:List (List Bs)}(h:GG M v ls)(m:∀c∈M,c∈M'):GG M' v ls:=by
 obtain ⟨p,cap,e,G,E⟩:=h;refine ⟨p,cap,e,G,fun i s I=>?_⟩;obtain ⟨q,c,h0,g,off,cur,T,zz,y,z,h2⟩:=E i s I;exact ⟨q,c,h0.mono m,g,off,cur,T,zz,y,m _ z,h2⟩
theorem dG(v:A3)(p:Int)(rs:List AV)(s:List AR)(hv:RO v p rs s)(I:BP rs)(hn:rs.length<=2000)(z:∀r∈rs,r.ok)(t c:Nat)(ht:t<=3)(hc:c<=3)(lo hi:Int)(y:lo<=hi)(m:An)(G:Nat×Nat):
 CJ prog 33 #[v,I4 (t:Int),I4 (c:Int),I4 lo,I4 hi] [[(1,.cells (Dj.map CP).toArray m G)],s] (fun r H'=>∃J mem,r= .tuple #[J,I4 0]/\LQ mem J (EC rs t c lo hi)/\H'=[mem,[(1,.cells (Dj.map CP).toArray m G)],s]):=by
 have X:=mL;refine E8 (dH v p rs s hv I hn z t c ht hc lo hi y m G) V ?_;rintro r H' ⟨vr,vp,vt,E,sp,ax,mp,so,rfl,K,h2,O,U,rfl⟩;have W:=GX I (t:Int) c
 have af:toT (BF rs (t:Int) c) c hi<=(BF rs (t:Int) c).length:=Nat.min_le_right _ _;have g:=Lg (BF rs (t:Int) c) (CE (BF rs (t:Int) c) c lo) (toT (BF rs (t:Int) c) c hi -CE (BF rs (t:Int) c) c lo)
 have Z:(((BF rs (t:Int) c).drop (CE (BF rs (t:Int) c) c lo)).take (toT (BF rs (t:Int) c) c hi -CE (BF rs (t:Int) c) c lo)).length<=2000:=by rw [CI,D4];omega
 refine ⟨_,⟨_,E++(sp++mp)++so,V,⟨vr,vp,vt,V,?_,?_,?_⟩,V⟩,by simp⟩;· exact (Ca K A0).mono (fun c h=>HE _ (HE _ h))
 · exact (VU (BJ h2 g.symm rfl) O (by rw [g];omega)).mono (fun c h=>HE _ (G2 _ h))
 · exact (Ev (BJ U (Fq rs).symm rfl) (by rw [Fq];omega)).mono (fun c h=>G2 _ h)
def Ji(x:RP)(j:Nat)(r:AV):Prop:=r.ok/\r.t=x.tb/\(Bh r x.cl<x.lo->j=0)/\(x.hi<Bh r x.cl->x.rows.length<=j+1)
def Nt(x:RP)(q r:AV):Prop:=Bh q x.cl<Bh r x.cl\/Bh q x.cl=Bh r x.cl/\q.k<r.k
structure Eb(x:RP):Prop where
 tc:(0<=x.tb/\x.tb<4)/\0<=x.cl/\x.cl<4
 lh:x.lo<=x.hi
 ct:0<=x.ct/\x.ct<=2000
 fi:0<=x.fi/\x.fi<=x.ct
 n:(x.rows.length:Int)<=x.ct -x.fi
 none:x.rows.length=0->x.ct=0
 all:∀(j:Nat) (r:AV),x.rows[j]?=some r->Ji x j r/\(0<j->∀q,x.rows[j -1]?=some q->Nt x q r)
 first:∀r,x.rows[0]?=some r->x.fi=0\/Bh r x.cl<x.lo
 last:∀r,x.rows[x.rows.length -1]?=some r->x.fi+(x.rows.length:Int)=x.ct\/x.hi<Bh r x.cl
noncomputable instance(x:RP):Decidable (Eb x):=Classical.propDecidable _
theorem Ia{p:C1}{cap:Nat}(x:RP)(X Z:A3)(K:CZ M (.slice p x.rows.length cap) x.rows)(hc:0<=x.cl/\x.cl<=3)(I i:Nat)(r:AV)(E:x.rows[i]?=some r):BB prog 164 #[I4 (i:Int),I5 I] [[(I,.cells #[I4 x.tb,I4 x.cl,I4 x.lo,I4 x.hi,I4 x.ct,I4 x.fi,.slice p x.rows.length cap,X,Z] 49 (0,0))],M] (I4 (Bh r x.cl)):=by
 have W:=mL;obtain ⟨p9,z,J,hl,O⟩:=K;injection J with e91 e92 e93
 subst e91 e93;obtain ⟨g,off,cur,T,zz,rfl,y,G,m⟩:=O i r E;have U:=(D3.1 E).1
 refine Se func164 ntmps164 [0,1] ?_;intro u R;refine A2<|CT Y<|Au (n:=9) (0::1::0::7::15::0::32::127::255::[]) 128 AG AG V<|A1 0 V (AL (off:=6) Bm V rfl Cl Y)<|B6 1 V DQ Y<|A1 2 V (AA Y)<|A1 3 V (A9 B0 AW Y Y A0)<|CX (b:=g) (x:= .cells cur T zz) (D':=31) 4 V rfl V (by simp [y]) (A7 (cs:=r.Ax3) C5 AW Y A0 m) ?_;refine A1 5 V (AL (off:=1) Bm V rfl A4 Y)<|B6 6 V A5 Y<|Yw 7 255 V (Zu [_,_] Y Sf Y V (Gf r x.cl hc))<|DA<|A1 8 V (Aq Y)<|Am<|Zx<|AC<|AO V results164 Y (by exact ⟨V,V⟩)
variable{x:RP}
set_option maxHeartbeats 4000000 in
theorem Np(hv:LQ M v x):BB prog 121 #[v] [M] (.bool (decide (Eb x))):=by
 have vw:=mL;obtain ⟨vr,vp,vt,rfl,hR,hP,hT⟩:=hv;obtain ⟨p,cap,e9,hl,hg⟩:=id hR;subst e9;refine Se func121 ntmps121 [0] ?_;intro u R;refine A2<|Ze (Bx #[_,_,_,_,_,_,_,_,_])<|AE fun pb=>AF Y<|A2<|Zh 6 Bm V rfl Cl Y<|Zl DQ Y ?_;refine Zv (AJ B0 Y)<|CT Y<|A2<|Zh 0 Bm V rfl A4 Y<|Zl A5 Y ?_;refine Zh 1 Bm V rfl A4 Y<|Zl A5 Y ?_;refine Xr [_,_] Y call79 Y V (R3 x.tb x.cl) ?_;refine Zv (Bp Y)<|Zm Y<|AZ (t:=17) Y V (fun pg=>?_) (fun pg=>?_);focus
  refine Sk 22 V ?_
 rotate_left
 focus
  refine Yf 2 Bm V rfl A4 Y<|Yl A5 Y ?_;refine Yf 3 Bm V rfl A4 Y<|Yl A5 Y ?_;refine Yg (EE Y Y)<|Sk 2 V ?_;refine AZ (t:=24) Y V (fun pq=>?_) (fun pq=>?_);focus
   refine Sk 15 V ?_
  rotate_left
  focus
   refine Yf 4 Bm V rfl A4 Y<|Yl A5 Y ?_;refine Yg (Dq Y Y)<|Sk 2 V ?_;refine AZ (t:=29) Y V (fun pz=>?_) (fun pz=>?_);focus
    refine Sk 10 V ?_
   rotate_left
   focus
    refine Yf 4 Bm V rfl A4 Y<|Yl A5 Y ?_;refine Yg (EE Y Y)<|Sk 2 V ?_;refine AZ (t:=34) Y V (fun qa=>?_) (fun qa=>?_);focus
     refine Sk 5 V ?_
    rotate_left
    focus
     refine Yf 5 Bm V rfl A4 Y<|Yl A5 Y ?_;refine Yg (Dq Y Y)<|Sk 2 V ?_;refine AZ (t:=39) Y V (fun qb=>?_) (fun qb=>?_);rotate_left;focus
      refine Yf 5 Bm V rfl A4 Y<|Yl A5 Y ?_;refine Yf 4 Bm V rfl A4 Y<|Yl A5 Y ?_;refine Yg (EE Y Y)<|Sk 2 V ?_;refine AZ (t:=46) Y V (fun qo=>?_) (fun qo=>?_);focus
       refine Sk 8 V<|Z0<|Zn [1,3,54] ?_;refine Zx<|BV Y ?_
      rotate_left
      focus
       refine Zf Y Y<|Yf 4 Bm V rfl A4 Y<|Yl A5 Y ?_;refine Yf 5 Bm V rfl A4 Y<|Yl A5 Y ?_
       (refine ER Y (GI Y Y (IntWalk.i64_in _ ?_)) rfl rfl ?_;(focus (first|omega|(simp;omega))))
       refine Yg (EE Y Y)<|H3 Y Y<|Z0<|Zn [1,3,54] ?_;refine Zx<|Ad Y (fun qw=>?_) (fun qw=>?_);rotate_left;focus
        refine B3<|C0 Y<|Zv (Bg (n:=0) Y Y)<|A6<|Ad Y (fun hz=>?_) (fun hz=>?_);·
         refine A2<|Zh 4 Bm V rfl A4 Y<|Zl A5 Y ?_;refine Zv (Bd Y Y)<|AM Y<|Zt<|AO V V1 Y (by exact ⟨F4 ⟨fun y=>⟨by omega,by omega,by omega,by omega,by omega,fun _=>y,fun j r G=>by have:=(D3.1 G).1;omega,fun r G=>by have:=(D3.1 G).1;omega,fun r G=>by have:=(D3.1 G).1;omega⟩,fun y=>y.none hz⟩,V⟩)
        refine AB<|BT<|Zv (CV (vs:=[]) (us:=[_]) Y Y)<|CT Y<|A2<|Zh 6 Bm V rfl Cl Y<|Zl DQ Y ?_;refine Zv (AJ B0 Y)<|Zm Y<|A6<|AQ<|Zb [64,1,3,4,62,63] ?_;refine Av (e0:=[(64,_)]) (fun m e H=>∃(i:Nat),m=x.rows.length -i/\(i<=x.rows.length/\∀(j:Nat) (r:AV),j<i->x.rows[j]?=some r->Ji x j r/\(0<j->∀q,x.rows[j -1]?=some q->Nt x q r))/\e=[(64,I4 (i:Int))]/\H=[]) (by exact ⟨0,V,⟨CD _,by intro j r G;omega⟩,V,V⟩) Wp ?_;rintro _ _ _ ⟨i,rfl,⟨hi,I⟩,rfl,rfl⟩;refine A2<|Zv (Ak Y Y)<|A6<|Zq<|Ad Y (fun oq=>?_) (fun oq=>?_);·
         obtain ⟨r,hr⟩:∃r,x.rows[i]?=some r:=⟨_,Bk oq⟩;obtain ⟨g,off,cur,T,zz,rfl,sO,ve,o9⟩:=hg i r hr;refine B3<|Zq<|AQ<|B7 Y<|BN (A9 B0 AW Y Y A0)<|Cj (cs:=[(g,.cells cur T zz)]) (by simp [sO]) (A7 (cs:=r.Ax3) C5 AW Y A0 o9) V rfl ?_;refine Ze (Al DS #[_,_,_,_,_])<|AE fun rb=>Za Y<|Xe (Xw AW r.Ax3) ?_;refine A6<|A2<|Sk 2 V<|Xr [_] Y call164 Y V (Ia x vp vt hR A0 pb i r hr) ?_;refine AF Y<|Zb [1,3,4,5,6,7,62,63,64] ?_;refine C9 (e0:=[]) (H0:=[]) (fun e H=>∃(u9:Unit),(Ji x i r)/\e=[]/\H=[]) Wp ?hx_10 ?hy_10
         case hx_10=>
          refine A2<|Zo Wh (A7 (cs:=#[_,_,_,_,_]) C5 AW Y BW B5) ?_;refine Xr [_] Y call165 Y V (Rz r) ?_;refine Zv (Bp Y)<|Zm Y<|AZ (t:=75) Y V (fun qx=>?_) (fun qx=>?_);·
           refine Sk 28 V<|Z0<|Zn [1,3,4,5,6,7,62,63,64,103] ?_;refine Zx<|BV Y<|A2<|AM Y<|Zt<|AX<|Zt<|Zt<|AX<|Zt<|AO rfl V1 Y (by exact ⟨congrArg Value.bool (CC (fun y:Eb x=>by obtain ⟨⟨bn,cu,cO,d9⟩,_⟩:=y.all i r hr;contradiction)).symm,rfl⟩)
          refine Yf 0 F1 V rfl A4 Y<|Yl A5 Y ?_;refine Yf 0 Bm V rfl A4 Y<|Yl A5 Y ?_;refine Yg (ED Y Y)<|Sk 2 V ?_;refine AZ (t:=82) Y V (fun qy=>?_) (fun qy=>?_);focus
           refine Sk 21 V<|Z0<|Zn [1,3,4,5,6,7,62,63,64,103] ?_;refine Zx<|BV Y ?_
          rotate_left
          focus
           refine Zf Y Y<|Yf 2 Bm V rfl A4 Y<|Yl A5 Y ?_;refine Yg (Dq Y Y)<|Zf Y Y ?_;refine AZ (t:=87) Y V (fun kz=>?_) (fun kz=>?_);focus
            refine Zf Y Y<|Yg (CW (n:=0) Y Y)<|Sk 3 V ?_;refine AZ (t:=92) Y V (fun l8=>?_) (fun l8=>?_);focus
             refine Sk 11 V<|Z0<|Zn [1,3,4,5,6,7,62,63,64,103] ?_;refine Zx<|BV Y ?_
            rotate_left
            focus
             refine Zf Y Y<|Yf 3 Bm V rfl A4 Y<|Yl A5 Y ?_;refine Yg (EE Y Y)<|Zf Y Y ?_;refine AZ (t:=97) Y V (fun l9=>?_) (fun l9=>?_);focus
              refine Sk 2 V ?_
              (refine ER Y (C8 (n:=1) Y Y ?_ ?_) rfl rfl ?_;(focus (first|omega|(simp;omega)));(focus (first|omega|(simp;omega))))
              refine Yg (Ak Y Y)<|Sk 2 V<|Z0<|Zn [1,3,4,5,6,7,62,63,64,103] ?_;refine Zx<|Ad Y (fun lv=>?_) (fun lv=>?_);rotate_left;refine AB<|HC (by exact ⟨(),⟨by exact Fi.1 Xs,by omega,fun h=>by omega,fun h=>by omega⟩,V,V⟩)
             rotate_left
             refine Sk 6 V<|Z0<|Zn [1,3,4,5,6,7,62,63,64,103] ?_;refine Zx<|DY Y<|AB<|HC (by exact ⟨(),⟨by exact Fi.1 Xs,by omega,fun h=>by omega,fun h=>by omega⟩,V,V⟩)
           rotate_left 2
           focus
            refine Sk 6 V<|Yf 3 Bm V rfl A4 Y<|Yl A5 Y ?_;refine Yg (EE Y Y)<|Zf Y Y ?_;refine AZ (t:=97) Y V (fun mR=>?_) (fun mR=>?_);focus
             refine Sk 2 V ?_
             (refine ER Y (C8 (n:=1) Y Y ?_ ?_) rfl rfl ?_;(focus (first|omega|(simp;omega)));(focus (first|omega|(simp;omega))))
             refine Yg (Ak Y Y)<|Sk 2 V<|Z0<|Zn [1,3,4,5,6,7,62,63,64,103] ?_;refine Zx<|Ad Y (fun o8=>?_) (fun o8=>?_);rotate_left;refine AB<|HC (by exact ⟨(),⟨by exact Fi.1 Xs,by omega,fun h=>by omega,fun h=>by omega⟩,V,V⟩)
            rotate_left
            refine Sk 6 V<|Z0<|Zn [1,3,4,5,6,7,62,63,64,103] ?_;refine Zx<|DY Y<|AB<|HC (by exact ⟨(),⟨by exact Fi.1 Xs,by omega,fun h=>by omega,fun h=>by omega⟩,V,V⟩)
          all_goals
           refine A2<|AM Y<|Zt<|AX<|Zt<|Zt<|AX<|Zt<|AO rfl V1 Y (by exact ⟨congrArg Value.bool (CC (fun y:Eb x=>by obtain ⟨⟨bn,cu,cO,d9⟩,_⟩:=y.all i r hr;omega)).symm,rfl⟩)
         rintro _ _ ⟨u9,ax,rfl,rfl⟩;refine Zq<|Au (n:=30) (0::1::3::7::7::7::39::119::255::511::1023::1023::1023::5119::15359::32767::65535::131071::262143::131071::655359::131071::2228223::7995391::16383999::33161215::67108863::134217727::268435455::536870911::[]) 16512 AG AG V<|A1 0 V (AA Y)<|A1 1 V (CW (n:=0) Y Y)<|A1 2 V (AA Y)<|CS (t:=106) Y (fun W=>?_) (fun W=>?_);·
          rw [Cp W];obtain ⟨q,hq⟩:∃q,x.rows[i -1]?=some q:=⟨_,Bk A0⟩;obtain ⟨g2,vo,af,T2,tT,bf,p8,gq,ek⟩:=hg (i -1) q hq;injection bf with bf
          injection bf with e291 e292
          subst e291 e292;have sw:af[off+(i -1)*5+1]?=some (I4 q.k):=by rw [Mv ek gq 1 A0];rfl
          refine B1 3 V (AA Y)<|B1 4 V (AA Y)<|B1 5 V (AA Y) ?_
          (refine B1 6 rfl (C8 (n:=1) Y Y ?_ ?_) ?_;(focus (first|omega|(simp;omega)));(focus (first|omega|(simp;omega))))
          refine Yw 7 255 V (Zu [_] Y call164 Y V (Ia x vp vt hR A0 pb (i -1) q hq))<|DA<|B1 8 V (Dq Y Y)<|B1 9 V (AA Y)<|CS (t:=113) Y (fun kv=>?_) (fun kv=>?_);·
           rw [Cp kv];refine AK 10 V<|AK 11 V<|AK 12 V<|AK 13 V<|AK 14 V<|AK 15 V<|AK 16 V<|AK 17 V<|AK 18 V<|AK 19 V<|AK 20 V<|AK 21 V<|AK 22 V<|AK 23 V<|AK 24 V<|AK 25 V<|AK 26 V<|AK 27 V<|B1 28 V (Ay Y Y)<|A1 29 V (Ay Y Y)<|Am<|Zn [1,3,4,62,63,64,133] ?_;refine Zx<|BV Y<|A2<|AM Y<|AX<|Zt<|Zt<|AX<|Zt<|AO V V1 Y (by exact ⟨congrArg Value.bool (CC (fun y:Eb x=>by have ha:=(y.all i r hr).2 W q hq;unfold Nt at ha;omega)).symm,V⟩)
          rw [CC kv];refine B1 10 V (AA Y)<|B1 11 V (AA Y)<|B1 12 V (AA Y) ?_
          (refine B1 13 rfl (C8 (n:=1) Y Y ?_ ?_) ?_;(focus (first|omega|(simp;omega)));(focus (first|omega|(simp;omega))))
          refine Yw 14 32767 V (Zu [_] Y call164 Y V (Ia x vp vt hR A0 pb (i -1) q hq))<|DA<|B1 15 V (Bd Y Y)<|B1 16 V (AA Y)<|CS (t:=120) Y (fun gy=>?_) (fun gy=>?_);focus
           rw [Cp gy];refine B1 17 V (AL (off:=1) F1 V rfl A4 Y)<|DG 18 V Wh (BZ A5 Y B5) ?_;refine B1 19 V (AL (off:=6) Bm V rfl Cl Y)<|DG 20 V Wh (BZ DQ Y B5) ?_;refine B1 21 V (AA Y) ?_
           (refine B1 22 rfl (C8 (n:=1) Y Y ?_ ?_) ?_;(focus (first|omega|(simp;omega)));(focus (first|omega|(simp;omega))))
           refine B1 23 V (A9 B0 AW Y Y A0)<|B1 24 V (Aj (off:=1) F1 V rfl A4 Y)<|PR (b:=g) (x:= .cells af T2 tT) (D':=67108863) 25 Y V rfl V (by simp [p8]) (BZ A5 Y sw) ?_;refine B1 26 V (JB Y Y)<|B1 27 V (Ay Y Y)<|B1 28 V (BC Y Y)<|A1 29 V (Ay Y Y)<|Am<|Zn [1,3,4,62,63,64,133] ?_;refine Zx<|Ad Y (fun sj=>?_) (fun sj=>?_);refine A2<|AM Y<|AX<|Zt<|Zt<|AX<|Zt<|AO V V1 Y (by exact ⟨congrArg Value.bool (CC (fun y:Eb x=>by have ha:=(y.all i r hr).2 W q hq;unfold Nt at ha;omega)).symm,V⟩)
          rotate_left
          focus
           rw [CC gy];refine AK 17 V<|AK 18 V<|AK 19 V<|AK 20 V<|AK 21 V<|AK 22 V<|AK 23 V<|AK 24 V<|AK 25 V<|AK 26 V<|B1 27 V (BC Y Y)<|B1 28 V (BC Y Y)<|A1 29 V (Ay Y Y)<|Am<|Zn [1,3,4,62,63,64,133] ?_;refine Zx<|DY Y ?_
          all_goals
           refine AB<|A8<|Zx<|GP Y Y Y<|Zn [64,1,3,4,62,63] ?_;refine Ac (e':=[(64,_)]) (by
            exact ⟨i+1,V,⟨by omega,fun j r9 G E=>by
             rcases FA j i with y|y
             · exact I j r9 y E
             · obtain rfl:j=i:=A0
               rw [hr]at E;injection E with E;subst E
               refine ⟨ax,fun qz q9 X=>?_⟩
               (rw [hq]at X;injection X with X;subst X;unfold Nt;omega)⟩,rfl,rfl⟩)
         rw [CC W];refine AK 3 V<|AK 4 V<|AK 5 V<|AK 6 V<|AK 7 V<|AK 8 V<|AK 9 V<|AK 10 V<|AK 11 V<|AK 12 V<|AK 13 V<|AK 14 V<|AK 15 V<|AK 16 V<|AK 17 V<|AK 18 V<|AK 19 V<|AK 20 V<|AK 21 V<|AK 22 V<|AK 23 V<|AK 24 V<|AK 25 V<|AK 26 V<|AK 27 V<|AK 28 V<|A1 29 V (BC Y Y)<|Am<|Zn [1,3,4,62,63,64,133] ?_;refine Zx<|DY Y<|AB<|A8<|Zx<|GP Y Y Y<|Zn [64,1,3,4,62,63] ?_;refine Ac (e':=[(64,_)]) (by
          exact ⟨i+1,V,⟨by omega,fun j r9 G E=>by
           rcases FA j i with y|y
           · exact I j r9 y E
           · obtain rfl:j=i:=A0
             rw [hr]at E;injection E with E;subst E
             refine ⟨ax,fun qz q9 X=>?_⟩
             (exfalso;omega)⟩,rfl,rfl⟩)
        obtain ⟨r0,gm⟩:∃r,x.rows[0]?=some r:=⟨_,Bk A0⟩;obtain ⟨rl,Z⟩:∃r,x.rows[x.rows.length -1]?=some r:=⟨_,Bk A0⟩;have z:Eb x↔(x.fi=0\/Bh r0 x.cl<x.lo)/\(x.fi+(x.rows.length:Int)=x.ct\/x.hi<Bh rl x.cl):=⟨fun h=>⟨h.first r0 gm,h.last rl Z⟩,fun h=>⟨by omega,by omega,by omega,by omega,by omega,fun h0=>absurd h0 hz,fun j r G=>I j r (by have:=(D3.1 G).1;omega) G,fun r G=>by rw [gm]at G;injection G with G;rw [<-G];exact h.1,fun r G=>by rw [Z]at G;injection G with G;rw [<-G];exact h.2⟩⟩
        refine Az<|Zt<|Zt<|AU<|Zx<|Zq<|Au (n:=29) (0::1::3::7::15::31::15::79::255::511::1023::2047::4095::2047::16383::2047::34815::131071::262143::524287::524287::1572863::4194303::524287::8912895::33554431::67108863::134217727::268435455::[]) 4194336 AG AG V<|A1 0 V (AL (off:=5) Bm V rfl A4 Y)<|B6 1 V A5 Y ?_;refine A1 2 V (Bd Y Y)<|A1 3 V (AA Y)<|CS (t:=138) Y (fun J=>?_) (fun J=>?_);focus
         rw [Cp J];refine AK 4 V<|AK 5 V<|AK 6 V<|AK 7 V<|AK 8 V<|A1 9 V (Ay Y Y)<|A1 10 V (AA Y)<|B1 11 V (AL (off:=5) Bm V rfl A4 Y)<|DG 12 V Wh (BZ A5 Y B5) ?_;refine B1 13 V (AA Y) ?_
         (refine B1 14 rfl (Fw Y Y (IntWalk.i64_in _ ?_)) ?_;(focus (first|omega|(simp;omega))))
         refine B1 15 V (AL (off:=4) Bm V rfl A4 Y)<|DG 16 V Wh (BZ A5 Y B5) ?_;refine B1 17 V (Bd Y Y)<|B1 18 V (AA Y)<|CS (t:=153) Y (fun K=>?_) (fun K=>?_);focus
          rw [Cp K]
         rotate_left
         rw [CC K];refine B1 19 V (AA Y)<|B1 20 V (AA Y) ?_
         (refine B1 21 rfl (C8 (n:=1) Y Y ?_ ?_) ?_;(focus (first|omega|(simp;omega)));(focus (first|omega|(simp;omega))))
         refine B1 23 V (AL (off:=3) Bm V rfl A4 Y)<|DG 24 V Wh (BZ A5 Y B5) ?_;refine Yz 22 4194303 33554431 [24,16,12,1] [true,false,false,false] [(24,(_,_))] V Y V rfl V rfl (Zu [_] Y call164 Y V (Ia x vp vt hR A0 pb (x.rows.length -1) rl Z))<|DA<|CA<|B1 25 V (EE Y Y)<|B1 26 V (BC Y Y)<|A1 27 V (Ay Y Y)<|A1 28 V (Aq Y)<|Am<|Zn [2] ?_;refine Zx<|AC<|AO V V1 Y (by exact ⟨by exact F4 ⟨fun y=>z.2 ⟨by omega,by omega⟩,fun y=>by have:=z.1 y;omega⟩,V⟩)
        rotate_left
        focus
         rw [CC J];refine B1 4 V (AA Y)<|B1 6 V (AL (off:=2) Bm V rfl A4 Y)<|DG 7 V Wh (BZ A5 Y B5) ?_;refine Yz 5 31 255 [7,1] [true,false] [(7,(_,_))] V Y V rfl V rfl (Zu [_] Y call164 Y V (Ia x vp vt hR A0 pb 0 r0 gm))<|DA<|CA<|B1 8 V (Dq Y Y)<|A1 9 V (BC Y Y)<|A1 10 V (AA Y)<|CS (t:=145) Y (fun O=>?_) (fun O=>?_);focus
          rw [Cp O];refine B1 11 V (AL (off:=5) Bm V rfl A4 Y)<|DG 12 V Wh (BZ A5 Y B5) ?_;refine B1 13 V (AA Y) ?_
          (refine B1 14 rfl (Fw Y Y (IntWalk.i64_in _ ?_)) ?_;(focus (first|omega|(simp;omega))))
          refine B1 15 V (AL (off:=4) Bm V rfl A4 Y)<|DG 16 V Wh (BZ A5 Y B5) ?_;refine B1 17 V (Bd Y Y)<|B1 18 V (AA Y)<|CS (t:=153) Y (fun U=>?_) (fun U=>?_);focus
           rw [Cp U]
          rotate_left
          rw [CC U];refine B1 19 V (AA Y)<|B1 20 V (AA Y) ?_
          (refine B1 21 rfl (C8 (n:=1) Y Y ?_ ?_) ?_;(focus (first|omega|(simp;omega)));(focus (first|omega|(simp;omega))))
          refine B1 23 V (AL (off:=3) Bm V rfl A4 Y)<|DG 24 V Wh (BZ A5 Y B5) ?_;refine Yz 22 4194303 33554431 [24,16,12,7] [true,false,false,false] [(24,(_,_))] V Y V rfl V rfl (Zu [_] Y call164 Y V (Ia x vp vt hR A0 pb (x.rows.length -1) rl Z))<|DA<|CA<|B1 25 V (EE Y Y)<|B1 26 V (BC Y Y)<|A1 27 V (Ay Y Y)<|A1 28 V (Aq Y)<|Am<|Zn [2] ?_;refine Zx<|AC<|AO V V1 Y (by exact ⟨by exact F4 ⟨fun y=>z.2 ⟨by omega,by omega⟩,fun y=>by have:=z.1 y;omega⟩,V⟩)
         rotate_left
         rw [CC O];refine AK 11 V<|AK 12 V<|AK 13 V<|AK 14 V<|AK 15 V<|AK 16 V<|AK 17 V<|AK 18 V<|AK 19 V<|AK 20 V<|AK 21 V<|AK 22 V<|AK 23 V<|AK 24 V<|AK 25 V<|AK 26 V<|A1 27 V (BC Y Y)<|A1 28 V (Aq Y)<|Am<|Zn [2] ?_;refine Zx<|AC<|AO V V1 Y (by exact ⟨by exact congrArg Value.bool (CC (fun y=>by have:=z.1 y;omega)).symm,V⟩)
        all_goals
         refine AK 19 V<|AK 20 V<|AK 21 V<|AK 22 V<|AK 23 V<|AK 24 V<|AK 25 V<|B1 26 V (Ay Y Y)<|A1 27 V (Ay Y Y)<|A1 28 V (Aq Y)<|Am<|Zn [2] ?_;refine Zx<|AC<|AO V V1 Y (by exact ⟨by exact congrArg Value.bool (Cp (z.2 ⟨by omega,by omega⟩)).symm,V⟩)
      all_goals
       refine A2<|AM Y<|Zt<|AO V V1 Y (by exact ⟨congrArg Value.bool (CC (fun y:Eb x=>by have bn:=y.tc;have cu:=y.lh;have cO:=y.ct;have d9:=y.fi;have p9:=y.n;omega)).symm,V⟩)
 all_goals
  refine Sk 15 V<|Z0<|Zn [1,3,54] ?_;refine Zx<|BV Y<|A2<|AM Y<|Zt<|AO V V1 Y (by exact ⟨congrArg Value.bool (CC (fun y:Eb x=>by have bn:=y.tc;have cu:=y.lh;have cO:=y.ct;have d9:=y.fi;have p9:=y.n;omega)).symm,V⟩)
def inB(x:RP)(r:AV):Bool:=decide (x.lo<=Bh r x.cl/\Bh r x.cl<=x.hi)
noncomputable def Ci(x:RP):List AV:=if Eb x then x.rows.filter (inB x)else []
theorem Wi(h:Eb x):Ci x=x.rows.filter (inB x):=B2 h
theorem bV(h:¬Eb x):Ci x=[]:=Ax h
theorem XL{i:Nat}{r:AV}(g:x.rows[i]?=some r)(h:inB x r=true):(x.rows.take (i+1)).filter (inB x)=(x.rows.take i).filter (inB x)++[r]:=by rw [Bt g,Lz];simp [h]
theorem XM{i:Nat}{r:AV}(g:x.rows[i]?=some r)(h:inB x r=false):(x.rows.take (i+1)).filter (inB x)=(x.rows.take i).filter (inB x):=by rw [Bt g,Lz];simp [h]
set_option maxHeartbeats 4000000 in
theorem Ux(hv:LQ M v x):CJ prog 107 #[v] [M] (fun r H'=>∃vr sr,r= .tuple #[vr,.bool (decide (Eb x))]/\BS 5 91 vr (Ci x).length (Aa (Ci x)) sr/\H'=[sr,M]):=by
 have gm:=mL;obtain ⟨vr,vp,vt,rfl,hR,hP,hT⟩:=id hv;obtain ⟨p,cap,e9,hl,hg⟩:=id hR;subst e9;refine Se func107 ntmps107 [0] ?_;intro u R;refine A2<|Ze (Bx #[_,_,_,_,_,_,_,_,_])<|AE fun pb=>Za Y<|CT Y<|A2<|Zo Wh (A7 (cs:=#[_,_,_,_,_,_,_,_,_]) It DM Y BW B5)<|Xr [_] Y call121 Y V (Np hv)<|Zv (Bp Y)<|A6<|Ad Y (fun y=>?_) (fun y=>?_);·
  refine Bi<|A2<|Za Y<|AM Y<|Zt<|Cn rfl results107 Y Y (by exact ⟨.slice none 0 0,[],by rw [CC y],by rw [bV y];exact BX 5 _,rfl⟩)
 have y:=Fi.1 y;have bn:=y.tc
 have cu:=y.ct;have cO:=y.n
 have d9:=y.fi;refine AB<|BT<|CT Y<|A2<|Zh 6 Bm V rfl Cl Y<|Zl DQ Y<|Zv (AJ B0 Y)<|Zm Y<|A6<|AQ<|Bi<|Zb [4,14,1,12,13] ?_;refine Av (e0:=[(4,_),(14,_)]) (fun m e H=>∃(i:Nat) (Z:A3) (O:List AR),m=x.rows.length -i/\(i<=x.rows.length/\BS 5 91 Z ((x.rows.take i).filter (inB x)).length (Aa ((x.rows.take i).filter (inB x))) O)/\e=[(4,Z),(14,I4 (i:Int))]/\H=[O]) (by exact ⟨0,.slice none 0 0,[],rfl,⟨CD _,by rw [Hh];exact BX 5 _⟩,rfl,rfl⟩) Wp ?_;rintro _ _ _ ⟨i,Z,O,rfl,⟨hi,E⟩,rfl,rfl⟩;obtain ⟨qo,co,rfl⟩:=E.form;have ek:((x.rows.take i).filter (inB x)).length<=i:=To (On _ _) (cV _ _)
 refine A2<|Zv (Ak Y Y)<|A6<|Zq<|Ad Y (fun J=>?_) (fun J=>?_);·
  obtain ⟨r,K⟩:∃r,x.rows[i]?=some r:=⟨_,Bk J⟩;obtain ⟨g,off,cur,T,zz,rfl,X,af,I⟩:=hg i r K;refine B3<|Zq<|AQ<|A2<|BN (A9 B0 AW Y Y A0)<|Cj (cs:=[(g,.cells cur T zz)]) (by simp [X]) (A7 (cs:=r.Ax3) C5 AW Y A0 I) V rfl<|Ze (Al DS #[_,_,_,_,_])<|AE fun rb=>Xe (Xw AW r.Ax3)<|A6<|A2<|Zo Wh (A7 (cs:=#[_,_,_,_,_]) C5 AW Y BW B5)<|Zh 1 Bm V rfl A4 Y<|Zl A5 Y<|Xr [_,_] Y Sf Y V (Gf r x.cl A0)<|AF Y<|B7 Y<|Zh 2 Bm V rfl A4 Y<|Zl A5 Y<|Zv (Fa Y Y)<|Zm Y<|AZ (t:=26) Y V (fun U=>?_) (fun U=>?_);focus
   refine Zf Y Y<|Yf 3 Bm V rfl A4 Y<|Yl A5 Y<|Yg (JB Y Y)<|HR Y Y<|Z0<|Zn [1,4,6,12,13,14,31] ?_;refine Zx<|Ad Y (fun W=>?_) (fun W=>?_);·
    have z:inB x r=true:=Cp A0;refine Zg<|Zm Y<|Zo Wh (A7 (cs:=#[_,_,_,_,_]) C5 AW Y BW B5)<|Ze (Ah (vs:=[_]) (cs:=[_,_,_,_,_]) B0 AW DS Y V rfl V rfl V)<|AE fun gb=>Ze (BL (by_:=40) (sz:=5) B0 (V:Tryz.prog.info? 91=some Tryz.t91) V rfl V rfl Y (E) Y (D7 5 gb 1 1 91 (0,0) [I4 r.t,I4 r.k,I4 r.v.a,I4 r.v.b,I4 r.v.c] V) Wo Wo HH A0 A0) ?_;rintro _ _ ⟨gq,G,rfl⟩;obtain ⟨bf,ax,rfl⟩:=G.form;refine AN Y<|A8<|Zx<|GP Y Y Y<|DH (e:=[(4,_),(14,_)]) (h:=by exact ⟨i+1,_,_,rfl,⟨by omega,BJ G (by rw [XL K z,C7];rfl) (by rw [XL K z,BR];rfl)⟩,rfl,rfl⟩)
   focus
    have z:inB x r=false:=CC A0
  rotate_left
  focus
   have z:inB x r=false:=CC A0;refine Sk 5 V<|Z0<|Zn [1,4,6,12,13,14,31] ?_;refine Zx<|DY Y ?_
  all_goals
   refine AB<|A8<|Zx<|GP Y Y Y<|DH (e:=[(4,_),(14,_)]) (h:=by exact ⟨i+1,_,O,rfl,⟨by omega,BJ E (by rw [XM K z]) (by rw [XM K z])⟩,rfl,rfl⟩)
 have ei:i=x.rows.length:=by omega
 subst ei;rw [HJ]at E⊢;refine Az<|Zt<|Zt<|AU<|BT<|Sk 2 rfl<|AM Y<|Cn rfl results107 Y Y (by exact ⟨.slice qo _ co,O,by rw [Cp y],by rw [Wi y];exact E,rfl⟩)
structure KF(root:Bs)(x:RP):Prop where
 comp:Eb x
 n16:x.roots.length=16
 np:x.paths.length=x.rows.length
 root:DW x.roots=root
 sum:∃d:Bs,d.length=32/\x.roots[4*x.tb.toNat+x.cl.toNat]?=some (MG x.ct++d)/\(x.ct=0->d=DW [])/\
  (x.ct≠0->∀(k:Nat) (r:AV) (pf:List Bs),x.rows[k]?=some r->x.paths[k]?=some pf->NT d x.ct.toNat (x.fi.toNat+k) (Im r) pf=true)
noncomputable instance(root:Bs)(x:RP):Decidable (KF root x):=Classical.propDecidable _
theorem FN{root:Bs}(h:¬KF root x):Value.bool false=Value.bool (decide (KF root x)):=congrArg Value.bool (CC h).symm
theorem JX{a b:Bs}(h:str a=str b):a=b:=by rw [<-J4 a,<-J4 b,h]
theorem gW(a b:Bs):(str (a++b)).extract 0 (str a).size=str a:=by
 apply ByteArray.ext;rw [lR,Be];simp [str]
theorem Xy(a b:Bs):(str (a++b)).extract (str a).size (str (a++b)).size=str b:=by
 apply ByteArray.ext;rw [lR,Be,Be];simp [str]
theorem og{s n:Bs}(h:(str s).extract 0 (str n).size=str n):∃d,s=n++d:=by
 have g:((str s).extract 0 (str n).size).data.toList=n:=by rw [h,J4]
 rw [lR,Be]at g;refine ⟨s.drop n.length,?_⟩;conv=>lhs;rw [<-Ln n.length s]
 congr 1;simp [str]at g;exact g
theorem Rp(M:List AR):DU M (.slice none 0 0) []:=⟨none,0,rfl,⟨by simp,by simp⟩,by intro i s h;simp at h⟩
theorem Mj{n:Int}(h:0<=n):∃k:Nat,n=(k:Int):=⟨n.toNat,by omega⟩
set_option maxHeartbeats 4000000 in
theorem WR(hv:LQ M v x)(K:∀s∈x.roots,s.length<=140737488354000)(W:∀l∈x.paths,l.length<=1000000)(root:Bs)(Tg:An)(zg:Nat×Nat):BB prog 61 #[.string (str root),v] [[(1,.cells (Dj.map CP).toArray Tg zg)],M] (.bool (decide (KF root x))):=by
 have zm:=mL;obtain ⟨vr,vp,vt,rfl,hR,hP,hT⟩:=id hv;obtain ⟨p,cap,e9,hl,hg⟩:=id hR;subst e9;obtain ⟨p3,wz,p8,zk,qx⟩:=id hP;subst p8;obtain ⟨p4,x9,p9,zl,qy⟩:=id hT;subst p9;refine Se func61 ntmps61 [0,1] ?_;intro u R;refine A2<|Ze (Bx #[_,_,_,_,_,_,_,_,_])<|AE fun pb=>CT Y<|A2<|Zo Wh (Pa #[_,_,_,_,_,_,_,_,_] It DM Y) ?_;refine Xr [_] Y call121 Y V (Np hv) ?_;refine Zv (Bp Y)<|Zm Y<|AZ (t:=16) Y V (fun I=>?_) (fun I=>?_);focus
  refine Sk 15 V ?_
 rotate_left
 focus
  refine Yf 8 Bm V rfl Hj Y<|Yl Iv Y ?_;refine Yg (AJ DB Y)<|Yg (Cb (n:=16) Y Y)<|Sk 2 V ?_;refine AZ (t:=22) Y V (fun kz=>?_) (fun kz=>?_);focus
   refine Sk 9 V ?_
  rotate_left
  focus
   refine Yf 7 Bm V rfl Mn Y<|Yl Q1 Y ?_;refine Yg (AJ LR Y)<|Yf 6 Bm V rfl Cl Y<|Yl DQ Y ?_;refine Yg (AJ B0 Y)<|Yg (Cb Y Y)<|Sk 2 V ?_;refine AZ (t:=31) Y V (fun l8=>?_) (fun l8=>?_);rotate_left;refine Yf 8 Bm V rfl Hj Y<|Yl Iv Y ?_;refine Xr [_] Y call122 Y V (Kr hT A0 K Tg zg) ?_;refine Zf Y Y<|Yg (Jq Y Y)<|H3 Y Y<|Z0<|Zn [3,37] ?_;refine Zx<|Ad Y (fun cO=>?_) (fun cO=>?_);·
    refine A2<|AM Y<|Zt<|AO rfl dt Y (by exact ⟨FN (fun z=>by have pg:=z.comp;have pq:=z.n16;have pz:=z.np;have kv:=z.root;exact cO (by rw [kv])),rfl⟩)
   have I:=Fi.1 I;obtain ⟨⟨⟨tT,E5⟩,q9,za⟩,_,⟨sw,zo⟩,⟨qo,zh⟩,zw,_⟩:=id I;obtain ⟨tn,ve⟩:=Mj tT;obtain ⟨cn,qa⟩:=Mj q9;obtain ⟨nn,J⟩:=Mj sw;obtain ⟨fn,qw⟩:=Mj qo;obtain ⟨s9,G⟩:∃s,x.roots[4*tn+cn]?=some s:=⟨_,Bk A0⟩;have ax:DW x.roots=root:=JX (Fi.1 cO)
   rw [ve,qa,J,qw];obtain ⟨g4,y9,gq,T4,vz,rfl,sj,lv⟩:=qy _ s9 G;have zb:=H9 (nn:Int) A0 A0
   have sO:=Be s9;have oq:=Be (MG (nn:Int))
   have zx:=K s9 (Fm G);have E:4*x.tb.toNat+x.cl.toNat=4*tn+cn:=by omega
   refine AB<|BT<|Zh 4 Bm V rfl A4 Y<|Zl A5 Y ?_;refine Xr [_] Y call123 Y V (MW (nn:Int) A0 A0) ?_;refine Sk 4 V<|AF Y<|A2<|Zh 8 Bm V rfl Hj Y<|Zl Iv Y ?_;refine Zh 0 Bm V rfl A4 Y<|Zl A5 Y ?_;refine BN (Dl (m:=4) Y Y (by first|omega|(simp;omega)))<|Zh 1 Bm rfl rfl A4 Y<|Zl A5 Y ?_;refine BN (Ce Y Y (by first|omega|(simp;omega)))<|BN (BO DB F2 Y Y Fl)<|Cj (cs:=[(g4,.cells gq T4 vz)]) (by simp [sj]) (BZ HG Y lv) rfl rfl ?_;refine AN Y<|Zn [3,5,7] ?_;refine Zx<|C0 Y<|Zv (Da HM Y)<|Zm Y<|Zv (Da HM Y)<|Ya (n:=32) Y Y<|Zv (Cb Y Y)<|Zm Y<|AZ (t:=60) Y V (fun ek=>?_) (fun ek=>?_);·
    refine Sk 7 V<|Z0<|Zn [3,5,7,67] ?_;refine Zx<|BV Y<|A2<|AM Y<|Zt<|AO rfl dt Y (by exact ⟨FN (fun z=>by obtain ⟨d,hd,y,_⟩:=z.sum;rw [E,G,J]at y;injection y with y;subst y;exact ek (by rw [sO,oq,C7,hd])),rfl⟩)
   refine Sk 2 V<|Yg (Da HM Y) ?_;refine ER Y (Md HM Y Y (by first|omega|(simp;omega))) rfl rfl ?_;refine Zf Y Y<|Yg (Jq Y Y)<|H3 Y Y<|Z0<|Zn [3,5,7,67] ?_;refine Zx<|Ad Y (fun cu=>?_) (fun cu=>?_);·
    refine A2<|AM Y<|Zt<|AO rfl dt Y (by exact ⟨FN (fun z=>by obtain ⟨d,hd,y,_⟩:=z.sum;rw [E,G,J]at y;injection y with y;subst y;exact cu (gW _ _)),rfl⟩)
   obtain ⟨d9,rfl⟩:=og (Fi.1 cu);have af:d9.length=32:=by rw [oq,Be,C7]at ek;omega
   refine AB<|BT<|Sk 2 rfl<|Zv (Da HM Y)<|BN (Kz HM Y Y (by rw [Be,Be,C7];omega))<|CT Y<|Zq ?_;rw [Xy];refine Zg<|Zh 4 Bm V rfl A4 Y<|Zl A5 Y ?_;refine Zv (Bg (n:=0) Y Y)<|A6<|Ad Y (fun hz=>?_) (fun hz=>?_);·
    refine B7 Y<|Xr [_] Y call122 Y V (Kr (Rp M) C4 C4 Tg zg) ?_;refine Zv (L9 Y Y)<|AM Y<|Zt<|AO rfl dt Y (by exact ⟨F4 ⟨fun z=>⟨I,by omega,by omega,ax,d9,af,by rw [E,G,J],fun _=>JX z,fun h0=>by omega⟩,fun z=>by obtain ⟨d,hd,y,bf,_⟩:=z.sum;rw [E,G,J]at y;injection y with y;rw [ia y,bf A0]⟩,rfl⟩)
   refine B3<|Zq<|A2<|Zh 6 Bm V rfl Cl Y<|Zl DQ Y ?_;refine Zv (AJ B0 Y)<|Zm Y<|A6<|AQ<|Zb [81,3,8,79,80] ?_;refine Av (e0:=[(81,_)]) (fun m e H=>∃(k:Nat),m=x.rows.length -k/\(k<=x.rows.length/\∀(j:Nat) (r:AV) (pf:List Bs),j<k->x.rows[j]?=some r->x.paths[j]?=some pf->NT d9 nn (fn+j) (Im r) pf=true)/\e=[(81,I4 (k:Int))]/\H=[]) (by exact ⟨0,V,⟨CD _,by intro j r pf hj;omega⟩,V,V⟩) Wp ?_;rintro _ _ _ ⟨k,rfl,⟨hk,Z⟩,rfl,rfl⟩;refine A2<|Zv (Ak Y Y)<|A6<|Zq<|Ad Y (fun mR=>?_) (fun mR=>?_);·
    obtain ⟨r,hr⟩:∃r,x.rows[k]?=some r:=⟨_,Bk mR⟩;obtain ⟨g,off,cur,T,zz,rfl,o8,y5,bn⟩:=hg k r hr;obtain ⟨pf,X⟩:∃pf,x.paths[k]?=some pf:=⟨_,Bk A0⟩;obtain ⟨q6,c6,vo,g6,yt,gy,T6,wo,rfl,qz,l9⟩:=qx k pf X;have o9:=(I.all k r hr).1.1
    refine B3<|Zq<|AQ<|B7 Y<|BN (A9 B0 AW Y Y Fl)<|Cj (cs:=[(g,.cells cur T zz)]) (by simp [o8]) (A7 (cs:=r.Ax3) C5 AW Y A0 bn) rfl rfl ?_;refine Ze (Al DS #[_,_,_,_,_])<|AE fun rb=>Za Y<|Xe (Xw AW r.Ax3) ?_;refine A6<|A2<|Zo Wh (Pa #[_,_,_,_,_] C5 AW Y) ?_;refine Xr [_] Y call124 Y V (Uu r o9) ?_;refine Sk 4 V<|AN Y<|Zn [3,8,9,11,79,80,81] ?_;refine Zx<|Zq<|Au (n:=15) (0::0::2::0::8::0::56::0::0::256::0::1792::3840::8191::16383::[]) 8192 AG AG V<|A1 0 V (AA Y)<|A1 1 V (AL (off:=4) Bm V rfl A4 Y)<|B6 2 V A5 Y ?_;refine A1 3 V (AL (off:=5) Bm V rfl A4 Y)<|B6 4 V A5 Y ?_;refine A1 5 rfl (AA Y)<|A1 6 rfl (Ce Y Y (by first|omega|(simp;omega)))<|A1 7 rfl (AA Y)<|A1 8 rfl (AL (off:=7) Bm rfl rfl Mn Y)<|B6 9 rfl Q1 Y ?_;refine A1 10 rfl (AA Y)<|A1 11 rfl (BO LR Hj Y Y Fl)<|CX (b:=g6) (x:= .cells gy T6 wo) (D':=8191) 12 rfl rfl rfl (by simp [qz]) (BZ Iv Y l9) ?_;refine Yw 13 16383 V (Zu [_,_,_,_,_] Y call125 Y V (Xq vo (W pf (Fm X)) d9 (Im r) (by have:=OO o9;omega) nn (fn+k) A0 A0 Tg zg))<|DA<|A1 14 V (CR Y)<|Am<|Zn [3,8,79,80,81,105] ?_;refine Zx<|Af Y (fun gm=>?_) (fun gm=>?_);·
     refine A2<|AM Y<|AX<|Zt<|Zt<|AX<|Zt<|AO rfl dt Y (by exact ⟨FN (fun z=>by obtain ⟨d,hd,y,_,qb⟩:=z.sum;rw [E,G,J]at y;injection y with y;have bf:=ia y;have h5:=qb A0 k r pf hr X;rw [<-bf,show x.ct.toNat=nn by omega,show x.fi.toNat=fn by omega]at h5;simp [h5]at gm),rfl⟩)
    refine AB<|A8<|Zx<|GP Y Y Y<|Zn [81,3,8,79,80] ?_;refine Ac (e':=[(81,_)]) (by
     exact ⟨k+1,V,⟨by omega,fun j r9 vw hj U O=>by
      rcases FA j k with z|z
      · exact Z j r9 vw z U O
      · obtain rfl:j=k:=A0
        rw [hr]at U;injection U with U;subst U
        rw [X]at O;injection O with O;subst O
        simpa using gm⟩,rfl,rfl⟩)
   refine Az<|Zt<|Zt<|AU<|BT<|AM Y<|AO rfl dt Y (by exact ⟨congrArg Value.bool (Cp (show KF root x from⟨I,by omega,by omega,ax,d9,af,by rw [E,G,J],fun h0=>by omega,fun h0 j r pf hj hp=>by rw [show x.ct.toNat=nn by omega,show x.fi.toNat=fn by omega];exact Z j r pf (by have:=(D3.1 hj).1;omega) hj hp⟩)).symm,rfl⟩)
 all_goals
  refine Sk 6 V<|Z0<|Zn [3,37] ?_;refine Zx<|BV Y<|A2<|AM Y<|Zt<|AO V dt Y (by exact ⟨FN (fun z=>by have pg:=z.comp;have pq:=z.n16;have pz:=z.np;have kv:=z.root;contradiction),V⟩)
variable{vb va:A3}{b a:List Bs}
theorem aJ(ha:DU M va a)(hb:DU M vb b):BB prog 136 #[va,vb] [M] (.bool (decide (a=b))):=by
 have gm:=mL;obtain ⟨pa,ca,rfl,d9,U⟩:=ha;obtain ⟨pb,cb,rfl,ek,W⟩:=hb;refine Se func136 ntmps136 [0,1] ?_;intro u R;refine A2<|AF Y<|C0 Y<|Zv (AJ DB Y)<|Zm Y<|Zv (AJ DB Y)<|Zv (Cb Y Y)<|A6<|Ad Y (fun J=>?_) (fun J=>?_);·
  refine A2<|AM Y<|Zt<|AO rfl results136 Y (by exact ⟨Co (fun e=>J (by rw [e])),rfl⟩)
 have X:a.length=b.length:=by omega
 refine B3<|C0 Y<|Zv (AJ DB Y)<|Zm Y<|A6<|AQ<|Zb [13,0,1,12] ?_;refine Av (e0:=[(13,_)]) (fun m e H=>∃(i:Nat),m=a.length -i/\(i<=a.length/\∀j,j<i->a[j]?=b[j]?)/\e=[(13,I4 (i:Int))]/\H=[]) (by exact ⟨0,V,⟨CD _,by intro j hj;omega⟩,V,V⟩) Wp ?_;rintro _ _ _ ⟨i,rfl,⟨hi,g⟩,rfl,rfl⟩;refine A2<|Zv (Ak Y Y)<|A6<|Zq<|Ad Y (fun Z=>?_) (fun Z=>?_);·
  obtain ⟨x,hx⟩:∃x,a[i]?=some x:=⟨_,Bk A0⟩;obtain ⟨y,hy⟩:∃y,b[i]?=some y:=⟨_,Bk A0⟩;obtain ⟨g1,cu,z,T1,bf,rfl,af,G⟩:=U i x hx;obtain ⟨g2,cO,E,T2,bn,rfl,ax,I⟩:=W i y hy;refine B3<|Zq<|AQ<|B7 Y<|CT Y<|Au (n:=9) (0::0::3::7::0::0::48::112::255::[]) 0 AG AG V<|A1 0 V (AA Y)<|A1 1 V (AA Y)<|A1 2 V (BO DB F2 Y Y A0)<|CX (b:=g1) (x:= .cells z T1 bf) (D':=15) 3 V rfl V (by simp [af]) (BZ HG Y G) ?_;refine A1 4 V (AA Y)<|A1 5 V (AA Y)<|A1 6 V (BO DB F2 Y Y A0)<|CX (b:=g2) (x:= .cells E T2 bn) (D':=255) 7 V rfl V (by simp [ax]) (BZ HG Y I) ?_;refine A1 8 V (Jq Y Y)<|Am<|Zx<|Ad Y (fun K=>?_) (fun K=>?_);·
   refine A2<|AN Y<|Zn [4] ?_;refine Zx<|AC<|AX<|Zt<|Zt<|AX<|Zt<|AO rfl results136 Y (by exact ⟨Co (fun e=>by rw [e,hy]at hx;injection hx with hx;exact K (by rw [hx])),rfl⟩)
  have O:x=y:=JX (Fi.1 K);refine AB<|A8<|Zx<|GP Y Y Y<|HN (by exact ⟨i+1,rfl,⟨by omega,fun j hj=>by rcases FA j i with h9|h9;exact g j h9;obtain rfl:j=i:=A0;rw [hx,hy];exact congrArg some O⟩,rfl,rfl⟩)
 refine Az<|Zt<|Zt<|AU<|BT<|AM Y<|AO V results136 Y (by exact ⟨IV (Iu X (fun j hj=>g j A0)),V⟩)
theorem iD(ha:DU M va a)(hb:DU M vb b):BB prog 41 #[va,vb] [M] (.bool (decide (a=b))):=by
 have gm:=mL;obtain ⟨pa,ca,rfl,d9,U⟩:=ha;obtain ⟨pb,cb,rfl,ek,W⟩:=hb;refine Se func41 ntmps41 [0,1] ?_;intro u R;refine A2<|AF Y<|C0 Y<|Zv (AJ DB Y)<|Zm Y<|Zv (AJ DB Y)<|Zv (Cb Y Y)<|A6<|Ad Y (fun J=>?_) (fun J=>?_);·
  refine A2<|AM Y<|Zt<|AO rfl results41 Y (by exact ⟨Co (fun e=>J (by rw [e])),rfl⟩)
 have X:a.length=b.length:=by omega
 refine B3<|Zq<|A2<|AF Y<|AQ<|Zb [5,0,1] ?_;refine Av (e0:=[(5,_)]) (fun m e H=>∃(i:Nat),m=a.length -i/\(i<=a.length/\∀j,j<i->a[j]?=b[j]?)/\e=[(5,I4 (i:Int))]/\H=[]) (by exact ⟨0,V,⟨CD _,by intro j hj;omega⟩,V,V⟩) Wp ?_;rintro _ _ _ ⟨i,rfl,⟨hi,g⟩,rfl,rfl⟩;refine Zq<|A2<|Sk 2 V<|Zv (AJ DB Y)<|Zv (Ak Y Y)<|A6<|Ad Y (fun Z=>?_) (fun Z=>?_);·
  obtain ⟨x,hx⟩:∃x,a[i]?=some x:=⟨_,Bk A0⟩;obtain ⟨y,hy⟩:∃y,b[i]?=some y:=⟨_,Bk A0⟩;obtain ⟨g1,cu,z,T1,bf,rfl,af,G⟩:=U i x hx;obtain ⟨g2,cO,E,T2,bn,rfl,ax,I⟩:=W i y hy;refine B3<|Zq<|AQ<|Zq<|Au (n:=9) (0::0::3::7::0::0::48::112::255::[]) 0 AG AG V<|A1 0 V (AA Y)<|A1 1 V (AA Y)<|A1 2 V (BO DB F2 Y Y A0)<|CX (b:=g1) (x:= .cells z T1 bf) (D':=15) 3 V rfl V (by simp [af]) (BZ HG Y G) ?_;refine A1 4 V (AA Y)<|A1 5 V (AA Y)<|A1 6 V (BO DB F2 Y Y A0)<|CX (b:=g2) (x:= .cells E T2 bn) (D':=255) 7 V rfl V (by simp [ax]) (BZ HG Y I) ?_;refine A1 8 V (Jq Y Y)<|Am<|Zn [0,1,5,25] ?_;refine Zx<|Ad Y (fun K=>?_) (fun K=>?_);·
   refine A2<|AM Y<|AX<|Zt<|Zt<|AX<|Zt<|AO rfl results41 Y (by exact ⟨Co (fun e=>by rw [e,hy]at hx;injection hx with hx;exact K (by rw [hx])),rfl⟩)
  have O:x=y:=JX (Fi.1 K);refine AB<|A8<|Zx<|Zg<|Zm Y<|Ya (n:=1) Y Y<|AN Y<|HN (by exact ⟨i+1,rfl,⟨by omega,fun j hj=>by rcases FA j i with h9|h9;exact g j h9;obtain rfl:j=i:=A0;rw [hx,hy];exact congrArg some O⟩,rfl,rfl⟩)
 refine Az<|Zt<|Zt<|AU<|BT<|AM Y<|AO V results41 Y (by exact ⟨IV (Iu X (fun j hj=>g j A0)),V⟩)
theorem ug{a b:List AV}(ha:CZ M va a)(hb:CZ M vb b):BB prog 42 #[va,vb] [M] (.bool (decide (a=b))):=by
 have gy:=mL;obtain ⟨pa,ca,rfl,gm,U⟩:=ha;obtain ⟨pb,cb,rfl,gq,W⟩:=hb;refine Se func42 ntmps42 [0,1] ?_;intro u R;refine A2<|AF Y<|C0 Y<|Zv (AJ B0 Y)<|Zm Y<|Zv (AJ B0 Y)<|Zv (Cb Y Y)<|A6<|Ad Y (fun J=>?_) (fun J=>?_);·
  refine A2<|AM Y<|Zt<|AO rfl results42 Y (by exact ⟨Co (fun e=>J (by rw [e])),rfl⟩)
 have X:a.length=b.length:=by omega
 refine B3<|Zq<|A2<|AF Y<|AQ<|Zb [5,0,1] ?_;refine Av (e0:=[(5,_)]) (fun m e H=>∃(i:Nat),m=a.length -i/\(i<=a.length/\∀j,j<i->a[j]?=b[j]?)/\e=[(5,I4 (i:Int))]/\H=[]) (by exact ⟨0,V,⟨CD _,by intro j hj;omega⟩,V,V⟩) Wp ?_;rintro _ _ _ ⟨i,rfl,⟨hi,g⟩,rfl,rfl⟩;refine Zq<|A2<|Sk 2 V<|Zv (AJ B0 Y)<|Zv (Ak Y Y)<|A6<|Ad Y (fun Z=>?_) (fun Z=>?_);·
  obtain ⟨x,hx⟩:∃x,a[i]?=some x:=⟨_,Bk A0⟩;obtain ⟨y,hy⟩:∃y,b[i]?=some y:=⟨_,Bk A0⟩;obtain ⟨g1,d9,z,T1,bf,rfl,af,cu,G⟩:=U i x hx;obtain ⟨g2,ek,E,T2,bn,rfl,ax,cO,I⟩:=W i y hy;refine B3<|Zq<|AQ<|Zq<|Au (n:=9) (0::0::3::7::0::0::48::112::255::[]) 0 AG AG V<|A1 0 V (AA Y)<|A1 1 V (AA Y)<|A1 2 V (A9 B0 AW Y Y A0)<|CX (b:=g1) (x:= .cells z T1 bf) (D':=15) 3 V rfl V (by simp [af]) (A7 (cs:=x.Ax3) C5 AW Y A0 G) ?_;refine A1 4 V (AA Y)<|A1 5 V (AA Y)<|A1 6 V (A9 B0 AW Y Y A0)<|CX (b:=g2) (x:= .cells E T2 bn) (D':=255) 7 V rfl V (by simp [ax]) (A7 (cs:=y.Ax3) C5 AW Y A0 I) ?_;refine A1 8 V (QL AG F1 AG AH AH AH Ge HS A5 A4 Hv Dg Y Y)<|Am<|Zn [0,1,5,25] ?_;refine Zx<|Ad Y (fun K=>?_) (fun K=>?_);·
   refine A2<|AM Y<|AX<|Zt<|Zt<|AX<|Zt<|AO rfl results42 Y (by exact ⟨Co (fun e=>by rw [e,hy]at hx;injection hx with hx;exact K (Q5.2 hx.symm)),rfl⟩)
  have O:x=y:=Q5.1 (Fi.1 K);refine AB<|A8<|Zx<|Zg<|Zm Y<|Ya (n:=1) Y Y<|AN Y<|HN (by exact ⟨i+1,rfl,⟨by omega,fun j hj=>by rcases FA j i with h9|h9;exact g j h9;obtain rfl:j=i:=A0;rw [hx,hy];exact congrArg some O⟩,rfl,rfl⟩)
 refine Az<|Zt<|Zt<|AU<|BT<|AM Y<|AO V results42 Y (by exact ⟨IV (Iu X (fun j hj=>g j A0)),V⟩)
theorem Ql{a b:RP}:a=b↔a.paths=b.paths/\(a.tb=b.tb/\a.cl=b.cl/\a.lo=b.lo/\a.hi=b.hi/\a.ct=b.ct/\a.fi=b.fi)/\a.rows=b.rows/\a.roots=b.roots:=by
 obtain ⟨K,O,U,W,X,Z,a7,a8,a9⟩:=a;obtain ⟨b1,b2,b3,b4,b5,b6,b7,b8,b9⟩:=b;simp only [RP.mk.injEq];constructor;· rintro ⟨g,h2,m,y,z,E,G,I,J⟩;exact ⟨I,⟨g,h2,m,y,z,E⟩,G,J⟩
 · rintro ⟨I,⟨g,h2,m,y,z,E⟩,G,J⟩;exact ⟨g,h2,m,y,z,E,G,I,J⟩
theorem bR(g:DU M va a)(m:DU M vb b):BB prog 135 #[va,vb] [M] (.bool (decide (a=b))):=by
 refine Se func135 ntmps135 [0,1] ?_;intro u R;refine A2<|AF Y<|A2<|Sk 2 V<|Xr [_,_] Y call136 Y V (aJ g m)<|AM Y<|AO V results135 Y (by exact ⟨V,V⟩)
theorem ru{a b:List (List Bs)}(ha:GG M va a)(hb:GG M vb b):BB prog 180 #[va,vb,.func (.func 135) #[] #[]] [M] (.bool (decide (a=b))):=by
 have gy:=mL;obtain ⟨pa,ca,rfl,gm,U⟩:=ha;obtain ⟨pb,cb,rfl,gq,W⟩:=hb;refine Se func180 ntmps180 [0,1,2] ?_;intro u R;refine A2<|AF Y<|C0 Y<|Zv (AJ LR Y)<|Zm Y<|Zv (AJ LR Y)<|Zv (Cb Y Y)<|A6<|Ad Y (fun J=>?_) (fun J=>?_);·
  refine A2<|AM Y<|Zt<|AO rfl results180 Y (by exact ⟨Co (fun e=>J (by rw [e])),rfl⟩)
 have X:a.length=b.length:=by omega
 refine B3<|C0 Y<|Zv (AJ LR Y)<|Zm Y<|A6<|AQ<|Zb [17,1,2,15,16] ?_;refine Av (e0:=[(17,_)]) (fun m e H=>∃(i:Nat),m=a.length -i/\(i<=a.length/\∀j,j<i->a[j]?=b[j]?)/\e=[(17,I4 (i:Int))]/\H=[]) (by exact ⟨0,V,⟨CD _,by intro j hj;omega⟩,V,V⟩) Wp ?_;rintro _ _ _ ⟨i,rfl,⟨hi,g⟩,rfl,rfl⟩;refine A2<|Zv (Ak Y Y)<|A6<|Zq<|Ad Y (fun Z=>?_) (fun Z=>?_);·
  obtain ⟨x,hx⟩:∃x,a[i]?=some x:=⟨_,Bk A0⟩;obtain ⟨y,hy⟩:∃y,b[i]?=some y:=⟨_,Bk A0⟩;obtain ⟨q1,c1,bf,g1,d9,z,T1,cu,rfl,af,G⟩:=U i x hx;obtain ⟨q2,c2,bn,g2,ek,E,T2,cO,rfl,ax,I⟩:=W i y hy;refine B3<|Zq<|AQ<|B7 Y<|BN (BO LR Hj Y Y A0)<|Cj (cs:=[(g1,.cells z T1 cu)]) (by simp [af]) (BZ Iv Y G) V rfl<|Za Y<|AF Y<|A2<|Sk 2 V ?_;refine BN (BO LR Hj Y Y A0)<|Cj (cs:=[(g2,.cells E T2 cO)]) (by simp [ax]) (BZ Iv Y I) V rfl<|AF Y<|A2<|Sk 3 V<|Xr [_,_] Y call135 Y V (bR bf bn)<|Zv (Bp Y)<|Z0<|Zn [1,2,15,16,17,30] ?_;refine Zx<|Ad Y (fun K=>?_) (fun K=>?_);·
   refine A2<|AM Y<|AX<|Zt<|Zt<|AX<|Zt<|AO rfl results180 Y (by exact ⟨Co (fun e=>by rw [e,hy]at hx;injection hx with hx;exact K hx.symm),rfl⟩)
  have O:x=y:=Fi.1 K;refine AB<|A8<|Zx<|GP Y Y Y<|HN (by exact ⟨i+1,rfl,⟨by omega,fun j hj=>by rcases FA j i with h9|h9;exact g j h9;obtain rfl:j=i:=A0;rw [hx,hy];exact congrArg some O⟩,rfl,rfl⟩)
 refine Az<|Zt<|Zt<|AU<|BT<|AM Y<|AO V results180 Y (by exact ⟨IV (Iu X (fun j hj=>g j A0)),V⟩)
theorem fq{a b:List (List Bs)}(g:GG M va a)(m:GG M vb b):BB prog 134 #[va,vb,.func (.func 135) #[] #[]] [M] (.bool (decide (a=b))):=by
 refine Se func134 ntmps134 [0,1,2] ?_;intro u R;refine A2<|AF Y<|A2<|Sk 3 V<|Xr [_,_,_] Y call180 Y V (ru g m)<|AM Y<|AO V results134 Y (by exact ⟨V,V⟩)
theorem Vi(x:RP)(m g y:A3):BB prog 133 #[.agg #[I4 x.tb,I4 x.cl,I4 x.lo,I4 x.hi,I4 x.ct,I4 x.fi,m,g,y]] [] (.agg #[I4 x.tb,I4 x.cl,I4 x.lo,I4 x.hi,I4 x.ct,I4 x.fi]):=by
 refine Se func133 ntmps133 [0] ?_;intro u R;refine A2<|Ze (Bx #[_,_,_,_,_,_,_,_,_])<|AE fun z=>Ze (Al zeroValue184 #[_,_,_,_,_,_])<|AE fun E=>A6<|A2<|Zh 0 Bm V rfl A4 Y<|Zl A5 Y<|Zh 1 Bm V rfl A4 Y<|Zl A5 Y<|Zh 2 Bm V rfl A4 Y<|Zl A5 Y<|Zh 3 Bm V rfl A4 Y<|Zl A5 Y<|Zh 4 Bm V rfl A4 Y<|Zl A5 Y<|Zh 5 Bm V rfl A4 Y<|Zl A5 Y<|Zv (BK (vs:=[(0,I4 x.tb),(1,I4 x.cl),(2,I4 x.lo),(3,I4 x.hi),(4,I4 x.ct),(5,I4 x.fi)]) (cs:=#[I4 x.tb,I4 x.cl,I4 x.lo,I4 x.hi,I4 x.ct,I4 x.fi]) Y (DN zeroValue184 gi A4 AG))<|Xe (Xw sizeOf184 #[I4 x.tb,I4 x.cl,I4 x.lo,I4 x.hi,I4 x.ct,I4 x.fi])<|Z0<|Zn [2] ?_;refine Zx<|AC<|Df V results133 Y Wh (Ai isAgg184 sizeOf184 Wn (V)) (by exact ⟨V,V⟩)
theorem jd{a b:RP}(ha:LQ M va a)(hb:LQ M vb b):BB prog 67 #[va,vb] [M] (.bool (decide (a=b))):=by
 obtain ⟨W,O,Z,rfl,G,z,J⟩:=ha;obtain ⟨X,U,af,rfl,I,E,K⟩:=hb;refine Se func67 ntmps67 [0,1] ?_;intro u R;refine A2<|Ze (Bx #[_,_,_,_,_,_,_,_,_])<|AE fun b1=>Ze (Bx #[_,_,_,_,_,_,_,_,_])<|AE fun b2=>AF Y<|A2<|AF Y<|A2<|Zh 7 Bm V rfl Mn Y<|Zl Q1 Y<|Zh 7 Bm V rfl Mn Y<|Zl Q1 Y<|Xr [_,_,_] Y call134 Y V (fq z E)<|CT Y<|Au (n:=25) (0::1::3::3::15::3::3::127::255::511::1023::2047::4095::2047::10239::32767::65535::131071::262143::524287::262143::1310719::4194303::8388607::16777215::[]) 4227216 AG AG V<|A1 0 V (AA Y)<|A1 1 V (AA Y)<|CS (t:=13) Y (fun g=>?_) (fun g=>?_);·
  rw [Cp g];refine B1 2 V (AA Y)<|DG 3 V Wh (A7 (cs:=#[_,_,_,_,_,_,_,_,_]) It DM Y BW B5)<|B1 5 V (AA Y)<|DG 6 V Wh (A7 (cs:=#[_,_,_,_,_,_,_,_,_]) It DM Y BW B5)<|Yz 4 15 127 [6,3] [true,false] [(6,(_,_))] V Y V rfl V rfl (Zu [_] Y call133 Y V (Vi a W O Z))<|DA<|CA<|Yw 7 255 V (Zu [_] Y call133 Y V (Vi b X U af))<|DA<|B1 8 V (dZ AG gi Ge A5 A4 Y Y)<|A1 9 V (Ay Y Y)<|A1 10 V (AA Y)<|CS (t:=22) Y (fun h2=>?_) (fun h2=>?_);·
   rw [Cp h2];refine B1 11 V (AL (off:=6) Bm V rfl Cl Y)<|DG 12 V Wh (BZ DQ Y B5)<|B1 13 V (AL (off:=6) Bm V rfl Cl Y)<|DG 14 V Wh (BZ DQ Y B5)<|Yw 15 65535 V (Zu [_,_] Y call131 Y V (aK G I))<|DA<|A1 16 V (Ay Y Y)<|A1 17 V (AA Y)<|CS (t:=29) Y (fun m=>?_) (fun m=>?_);·
    rw [Cp m];refine B1 18 V (AL (off:=8) Bm V rfl Hj Y)<|DG 19 V Wh (BZ Iv Y B5)<|B1 20 V (AL (off:=8) Bm V rfl Hj Y)<|DG 21 V Wh (BZ Iv Y B5)<|Yw 22 8388607 V (Zu [_,_] Y call136 Y V (aJ J K))<|DA<|A1 23 V (Ay Y Y)<|A1 24 V (Aq Y)<|Am<|Zn [4] ?_;refine Zx<|AC<|AO V results67 Y (by exact ⟨by exact F4 ⟨fun y=>Ql.2 ⟨g,h2,m,y⟩,fun y=>(Ql.1 y).2.2.2⟩,V⟩)
   rw [CC m];refine AK 18 V<|AK 19 V<|AK 20 V<|AK 21 V<|AK 22 V<|A1 23 V (BC Y Y)<|A1 24 V (Aq Y)<|Am<|Zn [4] ?_;refine Zx<|AC<|AO V results67 Y (by exact ⟨by exact Co (fun e=>m (Ql.1 e).2.2.1),V⟩)
  rw [CC h2];refine AK 11 V<|AK 12 V<|AK 13 V<|AK 14 V<|AK 15 V<|A1 16 V (BC Y Y)<|A1 17 V (AA Y)<|AK 18 V<|AK 19 V<|AK 20 V<|AK 21 V<|AK 22 V<|A1 23 V (BC Y Y)<|A1 24 V (Aq Y)<|Am<|Zn [4] ?_;refine Zx<|AC<|AO V results67 Y (by exact ⟨by exact Co (fun e=>h2 (Ql.1 e).2.1),V⟩)
 rw [CC g];refine AK 2 V<|AK 3 V<|AK 4 V<|AK 5 V<|AK 6 V<|AK 7 V<|AK 8 V<|A1 9 V (BC Y Y)<|A1 10 V (AA Y)<|AK 11 V<|AK 12 V<|AK 13 V<|AK 14 V<|AK 15 V<|A1 16 V (BC Y Y)<|A1 17 V (AA Y)<|AK 18 V<|AK 19 V<|AK 20 V<|AK 21 V<|AK 22 V<|A1 23 V (BC Y Y)<|A1 24 V (Aq Y)<|Am<|Zn [4] ?_;refine Zx<|AC<|AO V results67 Y (by exact ⟨by exact Co (fun e=>g (Ql.1 e).1),V⟩)
end Go.Proofs.YtljkoipiekbijaaGreatDoor
