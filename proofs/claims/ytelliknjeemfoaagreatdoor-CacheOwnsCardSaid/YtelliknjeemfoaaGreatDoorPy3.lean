/- statetree: complete, Rows. -/
import Derived.Test.YtelliknjeemfoaaGreatDoorTr7
set_option linter.unusedVariables false
set_option linter.unusedSimpArgs false
namespace Go.Proofs.YtelliknjeemfoaaGreatDoor
open Go.Proofs.Tryz
open Go Go.RowKit Gw
set_option maxRecDepth 100000
attribute [local irreducible] Gw.At Gw.Nx Gw.Ops
def M4(M:List A8)(v:A2)(ps:List (List Bs)):Prop:=∃p cap,v= .slice p ps.length cap/\(ps.length<=maxLen/\ps.length<=cap)/\∀(i:Nat) (l:List Bs),ps[i]?=some l->∃q c,EM M (.slice q l.length c) l/\∃g off cur T zz,p=some ⟨g,off,none⟩/\(g,Obj.cells cur T zz)∈M/\cur[off+i]?=some (.slice q l.length c)
def U3(M:List A8)(v:A2)(x:RP):Prop:=∃vr vp vt,v= .agg #[I0 x.tb,I0 x.cl,I0 x.lo,I0 x.hi,I0 x.ct,I0 x.fi,vr,vp,vt]/\DV M vr x.rows/\M4 M vp x.paths/\EM M vt x.roots
variable{v:A2}{s:List A8}
theorem VN{e:AK}{ps:List (List Bs)}{m:List A2}{U:List A8}(h:BX 1 e v ps.length m s)(G:Kr U m ps)(hn:ps.length<=maxLen):M4 (s++U) v ps:=by
 rcases S3 ps.length with h0|h0
 · obtain ⟨b,cap,rfl⟩:=h.form
   exact ⟨b,cap,rfl,⟨hn,by omega⟩,fun i s J=>by rw [OR h0]at J;simp at J⟩
 · obtain ⟨g,cap,cur,z,rfl,rfl,B,W⟩:=LV h h0
   refine ⟨_,cap,V,⟨hn,B⟩,fun i l I=>?_⟩;have X:=(C6.1 I).1
   obtain ⟨w,O⟩:∃w,m[i]?=some w:=⟨_,BE (by have:=G.1;omega)⟩;have K:=G.2 i w l O I
   obtain ⟨q,c,e1,h1,h2⟩:=id K;subst e1;refine ⟨q,c,K.mono (fun c h=>HC _ h),g,0,cur,e,z,V,by simp,?_⟩;rw [DP];exact W i _ O
variable{M' M:List A8}
theorem M4.mono{ls:List (List Bs)}(h:M4 M v ls)(m:∀c∈M,c∈M'):M4 M' v ls:=by
 obtain ⟨p,cap,e,I,G⟩:=h;refine ⟨p,cap,e,I,fun i s J=>?_⟩;obtain ⟨q,c,h0,g,off,cur,T,zz,e1,B,h2⟩:=G i s J;exact ⟨q,c,h0.mono m,g,off,cur,T,zz,e1,m _ B,h2⟩
theorem YR(v:A2)(p:Int)(rs:List AU)(s:List A8)(hv:Qz v p rs s)(U:BN rs)(hn:rs.length<=2000)(G:∀r∈rs,r.ok)(t c:Nat)(ht:t<=3)(hc:c<=3)(lo hi:Int)(B:lo<=hi)(m:AK)(J:Nat×Nat):
 BQ prog 80 #[v,I0 (t:Int),I0 (c:Int),I0 lo,I0 hi] [[(4,.cells (Ec.map Cq).toArray m J)],s] (fun r H'=>∃W mem,r= .tuple #[W,I0 0]/\U3 mem W (Et rs t c lo hi)/\CX mem/\H'=[mem,[(4,.cells (Ec.map Cq).toArray m J)],s]):=by
 have ax:=mL;refine Gz (dJ v p rs s hv U hn G t c ht hc lo hi B m J) V ?_;rintro r H' ⟨vr,vp,vt,I,sp,cO,mp,so,rfl,K,h2,X,hF,O,rfl⟩;have af:=J9 U (t:Int) c
 have cu:toT (BO rs (t:Int) c) c hi<=(BO rs (t:Int) c).length:=r8 _ _;have g:=dS (BO rs (t:Int) c) (CY (BO rs (t:Int) c) c lo) (toT (BO rs (t:Int) c) c hi -CY (BO rs (t:Int) c) c lo)
 have bn:(((BO rs (t:Int) c).drop (CY (BO rs (t:Int) c) c lo)).take (toT (BO rs (t:Int) c) c hi -CY (BO rs (t:Int) c) c lo)).length<=2000:=by rw [Cl,D0];omega
 refine ⟨_,⟨_,I++(sp++mp)++so,V,⟨vr,vp,vt,V,?_,?_,?_⟩,CX.app (CX.app (EA K) (CX.app (EA h2) hF)) (EA O),V⟩,by simp⟩;· exact (Db K A0).mono (fun c h=>Fc _ (Fc _ h))
 · exact (VN (Bb h2 g.symm rfl) X (by rw [g];omega)).mono (fun c h=>Fc _ (HC _ h))
 · exact (Hg (Bb O (Xv rs).symm rfl) (by rw [Xv];omega)).mono (fun c h=>HC _ h)
def Xi(x:RP)(j:Nat)(r:AU):Prop:=r.ok/\r.t=x.tb/\(Bj r x.cl<x.lo->j=0)/\(x.hi<Bj r x.cl->x.rows.length<=j+1)
def WG(x:RP)(q r:AU):Prop:=Bj q x.cl<Bj r x.cl\/Bj q x.cl=Bj r x.cl/\q.k<r.k
structure JK(x:RP):Prop where
 tc:(0<=x.tb/\x.tb<4)/\0<=x.cl/\x.cl<4
 lh:x.lo<=x.hi
 ct:0<=x.ct/\x.ct<=2000
 fi:0<=x.fi/\x.fi<=x.ct
 n:(x.rows.length:Int)<=x.ct -x.fi
 none:x.rows.length=0->x.ct=0
 all:∀(j:Nat) (r:AU),x.rows[j]?=some r->Xi x j r/\(0<j->∀q,x.rows[j -1]?=some q->WG x q r)
 first:∀r,x.rows[0]?=some r->x.fi=0\/Bj r x.cl<x.lo
 last:∀r,x.rows[x.rows.length -1]?=some r->x.fi+(x.rows.length:Int)=x.ct\/x.hi<Bj r x.cl
noncomputable instance(x:RP):Decidable (JK x):=Classical.propDecidable _
variable{p:B8}{cap:Nat}
theorem He(x:RP)(vp vt:A2)(U:DV M (.slice p x.rows.length cap) x.rows)(hc:0<=x.cl/\x.cl<=3)(K i:Nat)(r:AU)(I:x.rows[i]?=some r):Az prog 281 #[I0 (i:Int),I1 K] [[(K,.cells #[I0 x.tb,I0 x.cl,I0 x.lo,I0 x.hi,I0 x.ct,I0 x.fi,.slice p x.rows.length cap,vp,vt] 65 (0,0))],M] (I0 (Bj r x.cl)):=by
 have af:=mL;obtain ⟨p9,G,O,hl,W⟩:=U;injection O with e91 e92 e93
 subst e91 e93;obtain ⟨g,off,cur,T,zz,rfl,B,J,m⟩:=W i r I;have X:=(C6.1 I).1
 refine Se func281 ntmps281 [0,1] ?_;intro u R;refine A3<|D2 Y<|Aw (n:=9) (0::1::0::7::15::0::32::127::255::[]) 128 AD AD V<|A1 0 V (AB (off:=6) DA V rfl DH Y)<|Bk 1 V GS Y<|A1 2 V (AQ Y)<|A1 3 V (AZ C1 B3 Y Y A0)<|CS (b:=g) (x:= .cells cur T zz) (D':=31) 4 V rfl V (by simp [B]) (AA (cs:=r.A88) DE B3 Y A0 m) ?_;refine A1 5 V (AB (off:=1) DA V rfl A6 Y)<|Bk 6 V AE Y<|Yw 7 255 V (Zu [_,_] Y UP Y V (G5 r x.cl hc))<|F1<|A1 8 V (BI Y)<|Ao<|Zx<|AJ<|AX V results281 Y (by exact ⟨V,V⟩)
variable{x:RP}
set_option maxHeartbeats 4000000 in
theorem UU(hv:U3 M v x):Az prog 245 #[v] [M] (.bool (decide (JK x))):=by
 have vo:=mL;obtain ⟨vr,vp,vt,rfl,hR,hP,hT⟩:=hv;obtain ⟨p,cap,e9,hl,hg⟩:=id hR;subst e9;refine Se func245 ntmps245 [0] ?_;intro u R;refine A3<|Ze (Bx #[_,_,_,_,_,_,_,_,_])<|AF fun pb=>AH Y<|A3<|Zh 6 DA V rfl DH Y<|Zl GS Y ?_;refine Zv (AR C1 Y)<|D2 Y<|A3<|Zh 0 DA V rfl A6 Y<|Zl AE Y ?_;refine Zh 1 DA V rfl A6 Y<|Zl AE Y ?_;refine Xr [_,_] Y call123 Y V (Qa x.tb x.cl) ?_;refine Zv (Cz Y)<|Zm Y<|Ae (t:=17) Y V (fun qa=>?_) (fun qa=>?_);focus
  refine AG<|AG<|C5<|BT Y Y<|Zm Y<|AG<|C5<|BT Y Y<|Zm Y<|AG<|C5<|BT Y Y<|Zm Y<|AG<|C5<|BT Y Y<|Zm Y ?_
 rotate_left
 focus
  refine Yf 2 DA V rfl A6 Y<|Yl AE Y ?_;refine Yf 3 DA V rfl A6 Y<|Yl AE Y ?_;refine Yg (Ev Y Y)<|BW Y Y<|Zm Y<|Ae (t:=24) Y V (fun qb=>?_) (fun qb=>?_);focus
   refine AG<|C5<|BT Y Y<|Zm Y<|AG<|C5<|BT Y Y<|Zm Y<|AG<|C5<|BT Y Y<|Zm Y ?_
  rotate_left
  focus
   refine Yf 4 DA V rfl A6 Y<|Yl AE Y ?_;refine Yg (Dz Y Y)<|BW Y Y<|Zm Y<|Ae (t:=29) Y V (fun qj=>?_) (fun qj=>?_);focus
    refine AG<|C5<|BT Y Y<|Zm Y<|AG<|C5<|BT Y Y<|Zm Y ?_
   rotate_left
   focus
    refine Yf 4 DA V rfl A6 Y<|Yl AE Y ?_;refine Yg (Ev Y Y)<|BW Y Y<|Zm Y<|Ae (t:=34) Y V (fun ql=>?_) (fun ql=>?_);focus
     refine AG<|C5<|BT Y Y<|Zm Y ?_
    rotate_left
    focus
     refine Yf 5 DA V rfl A6 Y<|Yl AE Y ?_;refine Yg (Dz Y Y)<|BW Y Y<|Zm Y<|Ae (t:=39) Y V (fun qo=>?_) (fun qo=>?_);rotate_left;focus
      refine Yf 5 DA V rfl A6 Y<|Yl AE Y ?_;refine Yf 4 DA V rfl A6 Y<|Yl AE Y ?_;refine Yg (Ev Y Y)<|BW Y Y<|Zm Y<|Ae (t:=46) Y V (fun qw=>?_) (fun qw=>?_);focus
       refine AG<|AG<|AG<|C5<|BT Y Y<|Z0<|Zn [1,3,54] ?_;refine Zx<|Cg Y ?_
      rotate_left
      focus
       refine Zf Y Y<|Yf 4 DA V rfl A6 Y<|Yl AE Y ?_;refine Yf 5 DA V rfl A6 Y<|Yl AE Y ?_
       (refine HY Y (Gu Y Y (IntWalk.i64_in _ ?_)) rfl rfl ?_;(focus (first|omega|(simp;omega))))
       refine Yg (Ev Y Y)<|BW Y Y<|Z0<|Zn [1,3,54] ?_;refine Zx<|Ap Y (fun qx=>?_) (fun qx=>?_);rotate_left;focus
        refine B4<|B7 Y<|Zv (Bl (n:=0) Y Y)<|A5<|Ap Y (fun hz=>?_) (fun hz=>?_);·
         refine A3<|Zh 4 DA V rfl A6 Y<|Zl AE Y ?_;refine Zv (CJ Y Y)<|Ax Y<|Zt<|AX V X1 Y (by exact ⟨Oz ⟨fun B=>⟨by omega,by omega,by omega,by omega,by omega,fun _=>B,fun j r J=>by have:=(C6.1 J).1;omega,fun r J=>by have:=(C6.1 J).1;omega,fun r J=>by have:=(C6.1 J).1;omega⟩,fun B=>B.none hz⟩,V⟩)
        refine AC<|CD<|Zv (Bg (vs:=[]) (us:=[_]) Y Y)<|D2 Y<|A3<|Zh 6 DA V rfl DH Y<|Zl GS Y ?_;refine Zv (AR C1 Y)<|Zm Y<|A5<|AP<|Zb [64,1,3,4,62,63] ?_;refine Ay (e0:=[(64,_)]) (fun m e H=>∃(i:Nat),m=x.rows.length -i/\(i<=x.rows.length/\∀(j:Nat) (r:AU),j<i->x.rows[j]?=some r->Xi x j r/\(0<j->∀q,x.rows[j -1]?=some q->WG x q r))/\e=[(64,I0 (i:Int))]/\H=[]) (by exact ⟨0,V,⟨C7 _,by intro j r J;omega⟩,V,V⟩) Wp ?_;rintro _ _ _ ⟨i,rfl,⟨hi,K⟩,rfl,rfl⟩;refine A3<|Zv (Ar Y Y)<|A5<|Zq<|Ap Y (fun pg=>?_) (fun pg=>?_);·
         obtain ⟨r,hr⟩:∃r,x.rows[i]?=some r:=⟨_,BE pg⟩;obtain ⟨g,off,cur,T,zz,rfl,sJ,sO,p9⟩:=hg i r hr;refine B4<|Zq<|AP<|AN Y<|Ba (AZ C1 B3 Y Y A0)<|CO (cs:=[(g,.cells cur T zz)]) (by simp [sJ]) (AA (cs:=r.A88) DE B3 Y A0 p9) V rfl ?_;refine Ze (Al G1 #[_,_,_,_,_])<|AF fun rb=>Za Y<|Xe (Xw B3 r.A88) ?_;refine A5<|AN Y<|Zm Y<|Xr [_] Y call281 Y V (He x vp vt hR A0 pb i r hr) ?_;refine AH Y<|Zb [1,3,4,5,6,7,62,63,64] ?_;refine Ch (e0:=[]) (H0:=[]) (fun e H=>∃(u9:Unit),(Xi x i r)/\e=[]/\H=[]) Wp ?hx_10 ?hy_10
         case hx_10=>
          refine A3<|Zo Wh (AA (cs:=#[_,_,_,_,_]) DE B3 Y B9 B2) ?_;refine Xr [_] Y call199 Y V (Rn r) ?_;refine Zv (Cz Y)<|Zm Y<|Ae (t:=75) Y V (fun qy=>?_) (fun qy=>?_);·
           refine AG<|AG<|C5<|BT Y Y<|Zm Y<|AG<|AG<|AG<|AG<|BT Y Y<|Zm Y<|AG<|AG<|AG<|AG<|AG<|BT Y Y<|Z0<|Zn [1,3,4,5,6,7,62,63,64,103] ?_;refine Zx<|Cg Y<|A3<|Ax Y<|Zt<|Ag<|Zt<|Zt<|Ag<|Zt<|AX rfl X1 Y (by exact ⟨congrArg Value.bool (F0 (fun B:JK x=>by obtain ⟨⟨ek,gm,gq,gy⟩,_⟩:=B.all i r hr;contradiction)).symm,rfl⟩)
          refine Yf 0 H3 V rfl A6 Y<|Yl AE Y ?_;refine Yf 0 DA V rfl A6 Y<|Yl AE Y ?_;refine Yg (GK Y Y)<|BW Y Y<|Zm Y<|Ae (t:=82) Y V (fun qz=>?_) (fun qz=>?_);focus
           refine AG<|AG<|AG<|AG<|BT Y Y<|Zm Y<|AG<|AG<|AG<|AG<|AG<|BT Y Y<|Z0<|Zn [1,3,4,5,6,7,62,63,64,103] ?_;refine Zx<|Cg Y ?_
          rotate_left
          focus
           refine Zf Y Y<|Yf 2 DA V rfl A6 Y<|Yl AE Y ?_;refine Yg (Dz Y Y)<|Zf Y Y ?_;refine Ae (t:=87) Y V (fun l8=>?_) (fun l8=>?_);focus
            refine Zf Y Y<|Yg (Df (n:=0) Y Y)<|Yg (AL Y Y)<|BW Y Y<|Zm Y<|Ae (t:=92) Y V (fun l9=>?_) (fun l9=>?_);focus
             refine AG<|AG<|AG<|AG<|AG<|BT Y Y<|Z0<|Zn [1,3,4,5,6,7,62,63,64,103] ?_;refine Zx<|Cg Y ?_
            rotate_left
            focus
             refine Zf Y Y<|Yf 3 DA V rfl A6 Y<|Yl AE Y ?_;refine Yg (Ev Y Y)<|Zf Y Y ?_;refine Ae (t:=97) Y V (fun o8=>?_) (fun o8=>?_);focus
              refine Zf Y Y<|Zf Y Y ?_
              (refine HY Y (CQ (n:=1) Y Y ?_ ?_) rfl rfl ?_;(focus (first|omega|(simp;omega)));(focus (first|omega|(simp;omega))))
              refine Yg (Ar Y Y)<|Yg (AL Y Y)<|BW Y Y<|Z0<|Zn [1,3,4,5,6,7,62,63,64,103] ?_;refine Zx<|Ap Y (fun o9=>?_) (fun o9=>?_);rotate_left;refine AC<|Hx (by exact ⟨(),⟨by exact Kf.1 fm,by omega,fun h=>by omega,fun h=>by omega⟩,V,V⟩)
             rotate_left
             refine AG<|AG<|Yg (AO Y Y)<|BW Y Y<|Z0<|Zn [1,3,4,5,6,7,62,63,64,103] ?_;refine Zx<|DW Y<|AC<|Hx (by exact ⟨(),⟨by exact Kf.1 fm,by omega,fun h=>by omega,fun h=>by omega⟩,V,V⟩)
           rotate_left 2
           focus
            refine AG<|Yg (AO Y Y)<|BW Y Y<|Zm Y<|Zf Y Y<|Yf 3 DA V rfl A6 Y<|Yl AE Y ?_;refine Yg (Ev Y Y)<|Zf Y Y ?_;refine Ae (t:=97) Y V (fun ow=>?_) (fun ow=>?_);focus
             refine Zf Y Y<|Zf Y Y ?_
             (refine HY Y (CQ (n:=1) Y Y ?_ ?_) rfl rfl ?_;(focus (first|omega|(simp;omega)));(focus (first|omega|(simp;omega))))
             refine Yg (Ar Y Y)<|Yg (AL Y Y)<|BW Y Y<|Z0<|Zn [1,3,4,5,6,7,62,63,64,103] ?_;refine Zx<|Ap Y (fun p8=>?_) (fun p8=>?_);rotate_left;refine AC<|Hx (by exact ⟨(),⟨by exact Kf.1 fm,by omega,fun h=>by omega,fun h=>by omega⟩,V,V⟩)
            rotate_left
            refine AG<|AG<|Yg (AO Y Y)<|BW Y Y<|Z0<|Zn [1,3,4,5,6,7,62,63,64,103] ?_;refine Zx<|DW Y<|AC<|Hx (by exact ⟨(),⟨by exact Kf.1 fm,by omega,fun h=>by omega,fun h=>by omega⟩,V,V⟩)
          all_goals
           refine A3<|Ax Y<|Zt<|Ag<|Zt<|Zt<|Ag<|Zt<|AX rfl X1 Y (by exact ⟨congrArg Value.bool (F0 (fun B:JK x=>by obtain ⟨⟨ek,gm,gq,gy⟩,_⟩:=B.all i r hr;omega)).symm,rfl⟩)
         rintro _ _ ⟨u9,cO,rfl,rfl⟩;refine Zq<|Aw (n:=30) (0::1::3::7::7::7::39::119::255::511::1023::1023::1023::5119::15359::32767::65535::131071::262143::131071::655359::131071::2228223::7995391::16383999::33161215::67108863::134217727::268435455::536870911::[]) 16512 AD AD V<|A1 0 V (AQ Y)<|A1 1 V (Df (n:=0) Y Y)<|A1 2 V (AQ Y)<|Dh (t:=106) Y (fun af=>?_) (fun af=>?_);·
          rw [DO af];obtain ⟨q,hq⟩:∃q,x.rows[i -1]?=some q:=⟨_,BE A0⟩;obtain ⟨g2,ve,cu,T2,sM,d9,pq,j5,ic⟩:=hg (i -1) q hq;injection d9 with d9
          injection d9 with e291 e292
          subst e291 e292;have sD:cu[off+(i -1)*5+1]?=some (I0 q.k):=by rw [Ov ic j5 1 A0];rfl
          refine B5 3 V (AQ Y)<|B5 4 V (AQ Y)<|B5 5 V (AQ Y) ?_
          (refine B5 6 rfl (CQ (n:=1) Y Y ?_ ?_) ?_;(focus (first|omega|(simp;omega)));(focus (first|omega|(simp;omega))))
          refine Yw 7 255 V (Zu [_] Y call281 Y V (He x vp vt hR A0 pb (i -1) q hq))<|F1<|B5 8 V (Dz Y Y)<|B5 9 V (AQ Y)<|Dh (t:=113) Y (fun l5=>?_) (fun l5=>?_);·
           rw [DO l5];refine AW 10 V<|AW 11 V<|AW 12 V<|AW 13 V<|AW 14 V<|AW 15 V<|AW 16 V<|AW 17 V<|AW 18 V<|AW 19 V<|AW 20 V<|AW 21 V<|AW 22 V<|AW 23 V<|AW 24 V<|AW 25 V<|AW 26 V<|AW 27 V<|B5 28 V (AL Y Y)<|A1 29 V (AL Y Y)<|Ao<|Zn [1,3,4,62,63,64,133] ?_;refine Zx<|Cg Y<|A3<|Ax Y<|Ag<|Zt<|Zt<|Ag<|Zt<|AX V X1 Y (by exact ⟨congrArg Value.bool (F0 (fun B:JK x=>by have ha:=(B.all i r hr).2 af q hq;unfold WG at ha;omega)).symm,V⟩)
          rw [F0 l5];refine B5 10 V (AQ Y)<|B5 11 V (AQ Y)<|B5 12 V (AQ Y) ?_
          (refine B5 13 rfl (CQ (n:=1) Y Y ?_ ?_) ?_;(focus (first|omega|(simp;omega)));(focus (first|omega|(simp;omega))))
          refine Yw 14 32767 V (Zu [_] Y call281 Y V (He x vp vt hR A0 pb (i -1) q hq))<|F1<|B5 15 V (CJ Y Y)<|B5 16 V (AQ Y)<|Dh (t:=120) Y (fun kv=>?_) (fun kv=>?_);focus
           rw [DO kv];refine B5 17 V (AB (off:=1) H3 V rfl A6 Y)<|Fk 18 V Wh (BL AE Y B2) ?_;refine B5 19 V (AB (off:=6) DA V rfl DH Y)<|Fk 20 V Wh (BL GS Y B2) ?_;refine B5 21 V (AQ Y) ?_
           (refine B5 22 rfl (CQ (n:=1) Y Y ?_ ?_) ?_;(focus (first|omega|(simp;omega)));(focus (first|omega|(simp;omega))))
           refine B5 23 V (AZ C1 B3 Y Y A0)<|B5 24 V (Ai (off:=1) H3 V rfl A6 Y)<|XB (b:=g) (x:= .cells cu T2 sM) (D':=67108863) 25 Y V rfl V (by simp [pq]) (BL AE Y sD) ?_;refine B5 26 V (N9 Y Y)<|B5 27 V (AL Y Y)<|B5 28 V (AO Y Y)<|A1 29 V (AL Y Y)<|Ao<|Zn [1,3,4,62,63,64,133] ?_;refine Zx<|Ap Y (fun sw=>?_) (fun sw=>?_);refine A3<|Ax Y<|Ag<|Zt<|Zt<|Ag<|Zt<|AX V X1 Y (by exact ⟨congrArg Value.bool (F0 (fun B:JK x=>by have ha:=(B.all i r hr).2 af q hq;unfold WG at ha;omega)).symm,V⟩)
          rotate_left
          focus
           rw [F0 kv];refine AW 17 V<|AW 18 V<|AW 19 V<|AW 20 V<|AW 21 V<|AW 22 V<|AW 23 V<|AW 24 V<|AW 25 V<|AW 26 V<|B5 27 V (AO Y Y)<|B5 28 V (AO Y Y)<|A1 29 V (AL Y Y)<|Ao<|Zn [1,3,4,62,63,64,133] ?_;refine Zx<|DW Y ?_
          all_goals
           refine AC<|A9<|Zx<|E6 Y Y Y<|Zn [64,1,3,4,62,63] ?_;refine Af (e':=[(64,_)]) (by
            exact ⟨i+1,V,⟨by omega,fun j r9 J I=>by
             rcases Ft j i with B|B
             · exact K j r9 B I
             · obtain rfl:j=i:=A0
               rw [hr]at I;injection I with I;subst I
               refine ⟨cO,fun sj q9 ax=>?_⟩
               (rw [hq]at ax;injection ax with ax;subst ax;unfold WG;omega)⟩,rfl,rfl⟩)
         rw [F0 af];refine AW 3 V<|AW 4 V<|AW 5 V<|AW 6 V<|AW 7 V<|AW 8 V<|AW 9 V<|AW 10 V<|AW 11 V<|AW 12 V<|AW 13 V<|AW 14 V<|AW 15 V<|AW 16 V<|AW 17 V<|AW 18 V<|AW 19 V<|AW 20 V<|AW 21 V<|AW 22 V<|AW 23 V<|AW 24 V<|AW 25 V<|AW 26 V<|AW 27 V<|AW 28 V<|A1 29 V (AO Y Y)<|Ao<|Zn [1,3,4,62,63,64,133] ?_;refine Zx<|DW Y<|AC<|A9<|Zx<|E6 Y Y Y<|Zn [64,1,3,4,62,63] ?_;refine Af (e':=[(64,_)]) (by
          exact ⟨i+1,V,⟨by omega,fun j r9 J I=>by
           rcases Ft j i with B|B
           · exact K j r9 B I
           · obtain rfl:j=i:=A0
             rw [hr]at I;injection I with I;subst I
             refine ⟨cO,fun sj q9 ax=>?_⟩
             (exfalso;omega)⟩,rfl,rfl⟩)
        obtain ⟨r0,j3⟩:∃r,x.rows[0]?=some r:=⟨_,BE A0⟩;obtain ⟨rl,bn⟩:∃r,x.rows[x.rows.length -1]?=some r:=⟨_,BE A0⟩;have G:JK x↔(x.fi=0\/Bj r0 x.cl<x.lo)/\(x.fi+(x.rows.length:Int)=x.ct\/x.hi<Bj rl x.cl):=⟨fun h=>⟨h.first r0 j3,h.last rl bn⟩,fun h=>⟨by omega,by omega,by omega,by omega,by omega,fun h0=>absurd h0 hz,fun j r J=>K j r (by have:=(C6.1 J).1;omega) J,fun r J=>by rw [j3]at J;injection J with J;rw [<-J];exact h.1,fun r J=>by rw [bn]at J;injection J with J;rw [<-J];exact h.2⟩⟩
        refine BB<|Zt<|Zt<|AV<|Zx<|Zq<|Aw (n:=29) (0::1::3::7::15::31::15::79::255::511::1023::2047::4095::2047::16383::2047::34815::131071::262143::524287::524287::1572863::4194303::524287::8912895::33554431::67108863::134217727::268435455::[]) 4194336 AD AD V<|A1 0 V (AB (off:=5) DA V rfl A6 Y)<|Bk 1 V AE Y ?_;refine A1 2 V (CJ Y Y)<|A1 3 V (AQ Y)<|Dh (t:=138) Y (fun O=>?_) (fun O=>?_);focus
         rw [DO O];refine AW 4 V<|AW 5 V<|AW 6 V<|AW 7 V<|AW 8 V<|A1 9 V (AL Y Y)<|A1 10 V (AQ Y)<|B5 11 V (AB (off:=5) DA V rfl A6 Y)<|Fk 12 V Wh (BL AE Y B2) ?_;refine B5 13 V (AQ Y) ?_
         (refine B5 14 rfl (JX Y Y (IntWalk.i64_in _ ?_)) ?_;(focus (first|omega|(simp;omega))))
         refine B5 15 V (AB (off:=4) DA V rfl A6 Y)<|Fk 16 V Wh (BL AE Y B2) ?_;refine B5 17 V (CJ Y Y)<|B5 18 V (AQ Y)<|Dh (t:=153) Y (fun U=>?_) (fun U=>?_);focus
          rw [DO U]
         rotate_left
         rw [F0 U];refine B5 19 V (AQ Y)<|B5 20 V (AQ Y) ?_
         (refine B5 21 rfl (CQ (n:=1) Y Y ?_ ?_) ?_;(focus (first|omega|(simp;omega)));(focus (first|omega|(simp;omega))))
         refine B5 23 V (AB (off:=3) DA V rfl A6 Y)<|Fk 24 V Wh (BL AE Y B2) ?_;refine Yz 22 4194303 33554431 [24,16,12,1] [true,false,false,false] [(24,(_,_))] V Y V rfl V rfl (Zu [_] Y call281 Y V (He x vp vt hR A0 pb (x.rows.length -1) rl bn))<|F1<|CA<|B5 25 V (Ev Y Y)<|B5 26 V (AO Y Y)<|A1 27 V (AL Y Y)<|A1 28 V (BI Y)<|Ao<|Zn [2] ?_;refine Zx<|AJ<|AX V X1 Y (by exact ⟨by exact Oz ⟨fun B=>G.2 ⟨by omega,by omega⟩,fun B=>by have:=G.1 B;omega⟩,V⟩)
        rotate_left
        focus
         rw [F0 O];refine B5 4 V (AQ Y)<|B5 6 V (AB (off:=2) DA V rfl A6 Y)<|Fk 7 V Wh (BL AE Y B2) ?_;refine Yz 5 31 255 [7,1] [true,false] [(7,(_,_))] V Y V rfl V rfl (Zu [_] Y call281 Y V (He x vp vt hR A0 pb 0 r0 j3))<|F1<|CA<|B5 8 V (Dz Y Y)<|A1 9 V (AO Y Y)<|A1 10 V (AQ Y)<|Dh (t:=145) Y (fun W=>?_) (fun W=>?_);focus
          rw [DO W];refine B5 11 V (AB (off:=5) DA V rfl A6 Y)<|Fk 12 V Wh (BL AE Y B2) ?_;refine B5 13 V (AQ Y) ?_
          (refine B5 14 rfl (JX Y Y (IntWalk.i64_in _ ?_)) ?_;(focus (first|omega|(simp;omega))))
          refine B5 15 V (AB (off:=4) DA V rfl A6 Y)<|Fk 16 V Wh (BL AE Y B2) ?_;refine B5 17 V (CJ Y Y)<|B5 18 V (AQ Y)<|Dh (t:=153) Y (fun X=>?_) (fun X=>?_);focus
           rw [DO X]
          rotate_left
          rw [F0 X];refine B5 19 V (AQ Y)<|B5 20 V (AQ Y) ?_
          (refine B5 21 rfl (CQ (n:=1) Y Y ?_ ?_) ?_;(focus (first|omega|(simp;omega)));(focus (first|omega|(simp;omega))))
          refine B5 23 V (AB (off:=3) DA V rfl A6 Y)<|Fk 24 V Wh (BL AE Y B2) ?_;refine Yz 22 4194303 33554431 [24,16,12,7] [true,false,false,false] [(24,(_,_))] V Y V rfl V rfl (Zu [_] Y call281 Y V (He x vp vt hR A0 pb (x.rows.length -1) rl bn))<|F1<|CA<|B5 25 V (Ev Y Y)<|B5 26 V (AO Y Y)<|A1 27 V (AL Y Y)<|A1 28 V (BI Y)<|Ao<|Zn [2] ?_;refine Zx<|AJ<|AX V X1 Y (by exact ⟨by exact Oz ⟨fun B=>G.2 ⟨by omega,by omega⟩,fun B=>by have:=G.1 B;omega⟩,V⟩)
         rotate_left
         rw [F0 W];refine AW 11 V<|AW 12 V<|AW 13 V<|AW 14 V<|AW 15 V<|AW 16 V<|AW 17 V<|AW 18 V<|AW 19 V<|AW 20 V<|AW 21 V<|AW 22 V<|AW 23 V<|AW 24 V<|AW 25 V<|AW 26 V<|A1 27 V (AO Y Y)<|A1 28 V (BI Y)<|Ao<|Zn [2] ?_;refine Zx<|AJ<|AX V X1 Y (by exact ⟨by exact congrArg Value.bool (F0 (fun B=>by have:=G.1 B;omega)).symm,V⟩)
        all_goals
         refine AW 19 V<|AW 20 V<|AW 21 V<|AW 22 V<|AW 23 V<|AW 24 V<|AW 25 V<|B5 26 V (AL Y Y)<|A1 27 V (AL Y Y)<|A1 28 V (BI Y)<|Ao<|Zn [2] ?_;refine Zx<|AJ<|AX V X1 Y (by exact ⟨by exact congrArg Value.bool (DO (G.2 ⟨by omega,by omega⟩)).symm,V⟩)
      all_goals
       refine A3<|Ax Y<|Zt<|AX V X1 Y (by exact ⟨congrArg Value.bool (F0 (fun B:JK x=>by have ek:=B.tc;have gm:=B.lh;have gq:=B.ct;have gy:=B.fi;have pz:=B.n;omega)).symm,V⟩)
 all_goals
  refine AG<|AG<|C5<|BT Y Y<|Zm Y<|AG<|AG<|AG<|C5<|BT Y Y<|Z0<|Zn [1,3,54] ?_;refine Zx<|Cg Y<|A3<|Ax Y<|Zt<|AX V X1 Y (by exact ⟨congrArg Value.bool (F0 (fun B:JK x=>by have ek:=B.tc;have gm:=B.lh;have gq:=B.ct;have gy:=B.fi;have pz:=B.n;omega)).symm,V⟩)
def inB(x:RP)(r:AU):Bool:=decide (x.lo<=Bj r x.cl/\Bj r x.cl<=x.hi)
noncomputable def ES(x:RP):List AU:=if JK x then x.rows.filter (inB x)else []
theorem cB(h:JK x):ES x=x.rows.filter (inB x):=B0 h
theorem tj(h:¬JK x):ES x=[]:=As h
variable{i:Nat}{r:AU}
theorem uR(g:x.rows[i]?=some r)(h:inB x r=true):(x.rows.take (i+1)).filter (inB x)=(x.rows.take i).filter (inB x)++[r]:=by rw [Bq g,Kd];simp [h]
theorem uT(g:x.rows[i]?=some r)(h:inB x r=false):(x.rows.take (i+1)).filter (inB x)=(x.rows.take i).filter (inB x):=by rw [Bq g,Kd];simp [h]
set_option maxHeartbeats 4000000 in
theorem jy(hv:U3 M v x):BQ prog 187 #[v] [M] (fun r H'=>∃vr sr,r= .tuple #[vr,.bool (decide (JK x))]/\BX 5 61 vr (ES x).length (Ad (ES x)) sr/\H'=[sr,M]):=by
 have ic:=mL;obtain ⟨vr,vp,vt,rfl,hR,hP,hT⟩:=id hv;obtain ⟨p,cap,e9,hl,hg⟩:=id hR;subst e9;refine Se func187 ntmps187 [0] ?_;intro u R;refine A3<|Ze (Bx #[_,_,_,_,_,_,_,_,_])<|AF fun pb=>Za Y<|D2 Y<|A3<|Zo Wh (AA (cs:=#[_,_,_,_,_,_,_,_,_]) dc Lo Y B9 B2)<|Xr [_] Y call245 Y V (UU hv)<|Zv (Cz Y)<|A5<|Ap Y (fun B=>?_) (fun B=>?_);·
  refine Bc<|A3<|Za Y<|Ax Y<|Zt<|Di rfl results187 Y Y (by exact ⟨.slice none 0 0,[],by rw [F0 B],by rw [tj B];exact Bi 5 _,rfl⟩)
 have B:=Kf.1 B;have d9:=B.tc
 have ek:=B.ct;have gm:=B.n
 have gq:=B.fi;refine AC<|CD<|D2 Y<|A3<|Zh 6 DA V rfl DH Y<|Zl GS Y<|Zv (AR C1 Y)<|Zm Y<|A5<|AP<|Bc<|Zb [4,14,1,12,13] ?_;refine Ay (e0:=[(4,_),(14,_)]) (fun m e H=>∃(i:Nat) (vo:A2) (W:List A8),m=x.rows.length -i/\(i<=x.rows.length/\BX 5 61 vo ((x.rows.take i).filter (inB x)).length (Ad ((x.rows.take i).filter (inB x))) W)/\e=[(4,vo),(14,I0 (i:Int))]/\H=[W]) (by exact ⟨0,.slice none 0 0,[],rfl,⟨C7 _,by rw [MT];exact Bi 5 _⟩,rfl,rfl⟩) Wp ?_;rintro _ _ _ ⟨i,vo,W,rfl,⟨hi,I⟩,rfl,rfl⟩;obtain ⟨qo,co,rfl⟩:=I.form;have gy:((x.rows.take i).filter (inB x)).length<=i:=On (RW _ _) (List.length_take_le _ _)
 refine A3<|Zv (Ar Y Y)<|A5<|Zq<|Ap Y (fun O=>?_) (fun O=>?_);·
  obtain ⟨r,U⟩:∃r,x.rows[i]?=some r:=⟨_,BE O⟩;obtain ⟨g,off,cur,T,zz,rfl,ax,bn,K⟩:=hg i r U;refine B4<|Zq<|AP<|A3<|Ba (AZ C1 B3 Y Y A0)<|CO (cs:=[(g,.cells cur T zz)]) (by simp [ax]) (AA (cs:=r.A88) DE B3 Y A0 K) V rfl<|Ze (Al G1 #[_,_,_,_,_])<|AF fun rb=>Xe (Xw B3 r.A88)<|A5<|A3<|Zo Wh (AA (cs:=#[_,_,_,_,_]) DE B3 Y B9 B2)<|Zh 1 DA V rfl A6 Y<|Zl AE Y<|Xr [_,_] Y UP Y V (G5 r x.cl A0)<|AH Y<|AN Y<|Zh 2 DA V rfl A6 Y<|Zl AE Y<|Zv (IL Y Y)<|Zm Y<|Ae (t:=26) Y V (fun X=>?_) (fun X=>?_);focus
   refine Zf Y Y<|Yf 3 DA V rfl A6 Y<|Yl AE Y<|Yg (N9 Y Y)<|BT Y Y<|Z0<|Zn [1,4,6,12,13,14,31] ?_;refine Zx<|Ap Y (fun af=>?_) (fun af=>?_);·
    have G:inB x r=true:=DO A0;refine Zg<|Zm Y<|Zo Wh (AA (cs:=#[_,_,_,_,_]) DE B3 Y B9 B2)<|Ze (Ah (vs:=[_]) (cs:=[_,_,_,_,_]) C1 B3 G1 Y V rfl V rfl V)<|AF fun gb=>Ze (BS (by_:=40) (sz:=5) C1 (V:Tryz.prog.info? 61=some Tryz.t61) V rfl V rfl Y (I) Y (Dn 5 gb 1 1 61 (0,0) [I0 r.t,I0 r.k,I0 r.v.a,I0 r.v.b,I0 r.v.c] V) Wo Wo HQ A0 A0) ?_;rintro _ _ ⟨j3,J,rfl⟩;obtain ⟨cO,cu,rfl⟩:=J.form;refine B1 Y<|A9<|Zx<|E6 Y Y Y<|DM (e:=[(4,_),(14,_)]) (h:=by exact ⟨i+1,_,_,rfl,⟨by omega,Bb J (by rw [uR U G,C2];rfl) (by rw [uR U G,Br];rfl)⟩,rfl,rfl⟩)
   focus
    have G:inB x r=false:=F0 A0
  rotate_left
  focus
   have G:inB x r=false:=F0 A0;refine AG<|AG<|BW Y Y<|Z0<|Zn [1,4,6,12,13,14,31] ?_;refine Zx<|DW Y ?_
  all_goals
   refine AC<|A9<|Zx<|E6 Y Y Y<|DM (e:=[(4,_),(14,_)]) (h:=by exact ⟨i+1,_,W,rfl,⟨by omega,Bb I (by rw [uT U G]) (by rw [uT U G])⟩,rfl,rfl⟩)
 have ei:i=x.rows.length:=by omega
 subst ei;rw [HI]at I⊢;refine BB<|Zt<|Zt<|AV<|Zx<|AN Y<|Za Y<|Ax Y<|Di rfl results187 Y Y (by exact ⟨.slice qo _ co,W,by rw [DO B],by rw [cB B];exact I,rfl⟩)
structure tA(root:Bs)(x:RP):Prop where
 comp:JK x
 n16:x.roots.length=16
 np:x.paths.length=x.rows.length
 root:Dp x.roots=root
 sum:∃d:Bs,d.length=32/\x.roots[4*x.tb.toNat+x.cl.toNat]?=some (Tf x.ct++d)/\(x.ct=0->d=Dp [])/\
  (x.ct≠0->∀(k:Nat) (r:AU) (pf:List Bs),x.rows[k]?=some r->x.paths[k]?=some pf->ye d x.ct.toNat (x.fi.toNat+k) (Q6 r) pf=true)
noncomputable instance(root:Bs)(x:RP):Decidable (tA root x):=Classical.propDecidable _
theorem wR{a b:Bs}(h:str a=str b):a=b:=by rw [<-LM a,<-LM b,h]
theorem iX{va vb:A2}{a b:List Bs}(ha:EM M va a)(hb:EM M vb b):Az prog 110 #[va,vb] [M] (.bool (decide (a=b))):=by
 have ic:=mL;obtain ⟨pa,ca,rfl,gq,W⟩:=ha;obtain ⟨pb,cb,rfl,gy,X⟩:=hb;refine Se func110 ntmps110 [0,1] ?_;intro u R;refine A3<|AH Y<|B7 Y<|Zv (AR Dd Y)<|Zm Y<|Zv (AR Dd Y)<|Zv (Dr Y Y)<|A5<|Ap Y (fun K=>?_) (fun K=>?_);·
  refine A3<|Ax Y<|Zt<|AX rfl results110 Y (by exact ⟨Ea (fun e=>K (by rw [e])),rfl⟩)
 have af:a.length=b.length:=by omega
 refine B4<|Zq<|A3<|AH Y<|AP<|Zb [5,0,1] ?_;refine Ay (e0:=[(5,_)]) (fun m e H=>∃(i:Nat),m=a.length -i/\(i<=a.length/\∀j,j<i->a[j]?=b[j]?)/\e=[(5,I0 (i:Int))]/\H=[]) (by exact ⟨0,V,⟨C7 _,by intro j hj;omega⟩,V,V⟩) Wp ?_;rintro _ _ _ ⟨i,rfl,⟨hi,g⟩,rfl,rfl⟩;refine B7 Y<|Zm Y<|Zv (AR Dd Y)<|Zv (Ar Y Y)<|A5<|Ap Y (fun ax=>?_) (fun ax=>?_);·
  obtain ⟨x,hx⟩:∃x,a[i]?=some x:=⟨_,BE A0⟩;obtain ⟨y,hy⟩:∃y,b[i]?=some y:=⟨_,BE A0⟩;obtain ⟨g1,ek,B,T1,cO,rfl,bn,I⟩:=W i x hx;obtain ⟨g2,gm,G,T2,d9,rfl,cu,J⟩:=X i y hy;refine B4<|Zq<|AP<|Zq<|Aw (n:=9) (0::0::3::7::0::0::48::112::255::[]) 0 AD AD V<|A1 0 V (AQ Y)<|A1 1 V (AQ Y)<|A1 2 V (Bu Dd HD Y Y A0)<|CS (b:=g1) (x:= .cells B T1 cO) (D':=15) 3 V rfl V (by simp [bn]) (BL Kx Y I) ?_;refine A1 4 V (AQ Y)<|A1 5 V (AQ Y)<|A1 6 V (Bu Dd HD Y Y A0)<|CS (b:=g2) (x:= .cells G T2 d9) (D':=255) 7 V rfl V (by simp [cu]) (BL Kx Y J) ?_;refine A1 8 V (kr Y Y)<|Ao<|Zn [0,1,5,25] ?_;refine Zx<|Ap Y (fun O=>?_) (fun O=>?_);·
   refine A3<|Ax Y<|Ag<|Zt<|Zt<|Ag<|Zt<|AX rfl results110 Y (by exact ⟨Ea (fun e=>by rw [e,hy]at hx;injection hx with hx;exact O (by rw [hx])),rfl⟩)
  have U:x=y:=wR (Kf.1 O);refine AC<|A9<|Zx<|Zg<|Zm Y<|Ya (n:=1) Y Y<|B1 Y<|HB (by exact ⟨i+1,rfl,⟨by omega,fun j hj=>by rcases Ft j i with h9|h9;exact g j h9;obtain rfl:j=i:=A0;rw [hx,hy];exact congrArg some U⟩,rfl,rfl⟩)
 refine BB<|Zt<|Zt<|AV<|CD<|Ax Y<|AX V results110 Y (by exact ⟨TY (R7 af (fun j hj=>g j A0)),V⟩)
theorem wm{va vb:A2}{a b:List AU}(ha:DV M va a)(hb:DV M vb b):Az prog 111 #[va,vb] [M] (.bool (decide (a=b))):=by
 have j5:=mL;obtain ⟨pa,ca,rfl,ic,W⟩:=ha;obtain ⟨pb,cb,rfl,j3,X⟩:=hb;refine Se func111 ntmps111 [0,1] ?_;intro u R;refine A3<|AH Y<|B7 Y<|Zv (AR C1 Y)<|Zm Y<|Zv (AR C1 Y)<|Zv (Dr Y Y)<|A5<|Ap Y (fun K=>?_) (fun K=>?_);·
  refine A3<|Ax Y<|Zt<|AX rfl results111 Y (by exact ⟨Ea (fun e=>K (by rw [e])),rfl⟩)
 have af:a.length=b.length:=by omega
 refine B4<|Zq<|A3<|AH Y<|AP<|Zb [5,0,1] ?_;refine Ay (e0:=[(5,_)]) (fun m e H=>∃(i:Nat),m=a.length -i/\(i<=a.length/\∀j,j<i->a[j]?=b[j]?)/\e=[(5,I0 (i:Int))]/\H=[]) (by exact ⟨0,V,⟨C7 _,by intro j hj;omega⟩,V,V⟩) Wp ?_;rintro _ _ _ ⟨i,rfl,⟨hi,g⟩,rfl,rfl⟩;refine B7 Y<|Zm Y<|Zv (AR C1 Y)<|Zv (Ar Y Y)<|A5<|Ap Y (fun ax=>?_) (fun ax=>?_);·
  obtain ⟨x,hx⟩:∃x,a[i]?=some x:=⟨_,BE A0⟩;obtain ⟨y,hy⟩:∃y,b[i]?=some y:=⟨_,BE A0⟩;obtain ⟨g1,gq,B,T1,cO,rfl,bn,ek,I⟩:=W i x hx;obtain ⟨g2,gy,G,T2,d9,rfl,cu,gm,J⟩:=X i y hy;refine B4<|Zq<|AP<|Zq<|Aw (n:=9) (0::0::3::7::0::0::48::112::255::[]) 0 AD AD V<|A1 0 V (AQ Y)<|A1 1 V (AQ Y)<|A1 2 V (AZ C1 B3 Y Y A0)<|CS (b:=g1) (x:= .cells B T1 cO) (D':=15) 3 V rfl V (by simp [bn]) (AA (cs:=x.A88) DE B3 Y A0 I) ?_;refine A1 4 V (AQ Y)<|A1 5 V (AQ Y)<|A1 6 V (AZ C1 B3 Y Y A0)<|CS (b:=g2) (x:= .cells G T2 d9) (D':=255) 7 V rfl V (by simp [cu]) (AA (cs:=y.A88) DE B3 Y A0 J) ?_;refine A1 8 V (VU AD H3 AD An An An D3 K0 AE A6 HS E0 Y Y)<|Ao<|Zn [0,1,5,25] ?_;refine Zx<|Ap Y (fun O=>?_) (fun O=>?_);·
   refine A3<|Ax Y<|Ag<|Zt<|Zt<|Ag<|Zt<|AX rfl results111 Y (by exact ⟨Ea (fun e=>by rw [e,hy]at hx;injection hx with hx;exact O (Wl.2 hx.symm)),rfl⟩)
  have U:x=y:=Wl.1 (Kf.1 O);refine AC<|A9<|Zx<|Zg<|Zm Y<|Ya (n:=1) Y Y<|B1 Y<|HB (by exact ⟨i+1,rfl,⟨by omega,fun j hj=>by rcases Ft j i with h9|h9;exact g j h9;obtain rfl:j=i:=A0;rw [hx,hy];exact congrArg some U⟩,rfl,rfl⟩)
 refine BB<|Zt<|Zt<|AV<|CD<|Ax Y<|AX V results111 Y (by exact ⟨TY (R7 af (fun j hj=>g j A0)),V⟩)
theorem pY{a b:RP}:a=b↔a.paths=b.paths/\(a.tb=b.tb/\a.cl=b.cl/\a.lo=b.lo/\a.hi=b.hi/\a.ct=b.ct/\a.fi=b.fi)/\a.rows=b.rows/\a.roots=b.roots:=by
 obtain ⟨U,W,X,a4,a5,a6,a7,a8,a9⟩:=a;obtain ⟨b1,b2,b3,b4,b5,b6,b7,b8,b9⟩:=b;simp only [RP.mk.injEq];constructor;· rintro ⟨g,h2,m,B,G,I,J,K,O⟩;exact ⟨K,⟨g,h2,m,B,G,I⟩,J,O⟩
 · rintro ⟨K,⟨g,h2,m,B,G,I⟩,J,O⟩;exact ⟨g,h2,m,B,G,I,J,K,O⟩
theorem TU{m:AU->Bool}:∀{l:List AU} {i:Nat} {x:AU},i<Ce m l->l[i]?=some x->m x=false
 |[],i,x,_,hx=>by simp at hx
 |z::l,i,x,hi,hx=>by
  unfold Ce at hi;rw [S1]at hi;by_cases hz:m z=true;· rw [As (by simp [hz])]at hi;simp at hi
  · have g:m z=false:=by simpa using hz
    rw [B0 (by simp [g])]at hi;rcases i with _|i
    · simp at hx;rw [<-hx];exact g
    · simp only [dj]at hx
      exact TU (l:=l) (by unfold Ce;simp at hi;omega) hx
theorem Q4{g:AU->Bool}:∀{l:List AU} {x:AU},l[Ce g l]?=some x->g x=true
 |[],x,hx=>by simp at hx
 |z::l,x,hx=>by
  unfold Ce at hx;rw [S1]at hx;by_cases hz:g z=true;· rw [As (by simp [hz])]at hx;simp at hx;rw [<-hx];exact hz
  · have m:g z=false:=by simpa using hz
    rw [B0 (by simp [m])]at hx;simp only [EV,dj]at hx;exact Q4 (l:=l) hx
def ltV(c:Nat)(a b:AU):Prop:=Dk a c<Dk b c\/Dk a c=Dk b c/\a.k<b.k
variable{rs:List AU}
theorem Sm(g:BN rs)(t:Int)(c:Nat):(BO rs t c).Pairwise (ltV c):=by
 have m:=Es g t c (-1000000000) 1000000000;have h2:(rs.filter (inR t c (-1000000000) 1000000000)).Pairwise (fun a b=>a.k≠b.k):=(Px g fun r h=>jG h).imp (fun h=>by omega)
 have B:(Dv rs t c (-1000000000) 1000000000).Pairwise (fun a b=>a.k≠b.k):=((ET rs t c (-1000000000) 1000000000).pairwise_iff (fun h=>h.symm)).2 h2;exact (m.and B).imp (fun{a b} h=>by unfold ltV;obtain ⟨G,I⟩:=h;unfold leV at G;omega)
variable{l:List AU}{j:Nat}
theorem zS{R:AU->AU->Prop}(h:l.Pairwise R){a b:AU}(g:i<j)(m:l[i]?=some a)(B:l[j]?=some b):R a b:=by
 obtain ⟨hi,rfl⟩:=C6.1 m;obtain ⟨G,rfl⟩:=C6.1 B;exact fx.1 h i j hi G g
variable{t:Int}{c:Nat}
theorem Yn(G:BN rs){a b:AU}(m:i<=j)(B:(BO rs t c)[i]?=some a)(g:(BO rs t c)[j]?=some b):Dk a c<=Dk b c:=by
 rcases Nat.eq_or_lt_of_le m with rfl|h
 · rw [B]at g;injection g with g;rw [g];exact cT _
 · have:=zS (Sm G t c) h B g
   unfold ltV at this;omega
theorem jB(B:BN rs)(t c:Nat)(lo:Int)(g:(BO rs (t:Int) c)[i]?=some r):(Ce (geV c lo) (BO rs (t:Int) c)<=i->lo<=Dk r c)/\(i<Ce (geV c lo) (BO rs (t:Int) c)->Dk r c<lo):=by
 constructor
 · intro h
   have m:=(C6.1 g).1;have hx:(BO rs (t:Int) c)[Ce (geV c lo) (BO rs (t:Int) c)]?=some _:=BE A0
   have G:=IF (Q4 hx);have h2:=Yn B h hx g
   omega
 · intro h
   have:=cE (TU h g);omega
theorem jI(B:BN rs)(t c:Nat)(hi:Int)(g:(BO rs (t:Int) c)[i]?=some r):(Ce (gtV c hi) (BO rs (t:Int) c)<=i->hi<Dk r c)/\(i<Ce (gtV c hi) (BO rs (t:Int) c)->Dk r c<=hi):=by
 constructor
 · intro h
   have m:=(C6.1 g).1;have hx:(BO rs (t:Int) c)[Ce (gtV c hi) (BO rs (t:Int) c)]?=some _:=BE A0
   have G:=IF (Q4 hx);have h2:=Yn B h hx g
   omega
 · intro h
   have:=cE (TU h g);omega
theorem TT(g:BN rs)(t c:Nat)(lo hi:Int)(m:lo<=hi):Ce (geV c lo) (BO rs (t:Int) c)<=Ce (gtV c hi) (BO rs (t:Int) c):=by
 rcases Ft (Ce (gtV c hi) (BO rs (t:Int) c)) (Ce (geV c lo) (BO rs (t:Int) c))with h|h
 · have G:=Gy (geV c lo) (BO rs (t:Int) c)
   have hx:(BO rs (t:Int) c)[Ce (gtV c hi) (BO rs (t:Int) c)]?=some _:=BE A0;have B:=(jI g t c hi hx).1 (CT _)
   have h2:=(jB g t c lo hx).2 h;omega
 · exact h
theorem OE{f m:Nat}(h:((l.drop f).take m)[j]?=some r):j<m/\l[f+j]?=some r:=by
 rw [HU]at h;split at h;· rw [S2]at h;exact ⟨by assumption,h⟩
 · cases h
theorem il(h:r∈BO rs t c):r∈rs/\r.t=t:=by
 have:=GP.1 ((ET rs t c _ _).mem_iff.1 h);exact ⟨this.1,jG this.2⟩
theorem NS(m:BN rs)(t c:Nat)(lo hi:Int)(g:lo<=hi):CY (BO rs (t:Int) c) c lo<=toT (BO rs (t:Int) c) c hi/\toT (BO rs (t:Int) c) c hi<=(BO rs (t:Int) c).length/\(0<(BO rs (t:Int) c).length->CY (BO rs (t:Int) c) c lo<toT (BO rs (t:Int) c) c hi):=by
 have B:=TT m t c lo hi g;have h2:=Gy (geV c lo) (BO rs (t:Int) c)
 have G:=Gy (gtV c hi) (BO rs (t:Int) c);unfold CY toT;omega
theorem kQ(m:BN rs)(t c:Nat)(lo hi:Int)(g:lo<=hi):(Et rs t c lo hi).rows.length=toT (BO rs (t:Int) c) c hi -CY (BO rs (t:Int) c) c lo:=by
 have:=NS m t c lo hi g;show(((BO rs (t:Int) c).drop _).take _).length=_
 rw [Cl,D0];omega
theorem Nn(B:BN rs)(hn:rs.length<=2000)(O:∀r∈rs,r.ok)(t c:Nat)(ht:t<=3)(hc:c<=3)(lo hi:Int)(m:lo<=hi):JK (Et rs t c lo hi):=by
 have h1:=TT B t c lo hi m;have h2:=Gy (geV c lo) (BO rs (t:Int) c)
 have h3:=Gy (gtV c hi) (BO rs (t:Int) c);have h4:=NS B t c lo hi m
 have I:=kQ B t c lo hi m;have ax:=J9 B (t:Int) c
 have hf:CY (BO rs (t:Int) c) c lo=Ce (geV c lo) (BO rs (t:Int) c) -1:=rfl;have bn:toT (BO rs (t:Int) c) c hi=min (Ce (gtV c hi) (BO rs (t:Int) c)+1) (BO rs (t:Int) c).length:=rfl
 have hv:∀r:AU,Bj r ((c:Nat):Int)=Dk r c:=fun r=>LG r c hc;refine ⟨⟨⟨?_,?_⟩,?_,?_⟩,m,⟨?_,?_⟩,⟨?_,?_⟩,?_,?_,?_,?_,?_⟩;· show(0:Int)<=(t:Int);omega
 · show(t:Int)<4;omega
 · show(0:Int)<=(c:Int);omega
 · show(c:Int)<4;omega
 · show(0:Int)<=((BO rs (t:Int) c).length:Int);omega
 · show((BO rs (t:Int) c).length:Int)<=2000;omega
 · show(0:Int)<=((CY (BO rs (t:Int) c) c lo:Nat):Int);omega
 · show((CY (BO rs (t:Int) c) c lo:Nat):Int)<=((BO rs (t:Int) c).length:Int);omega
 · rw [I];show _<=((BO rs (t:Int) c).length:Int) -((CY (BO rs (t:Int) c) c lo:Nat):Int);omega
 · rw [I];intro h0;show((BO rs (t:Int) c).length:Int)=0;omega
 · intro j r G
   obtain ⟨X,g⟩:=OE G;have W:=il (E7 g)
   have K:=jB B t c lo g;have J:=jI B t c hi g
   refine ⟨⟨O r W.1,W.2,?_,?_⟩,?_⟩;· intro h;change Bj r (c:Int)<lo at h;rw [hv]at h;omega
   · intro h;change hi<Bj r (c:Int)at h;rw [hv]at h;rw [I];omega
   · intro af q hq
     obtain ⟨_,U⟩:=OE hq;have:=zS (Sm B (t:Int) c) A0 U g
     unfold WG;show Bj q (c:Int)<Bj r (c:Int)\/Bj q (c:Int)=Bj r (c:Int)/\q.k<r.k
     rw [hv,hv];exact this
 · intro r G
   obtain ⟨_,g⟩:=OE G;have K:=jB B t c lo g
   show((CY (BO rs (t:Int) c) c lo:Nat):Int)=0\/Bj r (c:Int)<lo;rw [hv];omega
 · intro r G
   rw [I]at G⊢;obtain ⟨X,g⟩:=OE G;have J:=jI B t c hi g
   show((CY (BO rs (t:Int) c) c lo:Nat):Int)+_=((BO rs (t:Int) c).length:Int)\/hi<Bj r (c:Int);rw [hv];omega
theorem cK(G:BN rs)(hn:rs.length<=2000)(K:∀r∈rs,r.ok)(t c:Nat)(W:t<=3)(hc:c<=3)(lo hi:Int)(m:lo<=hi):ES (Et rs t c lo hi)=(BO rs (t:Int) c).filter (inR (t:Int) c lo hi):=by
 have J:=Nn G hn K t c W hc lo hi m;have h4:=NS G t c lo hi m
 have hf:CY (BO rs (t:Int) c) c lo=Ce (geV c lo) (BO rs (t:Int) c) -1:=rfl;have X:toT (BO rs (t:Int) c) c hi=min (Ce (gtV c hi) (BO rs (t:Int) c)+1) (BO rs (t:Int) c).length:=rfl
 have hv:∀r:AU,Bj r ((c:Nat):Int)=Dk r c:=fun r=>LG r c hc;rw [cB J];show(((BO rs (t:Int) c).drop (CY (BO rs (t:Int) c) c lo)).take (toT (BO rs (t:Int) c) c hi -CY (BO rs (t:Int) c) c lo)).filter _=_
 have e:BO rs (t:Int) c=(BO rs (t:Int) c).take (CY (BO rs (t:Int) c) c lo)++(((BO rs (t:Int) c).drop (CY (BO rs (t:Int) c) c lo)).take (toT (BO rs (t:Int) c) c hi -CY (BO rs (t:Int) c) c lo)++(BO rs (t:Int) c).drop (toT (BO rs (t:Int) c) c hi)):=by
  have e1:(BO rs (t:Int) c).drop (toT (BO rs (t:Int) c) c hi)=((BO rs (t:Int) c).drop (CY (BO rs (t:Int) c) c lo)).drop (toT (BO rs (t:Int) c) c hi -CY (BO rs (t:Int) c) c lo):=by
   rw [cS];congr 1;omega
  rw [e1,MA,MA]
 conv=>rhs;rw [e]
 rw [Kd,Kd];have z1:((BO rs (t:Int) c).take (CY (BO rs (t:Int) c) c lo)).filter (inR (t:Int) c lo hi)=[]:=by
  rw [my];intro r B I;obtain ⟨i,g⟩:=HK B;rw [HU]at g;split at g
  · have:=(jB G t c lo g).2 A0
    have:=IF I;omega
  · cases g
 have z2:((BO rs (t:Int) c).drop (toT (BO rs (t:Int) c) c hi)).filter (inR (t:Int) c lo hi)=[]:=by
  rw [my];intro r B I;obtain ⟨i,g⟩:=HK B;rw [S2]at g;have O:=(C6.1 g).1
  have:=(jI G t c hi g).1 A0;have:=IF I
  omega
 rw [z1,z2,Mu,DQ];refine kh ?_;intro r B;have U:=il (MD (R0 B))
 unfold inB inR;show decide (lo<=Bj r (c:Int)/\Bj r (c:Int)<=hi)=_
 rw [hv];exact decide_eq_decide.2 ⟨fun h=>⟨U.2,h⟩,fun h=>h.2⟩
theorem uS(B:BN rs)(m:∀r∈rs,r.ok)(t c:Nat)(W:t<=3)(hc:c<=3)(lo hi:Int)(J:lo<=hi):(BO rs (t:Int) c).filter (inR (t:Int) c lo hi)=Dv rs (t:Int) c lo hi:=by
 refine VD B ?_ ?_
 · have g:=(ET rs (t:Int) c (-1000000000) 1000000000).filter (inR (t:Int) c lo hi)
   refine g.trans ?_;rw [List.filter_filter];refine List.Perm.of_eq (kh ?_);intro r K;obtain ⟨⟨g,h2,G⟩,O,U⟩:=m r K;unfold inV at g h2 G;have I:-1000000000<=Dk r c/\Dk r c<=1000000000:=by
    unfold Dk;split;· omega
    · split
      · omega
      · split<;>omega
   unfold inR;rw [<-Bool.decide_and];exact decide_eq_decide.2 ⟨fun h=>h.1,fun h=>⟨h,h.1,I⟩⟩
 · exact (Es B (t:Int) c (-1000000000) 1000000000).filter _
theorem Rt(B:BN rs)(hn:rs.length<=2000)(m:∀r∈rs,r.ok)(t c:Nat)(G:t<=3)(hc:c<=3)(lo hi:Int)(g:lo<=hi):ES (Et rs t c lo hi)=Dv rs (t:Int) c lo hi:=by rw [cK B hn m t c G hc lo hi g,uS B m t c G hc lo hi g]
def CL(c:Int)(n:Nat):Nat:=((if c<0 then-(c+1)else c).tmod n).toNat
theorem EK(c:Int)(n:Nat)(hn:0<n):CL c n<n:=by
 unfold CL;have g:0<=(if c<0 then-(c+1)else c):=by split<;>omega
 have h2:=Int.tmod_lt_of_pos (if c<0 then-(c+1)else c) (b:=(n:Int)) A0;have m:=Int.tmod_nonneg (n:Int) g
 omega
theorem qi(c:Int)(n:Nat):(if c<0 then-(c+1)else c).tmod n=(CL c n:Int):=by
 unfold CL;have g:0<=(if c<0 then-(c+1)else c):=by split<;>omega
 have m:=Int.tmod_nonneg (n:Int) g;omega
theorem xB{c:Chg}{x:AU}(h:x∈EO rs c):x∈rs\/(c.has=true/\x=⟨c.t,c.k,c.n⟩):=by
 unfold EO at h;rcases CI.1 h with h|h
 · rcases CI.1 h with h|h
   · exact .inl (R0 h)
   · exact .inr (Ll.1 h)
 · exact .inl (MD (MD h))
theorem A01{c:Chg}(h:c.ok)(g:c.has=true):AU.ok ⟨c.t,c.k,c.n⟩:=by
 obtain ⟨_,h2,_⟩:=h;rw [Kq g]at h2;exact Kf.1 fun m=>h2 (.inr ⟨g,m⟩)
theorem VG:∀(cs:List Chg) (rs:List AU),(∀r∈rs,r.ok)->(∀c∈cs,c.ok)->∀r∈DI rs cs,r.ok
 |[],rs,h,_=>h
 |c::cs,rs,h,hc=>by
  have B:∀r∈EO rs c,r.ok:=fun r m=>by
   rcases xB m with m|⟨hh,rfl⟩
   · exact h r m
   · exact A01 (hc c B6) hh
  exact VG cs (EO rs c) B (fun c g=>hc c (by simp [g]))
theorem Ew.rowsOk{l:List BJ}(h:Ew l):∀i,i<=l.length->∀r∈BP (l.take i),r.ok
 |0,_=>by intro r g;simp [BP]at g
 |i+1,hi=>by
  obtain ⟨r,g⟩:∃r,l[i]?=some r:=⟨_,BE A0⟩;rw [Bq g,Gh];refine VG _ _ (Ew.rowsOk h i A0) fun c hc=>?_;obtain ⟨j,m⟩:=HK hc;exact (h i r g).1.ok.all j c m
theorem pI{n:Nat}{xs:List (List Int)}(h:WB M (.slice p n cap) xs)(k:Nat)(G:k<=n):WB M (.slice p k cap) (xs.take k):=by
 obtain ⟨J,g,e,I,B⟩:=h;injection e with e1 e2 e3
 subst e1 e2 e3;have m:(xs.take k).length=k:=by rw [Cl];exact S7 G
 refine ⟨p,cap,by rw [m],by omega,fun i z hz=>B i z ?_⟩;rw [HU]at hz;split at hz;· exact hz
 · cases hz
def cs0:List Chg:=[⟨0,3,false,V3.zero,true,⟨10,0,0⟩⟩,⟨0,5,false,V3.zero,true,⟨10,21,30⟩⟩]
def l0(gc:Nat):List BJ:=[⟨1,some ⟨gc,0,none⟩,2,cs0⟩]
def RP.cut(x:RP):RP:=⟨x.tb,x.cl,x.lo,x.hi,x.ct,x.fi,x.rows.drop 1,x.paths.drop 1,x.roots⟩
theorem tk(hv:U3 M v x)(h:JK x)(G:ES x=l):BQ prog 187 #[v] [M] (fun r H'=>∃B m,r= .tuple #[B,.bool true]/\BX 5 61 B l.length (Ad l) m/\H'=[m,M]):=by
 have g:=jy hv;rw [DO h,G]at g;exact g
theorem U3.mono(h:U3 M v x)(g:∀c∈M,c∈M'):U3 M' v x:=by
 obtain ⟨I,G,J,e,m,h2,B⟩:=h;exact ⟨I,G,J,e,m.mono g,h2.mono g,B.mono g⟩
theorem SH:∀(n:Nat) (l:List Bs) (i:Nat),l.length<=n->(FY l i).length<=l.length
 |n,l,i,hn=>by
  rcases Ft l.length 2 with h|h
  · rw [VI A0];simp
  · have m:=Oj h
    have h2:=Oi l.length
    match n,hn with
    |0,hn=>omega
    |n+1,hn=>
    by_cases hi:i<DU l.length
    · have g:=SH n (l.take (DU l.length)) i (by rw [Cl];omega)
      rw [Cl]at g;rw [QQ h hi,C2];simp only [G0];omega
    · have g:=SH n (l.drop (DU l.length)) (i -DU l.length) (by rw [D0];omega)
      rw [D0]at g;rw [OW h hi,C2];simp only [G0];omega
theorem YS(m:BN rs)(hn:rs.length<=2000)(t c:Nat)(lo hi:Int):∀l∈(Et rs t c lo hi).paths,l.length<=1000000:=by
 intro l h;obtain ⟨x,_,rfl⟩:=CM.1 h;have g:=SH _ (Ox (BO rs (t:Int) c)) (CY (BO rs (t:Int) c) c lo+x) (CT _)
 have h2:=J9 m (t:Int) c;rw [IR]at g;omega
theorem A23(q:QM)(m:BG q):Az prog 133 #[.agg q.A89] [] (.tuple #[I0 q.tb,I0 q.cl,I0 q.lo,I0 q.hi]):=by
 refine Se func133 ntmps133 [0] ?_;intro u R;refine A3<|Ze (Bx q.A89)<|AF fun bq=>Za Y<|Za Y<|Za Y<|D2 Y<|A3<|Zo Wh (AA (cs:=#[_,_,_,_,_,_,_]) FG D4 Y B9 B2)<|Xr [_] Y call28 Y V (JR q)<|Zv (Cz Y)<|A5<|AY Y (fun g=>?_) (fun g=>?_);·
  exfalso;simp [m]at g
 refine B4<|Zq<|Aw (n:=12) (0::1::0::4::0::16::0::64::3::271::831::2047::[]) 0 AD AD V<|A1 0 V (AB (off:=1) DB V rfl A6 Y)<|Bk 1 V AE Y<|A1 2 V (AB (off:=2) DB V rfl A6 Y)<|Bk 3 V AE Y<|A1 4 V (AB (off:=3) DB V rfl A6 Y)<|Bk 5 V AE Y<|A1 6 V (AB (off:=4) DB V rfl A6 Y)<|Bk 7 V AE Y<|A1 8 V (BI Y)<|A1 9 V (BI Y)<|A1 10 V (BI Y)<|A1 11 V (BI Y)<|Ao<|Zn [2,3,4,5] ?_;refine Zx<|AJ<|iw V results133 Y Y Y Y (by exact ⟨V,V⟩)
theorem ri(q:QM)(g:BG q):Az prog 81 #[.agg q.A89] [] (.agg #[I0 q.tb,I0 q.cl,I0 q.lo,I0 q.hi]):=by
 refine Se func81 ntmps81 [0] ?_;intro u R;refine A3<|Ze (Bx q.A89)<|AF fun bq=>Ze (Al j8 #[_,_,_,_])<|AF fun m=>A5<|A3<|Zo Wh (AA (cs:=#[_,_,_,_,_,_,_]) FG D4 Y B9 B2)<|Xr [_] Y call133 Y V (A23 q g)<|Zm Y<|Zd Y V<|Zd Y V<|Zd Y V<|Zd Y V<|Zh 0 RE V rfl A6 Y<|Xe (Zs A6 Y Y V (hi:=by decide))<|Zh 1 RE V rfl A6 Y<|Xe (Zs A6 Y Y V (hi:=by(simp;done)))<|Zh 2 RE V rfl A6 Y<|Xe (Zs A6 Y Y V (hi:=by(simp;done)))<|Zh 3 RE V rfl A6 Y<|Xe (Zs A6 Y Y V (hi:=by(simp;done)))<|Z0<|Zn [2] ?_;refine CD<|Zo Wh (AA (cs:=#[_,_,_,_]) isAgg169 cY Y B9 (Au rfl))<|Xe (BF cY Y Y HT Wu (D9 rfl) Fm B9 (by exact BA _))<|A5<|AJ<|Cv rfl results81 Y Wh (Av isAgg169 cY Wn (Au rfl)) cG
theorem UI{P:Program}{env:Env}{d:Option Nat}{ty:AK}{pos:String}{af:Array Edge}{g:Option (Nat×Bool)}{x:Operand}{m at_:AK}{ok:Bool}{r:A2}(hx:∀a,ev a env x=v)(B:∀w:A4,(Instr.typeAssert v m at_ ok).run P w= .ok r w):OpP P ⟨d,.typeAssert x m at_ ok,ty,pos,af,g⟩ env [] r:=fun a w _=>by
 simp [execOp,hx a,B w]
theorem uv(w:A4):(Instr.typeAssert .nilIface 20 97 true).run prog w= .ok (.tuple #[.nilIface,.bool false]) w:=by kernel_rfl
theorem ZP{u w:A4}{H:Hp}{b:Nat}{o:Obj}(h:Has b o H)(g:Sat u H w):w.heap[b]?=some o:=g.get _ h.mem
variable{q:QM}
theorem mh(m:BG q)(g:q.kd≠7):IP q (Dv rs q.tb q.cl.toNat q.lo q.hi) []=Cf rs q:=by
 rw [Oo m];unfold Cf FQ CR;split;· rfl
 · split
   · rfl
   · split
     · rfl
     · split
       · rfl
       · first
         |rfl
         |(split
           · rename_i h;exact absurd h g
           · rfl)
theorem tg(B:BN rs)(hn:rs.length<=2000)(g:∀r∈rs,r.ok)(q:QM)(G:BG q):JK (Et rs q.tb.toNat q.cl.toNat q.lo q.hi)/\ES (Et rs q.tb.toNat q.cl.toNat q.lo q.hi)=Dv rs q.tb q.cl.toNat q.lo q.hi:=by
 obtain ⟨I,h2,m,_⟩:=id G;refine ⟨Nn B hn g q.tb.toNat q.cl.toNat A0 A0 q.lo q.hi m.2.1,?_⟩;have h:=Rt B hn g q.tb.toNat q.cl.toNat A0 A0 q.lo q.hi m.2.1
 rwa [show((q.tb.toNat:Nat):Int)=q.tb by omega]at h
theorem qY(g:BG q):(Et rs q.tb.toNat q.cl.toNat q.lo q.hi).tb=q.tb/\(Et rs q.tb.toNat q.cl.toNat q.lo q.hi).cl=q.cl/\(Et rs q.tb.toNat q.cl.toNat q.lo q.hi).lo=q.lo/\(Et rs q.tb.toNat q.cl.toNat q.lo q.hi).hi=q.hi:=by
 obtain ⟨m,h2,_⟩:=id g;exact ⟨show((q.tb.toNat:Nat):Int)=q.tb by omega,show((q.cl.toNat:Nat):Int)=q.cl by omega,V,V⟩
theorem KI:Az prog 138 #[.bool true] [] undef:=by
 refine Se func138 ntmps138 [0] ?_;intro u R;refine AN Y<|Zv (Bh Y)<|A5<|AY Y (fun g=>by cases g)<|fun g=>AC<|D6 V results138 (by exact ⟨V,V⟩)
theorem A03(pk:A2):PI prog 137 #[pk] .returning .returning [] (fun H'=>H'=[]):=by
 refine Y3 (env1:=[(3,.bool false),(2,.nilIface),(8,.bool false),(7,.nilIface),(4,.tuple #[.nilIface,.bool false]),(6,.tuple #[.nilIface,.bool false]),(5,.nilIface),(0,pk)]) func137 V ntmps137 V results137 ?hrec_1 ?hwalk_1
 case hrec_1=>
  intro u R c cs Q m G;show oG _ _ [0,1,2,3,4,5,6] _ _ _ _ _
  have g:({c with mode:= .returning}:Frame)=c:=by cases c;simp only at m;subst m;rfl
  rw [g]at G;refine eD V (by simp [recoverD,m]) V ?_;refine Pw V (UI Y uv) V ?_;refine Pw V (AQ Y) V ?_;refine Pw V (CV Y V) V ?_;refine Pw V (CV Y V) V ?_;refine Pw V (BI Y) V ?_;refine Pw V (BI Y) V ?_;intro a w I;exact G a w I
 intro u R;refine Zb [0,2,3] ?_;refine AN Y<|Zm Y<|Ab (t:=10) Y V (fun B=>by cases B)<|fun B=>AG<|C5<|BW Y Y<|A5<|DW Y<|AC<|D6 V results137 B2
theorem A21(g:Nat)(B:A2):PI prog 136 #[I1 g,B] .returning .returning [[(g,.cells #[.bool true] 4 (0,0))]] (fun H'=>H'=[[(g,.cells #[.bool true] 4 (0,0))]]):=by
 refine aP func136 V ntmps136 V ?_;intro u R;refine Zb [0,1] ?_;refine A3<|Zl GW Y ?_;refine Zv (Bh Y)<|A5<|AY Y (fun m=>by cases m)<|fun m=>AC<|D6 V results136 B2
structure RPZ where
 x:RP
 qr:B8
 cr:Nat
 qp:B8
 cp:Nat
 qt:B8
 ct:Nat
def Em(z:RPZ):List A2:=[I0 z.x.tb,I0 z.x.cl,I0 z.x.lo,I0 z.x.hi,I0 z.x.ct,I0 z.x.fi,.slice z.qr z.x.rows.length z.cr,.slice z.qp z.x.paths.length z.cp,.slice z.qt z.x.roots.length z.ct]
def RPZ.ok(M:List A8)(z:RPZ):Prop:=DV M (.slice z.qr z.x.rows.length z.cr) z.x.rows/\M4 M (.slice z.qp z.x.paths.length z.cp) z.x.paths/\EM M (.slice z.qt z.x.roots.length z.ct) z.x.roots
theorem tf(h:U3 M v x):∃z:RPZ,z.x=x/\z.ok M/\v= .agg #[I0 z.x.tb,I0 z.x.cl,I0 z.x.lo,I0 z.x.hi,I0 z.x.ct,I0 z.x.fi,.slice z.qr z.x.rows.length z.cr,.slice z.qp z.x.paths.length z.cp,.slice z.qt z.x.roots.length z.ct]:=by
 obtain ⟨K,J,O,rfl,g,h2,m⟩:=h;obtain ⟨qr,cr,rfl,B⟩:=id g;obtain ⟨qp,cp,rfl,G⟩:=id h2;obtain ⟨qt,ct,rfl,I⟩:=id m;exact ⟨⟨x,qr,cr,qp,cp,qt,ct⟩,V,⟨g,h2,m⟩,V⟩
theorem RPZ.ok.mono{z:RPZ}(h:z.ok M)(g:∀c∈M,c∈M'):z.ok M':=⟨h.1.mono g,h.2.1.mono g,h.2.2.mono g⟩
theorem RPZ.ok.rp{z:RPZ}(h:z.ok M):U3 M (.agg #[I0 z.x.tb,I0 z.x.cl,I0 z.x.lo,I0 z.x.hi,I0 z.x.ct,I0 z.x.fi,.slice z.qr z.x.rows.length z.cr,.slice z.qp z.x.paths.length z.cp,.slice z.qt z.x.roots.length z.ct]) z.x:=⟨_,_,_,rfl,h⟩
def ZsU(M:List A8)(v:A2)(Z:List RPZ):Prop:=∃p cap,v= .slice p Z.length cap/\(Z.length<=maxLen/\Z.length<=cap)/\∀(i:Nat) (z:RPZ),Z[i]?=some z->z.ok M/\∃g off cur T zz,p=some ⟨g,off,none⟩/\(g,Obj.cells cur T zz)∈M/\off+i*9+9<=cur.size/\cur.extract (off+i*9) (off+i*9+9)=#[I0 z.x.tb,I0 z.x.cl,I0 z.x.lo,I0 z.x.hi,I0 z.x.ct,I0 z.x.fi,.slice z.qr z.x.rows.length z.cr,.slice z.qp z.x.paths.length z.cp,.slice z.qt z.x.roots.length z.ct]
def Ex(M:List A8)(v:A2)(L:List RP):Prop:=∃Z,ZsU M v Z/\Z.map RPZ.x=L
variable{Z:List RPZ}
theorem ZsU.mono(h:ZsU M v Z)(m:∀c∈M,c∈M'):ZsU M' v Z:=by
 obtain ⟨p,cap,e,K,J⟩:=h;refine ⟨p,cap,e,K,fun i z hz=>?_⟩;obtain ⟨h2,g,off,cur,T,zz,B,G,I⟩:=J i z hz;exact ⟨h2.mono m,g,off,cur,T,zz,B,m _ G,I⟩
variable{L:List RP}
theorem Ex.mono(h:Ex M v L)(m:∀c∈M,c∈M'):Ex M' v L:=by
 obtain ⟨Z,g,h2⟩:=h;exact ⟨Z,g.mono m,h2⟩
theorem WH{B:List A8}(h:BX 9 65 v Z.length (Z.flatMap Em) s)(hn:Z.length<=maxLen)(I:∀z∈Z,z.ok B):ZsU (s++B) v Z:=by
 obtain ⟨b,cap,rfl⟩:=h.form;refine ⟨b,cap,V,⟨hn,Ez h⟩,fun i z hz=>⟨(I z (E7 hz)).mono (fun c hc=>HC _ hc),?_⟩⟩;obtain ⟨g,G,cur,zz,hv,rfl,J,m⟩:=Ju h i (C6.1 hz).1;injection hv with hv1 hv2 hv3
 refine ⟨g,0,cur,65,zz,hv1,Fc _ (CH.2 V),by omega,?_⟩;rw [DP];apply HW.1;rw [m];exact Io _ 9 (fun _=>rfl) Z i z hz
theorem pW{g:List A8}(h:BX 9 65 v Z.length (Z.flatMap Em) s)(hn:Z.length<=maxLen)(m:∀z∈Z,z.ok g):Ex (s++g) v (Z.map RPZ.x):=⟨Z,WH h hn m,rfl⟩
theorem Ex.form(h:Ex M v L):∃p cap,v= .slice p L.length cap/\L.length<=maxLen/\L.length<=cap:=by
 obtain ⟨Z,⟨p,cap,e,g,_⟩,rfl⟩:=h;rw [Bm];exact ⟨p,cap,e,g⟩
theorem Ex.at{M:List A8}{p:B8}{n cap:Nat}{L:List RP}(h:Ex M (.slice p n cap) L){i:Nat}{x:RP}(hx:L[i]?=some x):∃z:RPZ,z.x=x/\z.ok M/\∃g off cur T zz,p=some ⟨g,off,none⟩/\(g,Obj.cells cur T zz)∈M/\off+i*9+9<=cur.size/\cur.extract (off+i*9) (off+i*9+9)=#[I0 z.x.tb,I0 z.x.cl,I0 z.x.lo,I0 z.x.hi,I0 z.x.ct,I0 z.x.fi,.slice z.qr z.x.rows.length z.cr,.slice z.qp z.x.paths.length z.cp,.slice z.qt z.x.roots.length z.ct]:=by
 obtain ⟨Z,⟨G,m,e,_,B⟩,rfl⟩:=h;injection e with e1 e2 e3
 subst e1;rw [FF]at hx;cases hz:Z[i]?with
 |none=>rw [hz]at hx;cases hx
 |some z=>
  rw [hz]at hx;injection hx with hx
  exact ⟨z,hx,B i z hz⟩
theorem Ex.tail{n:Nat}(h:Ex M (.slice p n cap) (x::L)):Ex M (.slice (Eb p 1 cap 9) (n -1) (cap -1)) L:=by
 obtain ⟨Z,⟨W,J,e,⟨I,m⟩,G⟩,B⟩:=h;injection e with e1 e2 e3
 subst e1 e2 e3
 match Z,B,I,m,G with
 |z::Z,B,I,m,G=>
  injection B with hZ1 hZ2
  rw [EV]at I m;refine ⟨Z,⟨_,_,by rw [EV,Ss],⟨by omega,by omega⟩,fun i y hy=>?_⟩,hZ2⟩;obtain ⟨h2,g,off,cur,T,zz,rfl,K,U,O⟩:=G (i+1) y (by simpa using hy);have hi:=(C6.1 hy).1
  refine ⟨h2,g,off+1*9,cur,T,zz,?_,K,by omega,by rw [show off+1*9+i*9=off+(i+1)*9 by omega];exact O⟩;unfold Eb;rw [As A0,Pr,CW]
def X0(q:QM)(r:AU):Int×Int×Int×Int:=(q.ot,0,Bj r q.bq,Bj r q.bq)
def Y6(q:QM):Int×Int×Int×Int:=(q.tb,q.cl,q.lo,q.hi)
def RP.scan(x:RP):Int×Int×Int×Int:=(x.tb,x.cl,x.lo,x.hi)
noncomputable def OV(s:Int×Int×Int×Int):List RP->Option (List AU×List RP)
 |[]=>none
 |x::l=>if x.scan=s/\JK x then some (ES x,l)else none
noncomputable def Er(q:QM):List AU->List RP->Option (List AU×List RP)
 |[],l=>some ([],l)
 |r::rs,l=>(OV (X0 q r) l).bind fun a=>(Er q rs a.2).map fun b=>(a.1++b.1,b.2)
noncomputable def Eo(q:QM)(L:List RP):Option C8:=
 if BG q then(OV (Y6 q) L).bind fun a=>if a.1.length<=100 then(if q.kd=7 then Er q a.1 a.2 else some ([],a.2)).bind fun b=>if b.2=[]then some (FQ q a.1 b.1)else none else none else none
theorem Rz{s:Int×Int×Int×Int}{a:List AU×List RP}(h:OV s L=some a):∃x,L=x::a.2/\x.scan=s/\JK x/\a.1=ES x:=by
 unfold OV at h;split at h;· cases h
 · split at h
   · rename_i x l h9
     injection h with h
     subst h;exact ⟨x,V,h9.1,h9.2,V⟩
   · cases h
theorem V9{s:Int×Int×Int×Int}{l:List RP}(g:x.scan=s)(h2:JK x):OV s (x::l)=some (ES x,l):=B0 ⟨g,h2⟩
theorem Lc{l:List RP}{b:List AU×List RP}(h:Er q (r::rs) l=some b):∃a c,OV (X0 q r) l=some a/\Er q rs a.2=some c/\b=(a.1++c.1,c.2):=by
 unfold Er at h;cases ha:OV (X0 q r) l with
 |none=>rw [ha]at h;cases h
 |some a=>
  rw [ha,Lk]at h;cases hc:Er q rs a.2 with
  |none=>rw [hc]at h;cases h
  |some c=>rw [hc]at h;injection h with h;exact ⟨a,c,rfl,hc,h.symm⟩
theorem OU{q:QM}:∀(rows:List AU) (i:Nat) (L:List RP) (b:List AU×List RP),i<=rows.length->Er q rows L=some b->∃o g,Er q (rows.take i) L=some (o,g)/\∃m,Er q (rows.drop i) g=some (m,b.2)/\b.1=o++m
 |rows,0,L,b,_,h=>⟨[],L,rfl,b.1,by rw [S8];exact h,rfl⟩
 |r::rows,i+1,L,b,hi,h=>by
  obtain ⟨a,c,B,h2,rfl⟩:=Lc h;obtain ⟨o,g,G,m,I,J⟩:=OU rows i a.2 c (by simpa using hi) h2;refine ⟨a.1++o,g,?_,m,by rw [List.drop_succ_cons];exact I,by rw [J,DG]⟩;rw [nc];unfold Er;rw [B,Lk,G];rfl
theorem QO{q:QM}:∀(rows:List AU) (i:Nat) (r:AU) (L l':List RP) (o:List AU) (a:List AU×List RP),rows[i]?=some r->Er q (rows.take i) L=some (o,l')->OV (X0 q r) l'=some a->Er q (rows.take (i+1)) L=some (o++a.1,a.2)
 |r9::rows,0,r,L,l',o,a,hr,h,ha=>by
  injection hr with hr
  subst hr;injection h with h
  injection h with g h2
  subst g h2;show Er q [r9] L=_
  unfold Er;rw [ha,Lk];show some (a.1++[],a.2)=some ([]++a.1,a.2)
  rw [DQ,Mu]
 |r9::rows,i+1,r,L,l',o,a,hr,h,ha=>by
  rw [nc]at h⊢;obtain ⟨G,B,g,h2,m⟩:=Lc h;injection m with m h4
  have:=QO rows i r G.2 B.2 B.1 a (by simpa using hr) h2 (by rw [<-h4];exact ha);unfold Er;rw [g,Lk,this,m,DG];rfl
theorem QG{r:C8}(h:Eo q L=some r):∃x g,L=x::g/\BG q/\x.scan=Y6 q/\JK x/\(ES x).length<=100/\((q.kd≠7/\g=[]/\r=FQ q (ES x) [])\/(q.kd=7/\∃o,Er q (ES x) g=some (o,[])/\r=FQ q (ES x) o)):=by
 unfold Eo at h;split at h
 · rename_i hq
   cases ha:OV (Y6 q) L with
   |none=>rw [ha]at h;cases h
   |some a=>
    obtain ⟨x,m,h2,B,G⟩:=Rz ha;rw [ha,Lk]at h;split at h
    · rename_i h5
      rw [G]at h5 h;refine ⟨x,a.2,m,hq,h2,B,h5,?_⟩;split at h
      · rename_i h7
        cases hb:Er q (ES x) a.2 with
        |none=>rw [hb]at h;cases h
        |some b=>
         rw [hb,Lk]at h;split at h
         · rename_i h8
           injection h with h
           exact .inr ⟨h7,b.1,by rw [<-h8],h.symm⟩
         · cases h
      · rename_i h7
        rw [Lk]at h;split at h
        · rename_i h8
          injection h with h
          exact .inl ⟨h7,h8,h.symm⟩
        · cases h
    · cases h
 · cases h
def EY(rs:List AU)(q:QM):List RP:=Et rs q.tb.toNat q.cl.toNat q.lo q.hi::(if q.kd=7 then(CR rs q).map fun r=>Et rs q.ot.toNat 0 (Bj r q.bq) (Bj r q.bq)else [])
theorem Ry{rs:List AU}(m:BN rs)(hn:rs.length<=2000)(g:∀r∈rs,r.ok){q:QM}(I:0<=q.ot/\q.ot<=3):∀l:List AU,Er q l (l.map fun r=>Et rs q.ot.toNat 0 (Bj r q.bq) (Bj r q.bq))=some (l.flatMap fun r=>Dv rs q.ot 0 (Bj r q.bq) (Bj r q.bq),[])
 |[]=>rfl
 |r::l=>by
  have e:((q.ot.toNat:Nat):Int)=q.ot:=by omega
  have B:=Nn m hn g q.ot.toNat 0 A0 A0 (Bj r q.bq) (Bj r q.bq) (cT _);have h2:=Rt m hn g q.ot.toNat 0 A0 A0 (Bj r q.bq) (Bj r q.bq) (cT _)
  have G:=Ry m hn g I l;rw [e]at h2;unfold Er;rw [F2,V9 (by show(((q.ot.toNat:Nat):Int),((0:Nat):Int),_,_)=(_,_,_,_);rw [e];rfl) B,Lk];simp only [G,h2,Pr,IH]
theorem nC{f:AU->Bool}{g:AU->List AU}{y:AU}(B:∀a b,f a=true->f b=true->(∃r,a∈g r)->(∃r,b∈g r)->a=b):∀l:List AU,(∃r∈l,y∈g r)->f y=true->(l.flatMap g).find? f=some y:=fun l ⟨r,G,hy⟩ h=>by
 cases hfi:(l.flatMap g).find? f with
 |none=>exact absurd h (by simpa using nj.1 hfi y (T6.2 ⟨r,G,hy⟩))
 |some x=>
  have m:=o4 (p:=f) hfi;obtain ⟨I,_,hx⟩:=T6.1 (mw hfi);rw [B x y m h ⟨I,hx⟩ ⟨r,hy⟩]
theorem bQ(G:BN rs)(hn:rs.length<=2000)(J:∀r∈rs,r.ok)(m:BG q)(hl:(CR rs q).length<=100):Eo q (EY rs q)=some (Cf rs q):=by
 have hk:=m.2.2.2;have hc:=m.2.1
 have ht:=m.1;obtain ⟨O,h2⟩:=tg G hn J q m;have K:=qY (rs:=rs) m
 have af:(Et rs q.tb.toNat q.cl.toNat q.lo q.hi).scan=Y6 q:=by unfold RP.scan Y6;rw [K.1,K.2.1,K.2.2.1,K.2.2.2]
 unfold Eo EY;rw [B0 m,V9 af O,Lk];simp only [h2];rw [show Dv rs q.tb q.cl.toNat q.lo q.hi=CR rs q from rfl,B0 hl];by_cases B:q.kd=7
 · rw [B0 B,B0 B,Ry G hn J A0,Lk,B0 rfl]
   unfold Cf FQ;simp only [As (show¬q.kd=3 by omega),As (show¬q.kd=4 by omega),As (show¬q.kd=5 by omega),As (show¬q.kd=6 by omega),B0 B];congr 2;unfold Ig;have g:∀k x,x∈Dv rs q.ot 0 k k↔x∈rs/\x.t=q.ot/\x.k=k:=fun k x=>by
    rw [(ET rs q.ot 0 k k).mem_iff,GP];unfold inR Dk;rw [H4,B0 rfl];constructor;· rintro ⟨a,b,c,d⟩;exact ⟨a,b,by omega⟩
    · rintro ⟨a,b,c⟩;exact ⟨a,b,by omega,by omega⟩
   have X:∀r∈CR rs q,Ie q ((CR rs q).flatMap fun r=>Dv rs q.ot 0 (Bj r q.bq) (Bj r q.bq)) r=Ie q (IG rs q.ot) r:=fun r hr=>by
    unfold Ie
    suffices e:Dc q ((CR rs q).flatMap fun r=>Dv rs q.ot 0 (Bj r q.bq) (Bj r q.bq)) (Bj r q.bq)=Dc q (IG rs q.ot) (Bj r q.bq) by rw [e]
    cases hp:Dc q (IG rs q.ot) (Bj r q.bq)with
    |none=>
     unfold Dc;refine nj.2 fun x hx I=>?_;obtain ⟨r',_,hx⟩:=T6.1 hx;have U:=(g _ x).1 hx
     have W:x.t=q.ot/\x.k=Bj r q.bq:=by simpa using I
     have:=(Fj G (q:=q) (Bj r q.bq) x).2 ⟨U.1,W⟩;rw [hp]at this;cases this
    |some x=>
     have I:=(Fj G (q:=q) (Bj r q.bq) x).1 hp;unfold Dc;refine nC (fun a b ha hb ⟨r1,O⟩ ⟨r2,h2⟩=>?_) _ ⟨r,hr,(g _ x).2 ⟨I.1,I.2⟩⟩ (DO I.2);have a1:=(g _ a).1 O
     have b1:=(g _ b).1 h2;have a2:a.t=q.ot/\a.k=Bj r q.bq:=by simpa using ha
     have b2:b.t=q.ot/\b.k=Bj r q.bq:=by simpa using hb
     have a3:=(Fj G (q:=q) (Bj r q.bq) a).2 ⟨a1.1,a2⟩;have b3:=(Fj G (q:=q) (Bj r q.bq) b).2 ⟨b1.1,b2⟩
     rw [a3]at b3;injection b3
   have:∀l:List AU,(∀r∈l,Ie q ((CR rs q).flatMap fun r=>Dv rs q.ot 0 (Bj r q.bq) (Bj r q.bq)) r=Ie q (IG rs q.ot) r)->l.flatMap (Ie q ((CR rs q).flatMap fun r=>Dv rs q.ot 0 (Bj r q.bq) (Bj r q.bq)))=l.flatMap (Ie q (IG rs q.ot)):=fun l=>by
    induction l with
    |nil=>intro _;rfl
    |cons r l ih=>intro h;rw [IH,IH,h r B6,ih fun x hx=>h x (by simp [hx])]
   exact this _ X
 · rw [As B,As B,Lk,B0 rfl]
   rw [<-mh m B,Oo m];rfl
theorem xE(v:A2)(p:Int)(rs:List AU)(s:List A8)(hv:Qz v p rs s)(O:BN rs)(hn:rs.length<=2000)(B:∀r∈rs,r.ok)(t c lo hi:Int)(U:0<=t/\t<=3)(hc:0<=c/\c<=3)(m:lo<=hi)(g:AK)(G:Nat×Nat):
 BQ prog 80 #[v,I0 t,I0 c,I0 lo,I0 hi] [[(4,.cells (Ec.map Cq).toArray g G)],s] (fun r H'=>∃(z:RPZ) (mem:List A8),z.x=Et rs t.toNat c.toNat lo hi/\z.ok mem/\CX mem/\r= .tuple #[.agg #[I0 z.x.tb,I0 z.x.cl,I0 z.x.lo,I0 z.x.hi,I0 z.x.ct,I0 z.x.fi,.slice z.qr z.x.rows.length z.cr,.slice z.qp z.x.paths.length z.cp,.slice z.qt z.x.roots.length z.ct],I0 0]/\H'=[mem,[(4,.cells (Ec.map Cq).toArray g G)],s]):=by
 have h:=YR v p rs s hv O hn B t.toNat c.toNat A0 A0 lo hi m g G;rw [show((t.toNat:Nat):Int)=t by omega,show((c.toNat:Nat):Int)=c by omega]at h;refine h.mono ?_;rintro r H' ⟨W,mem,rfl,K,J,rfl⟩;obtain ⟨z,I,h2,rfl⟩:=tf K;exact ⟨z,mem,I,h2,J,V,V⟩
theorem ym(Z:List RPZ):∀u∈Z.flatMap Em,u.oneCell'=true:=by
 intro u g;obtain ⟨z,_,h⟩:=T6.1 g;unfold Em at h;simp only [Dg,T0,Sf]at h;rcases h with rfl|rfl|rfl|rfl|rfl|rfl|rfl|rfl|rfl<;>rfl
theorem wA(Z:List RPZ):(Z.flatMap Em).length=Z.length*9:=by
 induction Z with
 |nil=>rfl
 |cons z Z ih=>rw [IH,C2,ih,EV];show 9+_=_;omega
theorem SX(q:QM)(g:0<=q.bq/\q.bq<=3)(r:AU):Az prog 83 #[.agg q.A89,.agg r.A88] [] (.agg #[I0 q.ot,I0 0,I0 (Bj r q.bq),I0 (Bj r q.bq)]):=by
 refine Se func83 ntmps83 [0,1] ?_;intro u R;refine A3<|Ze (Bx q.A89)<|AF fun bq=>Ze (Bx #[_,_,_,_,_])<|AF fun B=>Ze (Al j8 #[_,_,_,_])<|AF fun m=>A5<|A3<|Zo Wh (AA (cs:=#[_,_,_,_,_]) DE B3 Y B9 (by exact Au V)) ?_;refine Zh 5 DB V rfl A6 Y<|Zl AE Y ?_;refine Xr [_,_] Y UP Y V (G5 r q.bq g) ?_;refine AH Y<|A3<|Zh 6 DB V rfl A6 Y<|Zl AE Y ?_;refine Zm Y<|Zm Y<|Zv (BM (vs:=[(0,_),(1,_),(2,_),(3,_)]) (cs:=#[_,_,_,_]) Y (Aa (pl:=#[(0,1),(1,1),(2,1),(3,1)]) j8 RE (fun _=>by kernel_rfl) rfl))<|Xe (BF cY Y Y (by(simp [Value.oneCell',Value.cells];done)) Wu (by exact D9 rfl) Fm An (by exact BA _)) ?_;refine Z0<|Zn [4] ?_;refine Zx<|AJ<|Cv V results83 Y Wh (Av isAgg169 cY Wn (Au V)) (by exact ⟨V,V⟩)
theorem zC(v:A2)(p:Int)(rs:List AU)(s:List A8)(hv:Qz v p rs s)(hs:BN rs)(hn:rs.length<=2000)(W:∀r∈rs,r.ok)(t B lo hi:Int)(ht:0<=t/\t<=3)(hc:0<=B/\B<=3)(U:lo<=hi)(I:AK)(zg:Nat×Nat)(bs J:Nat){g:B8}{G:List A8}(X:BX 9 65 (.slice g Z.length c) Z.length (Z.flatMap Em) G)(hZ:Z.length<=1000000):BQ prog 79 #[.agg #[I0 t,I0 B,I0 lo,I0 hi],I1 bs,I1 J] [[(4,.cells (Ec.map Cq).toArray I zg)],s,[(bs,.cells #[v] 117 (0,0))],[(J,.cells #[.slice g Z.length c] 40 (0,0))],G] (fun r H'=>r=undef/\∃(z:RPZ) (mem:List A8) (g:B8) (c:Nat) (G:List A8),z.x=Et rs t.toNat B.toNat lo hi/\z.ok mem/\CX mem/\BX 9 65 (.slice g (Z.length+1) c) (Z.length+1) ((Z++[z]).flatMap Em) G/\H'=[mem,G,[(4,.cells (Ec.map Cq).toArray I zg)],s,[(bs,.cells #[v] 117 (0,0))],[(J,.cells #[.slice g (Z.length+1) c] 40 (0,0))]]):=by
 have cO:=mL;obtain ⟨sp,mb,es,ck,lm,rfl,cu⟩:=id hv;refine Se func79 ntmps79 [0,1,2] ?_;intro u R;refine A3<|Ze (Bx #[_,_,_,_])<|AF fun bx=>A5<|A3<|Zl isAgg117 Y<|Zh 0 RE V rfl A6 Y<|Zl AE Y<|Zh 1 RE V rfl A6 Y<|Zl AE Y<|Zh 2 RE V rfl A6 Y<|Zl AE Y<|Zh 3 RE V rfl A6 Y<|Zl AE Y<|Zc [_,_,_,_,_] Y call80 Y V (xE _ p rs s hv hs hn W t B lo hi ht hc U I zg) ?_;rintro _ _ ⟨_,⟨z,mem,ax,af,hF,rfl,rfl⟩,rfl⟩;refine Zm Y<|Zd Y V<|Zd Y V<|Ze (Al dy #[_,_,_,_,_,_,_,_,_])<|AF fun bp=>Xe (Xw Lo #[I0 z.x.tb,I0 z.x.cl,I0 z.x.lo,I0 z.x.hi,I0 z.x.ct,I0 z.x.fi,.slice z.qr z.x.rows.length z.cr,.slice z.qp z.x.paths.length z.cp,.slice z.qt z.x.roots.length z.ct])<|B1 Y<|Zn [2,4] ?_;refine Zx<|Zg<|Zl Ly Y<|Zo Wh (AA (cs:=#[_,_,_,_,_,_,_,_,_]) dc Lo Y B9 B2)<|Ze (Ah (vs:=[_]) (cs:=[_,_,_,_,_,_,_,_,_]) N2 Lo dy Y V rfl V rfl V)<|AF fun gb=>Ze (BS (by_:=120) (sz:=9) N2 (V:Tryz.prog.info? 65=some Tryz.t65) V rfl V rfl Y (X) Y (Dn 9 gb 1 1 65 (0,0) (Em z) V) Wo Wo (by have:=ym [z];simpa using this) A0 A0) ?_;rintro _ _ ⟨bn,m,rfl⟩;obtain ⟨O,K,rfl⟩:=m.form;refine Xe (Zs J0 Y Y rfl (hi:=by(simp;done)))<|Z0<|D6 rfl results79 (by exact ⟨rfl,z,mem,O,K,bn,ax,af,hF,Bb m rfl (by rw [S0];simp),rfl⟩)
set_option maxHeartbeats 1000000 in
theorem ub(v:A2)(p:Int)(rs:List AU)(s:List A8)(hv:Qz v p rs s)(hs:BN rs)(hn:rs.length<=2000)(ic:∀r∈rs,r.ok)(q:QM)(hq:BG q)(hl:(CR rs q).length<=100)(Tg:AK)(zg:Nat×Nat):BQ prog 39 #[v,.agg q.A89] [[(4,.cells (Ec.map Cq).toArray Tg zg)],s] (fun w H'=>∃vo mem,w= .tuple #[vo,I0 0]/\Ex mem vo (EY rs q)/\CX mem/\H'=[mem,[(4,.cells (Ec.map Cq).toArray Tg zg)],s]):=by
 have ql:=mL;obtain ⟨sp,mb,es,ck,lm,rfl,qa⟩:=id hv;have gm:=hq.2.1
 have p9:=@S9 rs q.tb q.cl.toNat q.lo q.hi;have ow:0<=q.bq/\q.bq<=3:=by have:=hq.2.2.2;omega
 have p8:0<=q.ot/\q.ot<=3:=by have:=hq.2.2.2;omega
 refine Se func39 ntmps39 [0,1] ?_;intro u R;refine A3<|Ze (Bx #[_])<|AF fun bs=>Ze (Bx q.A89)<|AF fun bq=>Za Y<|D2 Y<|AP<|A3<|Zl isAgg117 Y<|Zv (BZ mA Y Y)<|AH Y<|AY Y (fun cO=>by cases cO)<|fun cO=>A3<|Zo Wh (AA (cs:=#[_,_,_,_,_,_,_]) FG D4 Y B9 B2)<|Xr [_] Y call28 Y V (JR q)<|Zv (Cz Y)<|AH Y<|AY Y (fun d9=>?_) (fun d9=>?_);·
  exfalso;simp [hq]at d9
 refine AC<|A9<|CD<|Ze (Al zeroValue40 #[_])<|AF fun bo=>A5<|A3<|Zv (Bg (vs:=[]) (us:=[_,_]) Y Y)<|B1 Y<|Zn [2,3,6,7] ?_;refine CD<|Zo Wh (AA (cs:=#[_,_,_,_,_,_,_]) FG D4 Y B9 B2)<|Xr [_] Y call81 Y V (ri q hq)<|Ze (Al j8 #[_,_,_,_])<|AF fun bx=>Xe (Xw cY #[I0 q.tb,I0 q.cl,I0 q.lo,I0 q.hi])<|A5<|A3<|Zl isAgg117 Y<|Zh 0 RE V rfl A6 Y<|Zl AE Y<|Zh 1 RE V rfl A6 Y<|Zl AE Y<|Zh 2 RE V rfl A6 Y<|Zl AE Y<|Zh 3 RE V rfl A6 Y<|Zl AE Y<|Zc [_,_,_,_,_] Y call82 Y V (jm _ p rs s hv q.tb q.cl q.lo q.hi gm) ?_;rintro _ _ ⟨_,⟨s1,h1,rfl⟩,rfl⟩;rw [show Dv rs q.tb q.cl.toNat q.lo q.hi=CR rs q from rfl]at h1 p9;obtain ⟨p1,c1,rfl⟩:=h1.form;obtain ⟨p7,pz,e7,⟨qj,q9⟩,o8⟩:=id (Db h1 A0);injection e7 with e71 e72 e73
 subst e71 e73;refine B1 Y<|Zn [3,6,7,8,9] ?_;refine Zx<|B7 Y<|Zv (AR C1 Y)<|Zv (Df (n:=100) Y Y)<|A5<|Ap Y (fun l9=>by omega)<|fun l9=>B4<|Zq<|Bc<|Zg<|Zm Y<|Zo Wh (AA (cs:=#[_,_,_,_]) isAgg169 cY Y B9 B2)<|Zc [_] Y call79 Y V (zC _ p rs s hv hs hn ic q.tb q.cl q.lo q.hi hq.1 gm hq.2.2.1.2.1 Tg zg bs bo (Z:=[]) (Bi 9 _) (C7 _)) ?_;rintro _ _ ⟨_,⟨rfl,z0,Eg,g0,c0,ax,kv,W,bn,U,rfl⟩,rfl⟩;refine A5<|Zb [3,7,9,6] ?_;refine Ch (e0:=[(3,_),(7,_),(9,_)]) (H0:=[[(bo,.cells #[.slice g0 (([]:List RPZ).length+1) c0] 40 (0,0))],ax,Eg]) (fun e H=>∃(Z:List RPZ) (g:B8) (c:Nat) (J B:List A8),(Z.map RPZ.x=EY rs q/\(∀z∈Z,z.ok B)/\BX 9 65 (.slice g Z.length c) Z.length (Z.flatMap Em) J/\Z.length<=1000/\CX B)/\e=[]/\H=[[(bo,.cells #[.slice g Z.length c] 40 (0,0))],J,B]) Wp ?hx_1 ?hy_1
 case hx_1=>
  refine A3<|Zh 0 DB V rfl A6 Y<|Zl AE Y<|Zv (CJ Y Y)<|A5<|Ap Y (fun af=>?_) (fun af=>?_);·
   refine AN Y<|Zv (AR C1 Y)<|Zm Y<|A5<|AP<|Zb [43,3,6,7,41,42] ?_;refine Ay (e0:=[(43,_)]) (fun m e H=>∃(k:Nat) (Z:List RPZ) (g:B8) (c:Nat) (J B:List A8),m=(CR rs q).length -k/\(k<=(CR rs q).length/\Z.map RPZ.x=Et rs q.tb.toNat q.cl.toNat q.lo q.hi::((CR rs q).take k).map (fun r=>Et rs q.ot.toNat 0 (Bj r q.bq) (Bj r q.bq))/\(∀z∈Z,z.ok B)/\Z.length=k+1/\BX 9 65 (.slice g Z.length c) Z.length (Z.flatMap Em) J/\CX B)/\e=[(43,I0 (k:Int))]/\H=[[(bo,.cells #[.slice g Z.length c] 40 (0,0))],J,B]) (by exact ⟨0,[z0],g0,c0,ax,Eg,rfl,⟨C7 _,by rw [MT,MY,RC,kv],fun z hz=>by rw [CH.1 hz];exact W,rfl,U,bn⟩,rfl,rfl⟩) Wp ?_;rintro _ _ _ ⟨k,Z,g,c,J,B,rfl,⟨hk,G,O,cu,I,K⟩,rfl,rfl⟩;refine A3<|Zv (Ar Y Y)<|A5<|Zq<|Ap Y (fun gy=>?_) (fun gy=>?_);·
    obtain ⟨r9,j3⟩:∃r9,(CR rs q)[k]?=some r9:=⟨_,BE gy⟩;obtain ⟨g8,off,cur,T,zz,rfl,o9,qb,gq⟩:=o8 k r9 j3;refine B4<|Zq<|AP<|A3<|Ba (AZ C1 B3 Y Y A0)<|CO (cs:=[(g8,.cells cur T zz)]) (by simp [o9]) (AA (cs:=r9.A88) DE B3 Y A0 gq) V rfl<|Ze (Al G1 #[_,_,_,_,_])<|AF fun bx=>Xe (Xw B3 r9.A88)<|A5<|Zg<|Zm Y<|Zo Wh (AA (cs:=#[_,_,_,_,_,_,_]) FG D4 Y B9 B2)<|Zo Wh (AA (cs:=#[_,_,_,_,_]) DE B3 Y B9 B2)<|Xr [_,_] Y call83 Y V (SX q ow r9)<|Zc [_] Y call79 Y V (zC _ p rs s hv hs hn ic q.ot 0 (Bj r9 q.bq) (Bj r9 q.bq) p8 A0 (cT _) Tg zg bs bo I A0) ?_;rintro _ _ ⟨_,⟨rfl,z5,X,g5,c5,pq,pg,l5,l8,j5,rfl⟩,rfl⟩;refine Z0<|A9<|Zx<|CK (s1:=X) (s2:=B) Wo Wo ?_;refine E6 Y Y Y<|DM (e:=[(43,_)]) (h:=by exact ⟨k+1,Z++[z5],g5,c5,pq,X++B,rfl,⟨by omega,by rw [CN,G,Bq j3,CN,RC,pg];rfl,fun z hz=>by rcases CI.1 hz with h9|h9;exact (O z h9).mono (fun c hc=>HC _ hc);rw [CH.1 h9];exact l5.mono (fun c hc=>Fc _ hc),by rw [C2,cu];rfl,by rw [C2];exact j5,CX.app l8 K⟩,rfl,by rw [C2]⟩)
   have ek:k=(CR rs q).length:=by omega
   subst ek;rw [HI]at G;refine BB<|Zt<|Zt<|AV<|HM (e:=[]) (h:=by exact ⟨Z,_,_,J,B,⟨by unfold EY;rw [B0 af];exact G,O,I,by omega,K⟩,rfl,rfl⟩)
  refine AC<|HM (e:=[]) (h:=by exact ⟨[z0],g0,c0,ax,Eg,⟨by unfold EY;rw [As af,RC,kv],fun z hz=>by rw [CH.1 hz];exact W,U,by simp,bn⟩,rfl,rfl⟩)
 rintro _ _ ⟨Z,g,c,J,B,⟨G,O,I,cu,K⟩,rfl,rfl⟩;refine Zq<|CK (s1:=J) (s2:=B) Wo Wo ?_;refine Zg<|Zl Ly Y<|Za Y<|Ax Y<|Di rfl results39 Y Y (by exact ⟨.slice g Z.length c,J++B,rfl,by rw [<-G];exact pW I A0 O,CX.app (EA I) K,rfl⟩)
set_option maxHeartbeats 1000000 in
theorem qL{p9:B8}{m:Nat}(hL:Ex M (.slice p9 (L.length+1) m) (x::L))(G:JK x){c lo hi:Int}(B:x.scan=(t,c,lo,hi))(U:Nat):BQ prog 139 #[I1 U,.agg #[I0 t,I0 c,I0 lo,I0 hi]] [[(U,.cells #[.slice p9 (L.length+1) m] 240 (0,0))],M] (fun r H'=>∃O,BX 5 61 r (ES x).length (Ad (ES x)) O/\H'=[O,[(U,.cells #[.slice (Eb p9 1 m 9) L.length (m -1)] 240 (0,0))],M]):=by
 have cO:=mL;obtain ⟨p8,bn,e9,W,J⟩:=hL.form;injection e9 with e91 e92 e93
 subst e91 e93;rw [EV]at W J;obtain ⟨z,ax,af,g,off,cur,T,zz,rfl,X,cu,I⟩:=hL.at (i:=0) rfl;subst ax;unfold RP.scan at B;injection B with hd1 B
 injection B with hd2 B
 injection B with hd3 hd4
 refine Se func139 ntmps139 [0,1] ?_;intro u R;refine A3<|Ze (Bx #[_,_,_,_])<|AF fun bx=>AH Y<|AN Y<|Zp Y V<|Zh 0 i6 V rfl J0 Y<|Zl Ly Y ?_;refine Zv (AR N2 Y)<|Zv (Df (n:=0) Y Y) ?_;rw [DO (show(0:Nat)<L.length+1 by omega)];refine Xr [_] Y call138 Y V (KI) ?_;refine A5<|AN Y<|Zp Y V<|Zh 0 i6 V rfl J0 Y<|Zl Ly Y ?_;refine Ba (AZ (j:=0) N2 Lo Y Y A0)<|CO (cs:=[(g,.cells cur T zz)]) (by simp [X]) (AA (cs:=#[_,_,_,_,_,_,_,_,_]) dc Lo Y A0 I) V rfl ?_;refine Ze (Al dy #[_,_,_,_,_,_,_,_,_])<|AF fun bp=>Xe (Xw Lo #[I0 z.x.tb,I0 z.x.cl,I0 z.x.lo,I0 z.x.hi,I0 z.x.ct,I0 z.x.fi,.slice z.qr z.x.rows.length z.cr,.slice z.qp z.x.paths.length z.cp,.slice z.qt z.x.roots.length z.ct]) ?_;refine Z0<|Zn [0,3,5] ?_;refine Zx<|AN Y<|Zm Y<|Zp Y V<|Zh 0 i6 V rfl J0 Y<|Zl Ly Y ?_;refine Ba (Bw (l:=1) N2 Lo Y Y A0)<|Zp Y V<|Zh 0 i6 V rfl J0 Y<|Xe (Zs J0 Y Y V (hi:=by(simp;done))) ?_;refine A5<|A3<|Zh 0 DA V rfl A6 Y<|Zl AE Y (hv:=by exact (V:_=some (Value.int .i64 z.x.tb))) ?_;refine Zh 1 DA V rfl A6 Y<|Zl AE Y (hv:=by exact (V:_=some (Value.int .i64 z.x.cl))) ?_;refine Zh 2 DA V rfl A6 Y<|Zl AE Y (hv:=by exact (V:_=some (Value.int .i64 z.x.lo))) ?_;refine Zh 3 DA V rfl A6 Y<|Zl AE Y (hv:=by exact (V:_=some (Value.int .i64 z.x.hi))) ?_;refine Zv (BM (vs:=[(0,I0 z.x.tb),(1,I0 z.x.cl),(2,I0 z.x.lo),(3,I0 z.x.hi)]) (cs:=#[I0 z.x.tb,I0 z.x.cl,I0 z.x.lo,I0 z.x.hi]) Y (Aa (pl:=#[(0,1),(1,1),(2,1),(3,1)]) j8 RE (fun _=>by kernel_rfl) AD))<|Zo Wh (AA (cs:=#[_,_,_,_]) isAgg169 cY Y B9 B2) ?_;refine Zv (Yd AD RE AD An An An An D3 AE Y Y) ?_;rw [DO (show z.x.tb=t/\z.x.cl=c/\z.x.lo=lo/\z.x.hi=hi from⟨hd1,hd2,hd3,hd4⟩)];refine Xr [_] Y call138 Y V (KI) ?_;refine Z0<|Zn [5] ?_;refine CD<|Zo Wh (AA (cs:=#[_,_,_,_,_,_,_,_,_]) dc Lo Y B9 B2) ?_;refine Zc [_] Y call187 Y V (tk af.rp G V) ?_;rintro _ _ ⟨_,⟨vr,O,rfl,K,rfl⟩,rfl⟩;obtain ⟨gr,c9,rfl⟩:=K.form
 refine Zm Y<|Zd Y V<|Zd Y V<|Za Y<|AH Y<|AN Y<|Xr [_] Y call138 Y V (KI) ?_;refine A5<|AN Y<|Ax Y<|AX V results139 Y (by exact ⟨O,K,V⟩)
theorem OP(h:JK x):(ES x).length<=2000/\∀r∈ES x,r.ok:=by
 have B:=h.ct;have h2:=h.fi
 have G:=h.n;rw [cB h];refine ⟨by have:=RW (inB x) x.rows;omega,fun r m=>?_⟩;obtain ⟨j,g⟩:=HK (GP.1 m).1;exact (h.all j r g).1.1
theorem gG{α:Type}{l:List α}{k:Nat}{x:α}(h:l[k]?=some x):l.drop k=x::l.drop (k+1):=by
 obtain ⟨g,rfl⟩:=C6.1 h;exact RT g
set_option maxHeartbeats 1000000 in
theorem WU(hL:Ex M v L)(q:QM){r:C8}(hr:Eo q L=some r):BQ prog 84 #[.agg q.A89,v] [M] (fun w H'=>∃rv sr,w= .tuple #[.agg #[rv,I0 r.val,.bool r.fnd],.bool true]/\BX 5 61 rv r.rows.length (Ad r.rows) sr/\H'=[sr,M]):=by
 have sw:=mL;obtain ⟨x,L2,rfl,hq,qb,K,p9,J⟩:=QG hr;obtain ⟨pv,cv,rfl,_⟩:=hL.form;rw [EV]at hL;rw [EV];have hT:=hL.tail
 rw [Ss]at hT;have pz:0<=q.bq/\q.bq<=3:=by have:=hq.2.2.2;omega
 refine Ct func84 V ntmps84 V ?_;intro u R;refine Zb [0,1] ?_;refine A3<|Ze (Bx q.A89)<|AF fun bq=>Ze (Al HP #[_,_,_])<|AF fun bo=>Ze (Al Wr #[_])<|AF fun bk=>A5<|A3<|Zv (Bg (vs:=[]) (us:=[_,_]) Y Y)<|lD V Y ?_;refine A5<|A3<|Xe (Zs FA Y Y V (hi:=by decide))<|A5<|A3<|eB V Y ?_;refine A5<|A3<|Zo Wh (AA (cs:=#[_,_,_,_,_,_,_]) FG D4 Y B9 B2)<|Xr [_] Y call28 Y V (JR q) ?_;rw [DO hq];refine Xr [_] Y call138 Y V (KI)<|A5<|AN Y<|Zv (BM (vs:=[(0,_)]) (cs:=#[_]) Y (Aa (pl:=#[(0,1)]) zeroValue240 i6 (fun _=>by kernel_rfl) V))<|Ze (Bx #[_])<|AF fun br=>B1 Y<|Zn [2,4,5,6] ?_;refine Zx<|AN Y<|Zo Wh (AA (cs:=#[_,_,_,_,_,_,_]) FG D4 Y B9 B2)<|Xr [_] Y call81 Y V (ri q hq)<|Zc [_,_] Y call139 Y V (qL hL K qb br) ?_;rintro _ _ ⟨_,⟨sr,kv,rfl⟩,rfl⟩;obtain ⟨gr,qy,rfl⟩:=kv.form;have gq:=Db kv A0
 obtain ⟨p7,ql,e7,⟨sj,qo⟩,p8⟩:=id gq;injection e7 with e71 e72 e73
 subst e71 e73;refine AH Y<|AN Y<|Zv (AR C1 Y)<|Zv (ku (n:=100) Y Y) ?_;rw [DO (show(ES x).length<=100 by omega)];refine Xr [_] Y call138 Y V (KI)<|A5<|Zq<|Bc<|Zg<|AH Y<|Zb [8,2,4,5,6,7] ?_;refine Ch (e0:=[(8,_)]) (H0:=[[(br,.cells #[_] 240 (0,0))],[]]) (fun e H=>∃(o:List AU) (vo:A2) (so:List A8) (pr:B8) (cr:Nat),(r=FQ q (ES x) o/\BX 5 61 vo o.length (Ad o) so/\o.length<=200000)/\e=[(8,vo)]/\H=[[(br,.cells #[.slice pr 0 cr] 240 (0,0))],so]) Wp ?hx_1 ?hy_1
 case hx_1=>
  refine A3<|Zh 0 DB V rfl A6 Y<|Zl AE Y<|Zv (CJ Y Y)<|A5<|Ap Y (fun cu=>?_) (fun cu=>?_);·
   obtain ⟨O,X,ax⟩:∃o,Er q (ES x) L2=some (o,[])/\r=FQ q (ES x) o:=by rcases J with⟨h9,_⟩|⟨_,h9⟩;exact absurd cu h9;exact h9
   refine AN Y<|Zv (AR C1 Y)<|Zm Y<|A5<|AP<|Zb [8,31,2,4,5,6,7,29,30] ?_;refine Ay (e0:=[(8,_),(31,_)]) (fun m e H=>∃(k:Nat) (o:List AU) (l9:List RP) (vo:A2) (so:List A8) (pr:B8) (cr:Nat),m=(ES x).length -k/\(k<=(ES x).length/\Er q ((ES x).take k) L2=some (o,l9)/\BX 5 61 vo o.length (Ad o) so/\Ex M (.slice pr l9.length cr) l9/\o.length<=2000*k)/\e=[(8,vo),(31,I0 (k:Int))]/\H=[[(br,.cells #[.slice pr l9.length cr] 240 (0,0))],so]) (by exact ⟨0,[],L2,.slice none 0 0,[],_,_,V,⟨C7 _,V,Bi 5 _,hT,C7 _⟩,V,V⟩) Wp ?_;rintro _ _ _ ⟨k,o,l9,vo,so,pr,cr,rfl,⟨hk,G,I,bn,sD⟩,rfl,rfl⟩;obtain ⟨go,co,rfl⟩:=I.form;refine A3<|Zv (Ar Y Y)<|A5<|Zq<|Ap Y (fun j3=>?_) (fun j3=>?_);·
    obtain ⟨r9,cO⟩:∃r9,(ES x)[k]?=some r9:=⟨_,BE j3⟩;obtain ⟨g,off,cur,T,zz,rfl,pq,qw,gy⟩:=p8 k r9 cO;obtain ⟨o8,l8,U,o9,d9,_⟩:=OU (ES x) k L2 (O,[]) A0 X;rw [G]at U;injection U with U
    injection U with h83 h84
    subst h83 h84;rw [gG cO]at d9;obtain ⟨a9,c9,gm,_,_⟩:=Lc d9;obtain ⟨x2,ic,j5,B,W⟩:=Rz gm;have pg:=(OP B).1
    have qj:=QO (ES x) k r9 L2 _ _ a9 cO G gm;rw [ic,EV];rw [ic,EV]at bn;refine B4<|Zq<|AP<|A3<|Ba (AZ C1 B3 Y Y A0)<|CO (cs:=[(g,.cells cur T zz)]) (by simp [pq]) (AA (cs:=r9.A88) DE B3 Y A0 gy) V rfl<|Ze (Al G1 #[_,_,_,_,_])<|AF fun bx=>Xe (Xw B3 r9.A88)<|A5<|Zg<|Zm Y<|Zm Y<|Zo Wh (AA (cs:=#[_,_,_,_,_,_,_]) FG D4 Y B9 B2)<|Zo Wh (AA (cs:=#[_,_,_,_,_]) DE B3 Y B9 B2)<|Xr [_,_] Y call83 Y V (SX q pz r9)<|Zc [_,_] Y call139 Y V (qL bn B j5 br) ?_;rintro _ _ ⟨_,⟨s5,h5,rfl⟩,rfl⟩;rw [<-W]at h5;obtain ⟨g5,c5,rfl⟩:=h5.form;refine Ze (BS (by_:=40) (sz:=5) C1 (rfl:Tryz.prog.info? 61=some Tryz.t61) rfl rfl rfl rfl Y (I) Y (iQ h5) Wo Wo (by exact CU _) (by rw [W];omega) (by rw [W];omega)) ?_;rintro _ _ ⟨ve,af,rfl⟩;obtain ⟨qz,qx,rfl⟩:=af.form;refine B1 Y<|Zn [2,4,5,6,7,8,29,30,31] ?_;refine A9<|Zx<|E6 Y Y Y<|DM (e:=[(8,_),(31,_)]) (h:=by exact ⟨k+1,o++a9.1,a9.2,_,_,_,_,rfl,⟨by omega,qj,Bb af (by rw [C2]) (by rw [Br]),bn.tail,by rw [C2,W];omega⟩,rfl,rfl⟩)
   have ek:k=(ES x).length:=by omega
   subst ek;rw [HI,X]at G;injection G with G
   injection G with hrd1 hrd2
   subst hrd1 hrd2;have sM:=ax
   refine BB<|Zt<|Zt<|AV<|Hx (by exact ⟨O,.slice go O.length co,so,pr,cr,⟨ax,I,by omega⟩,V,V⟩)
  obtain ⟨l5,qa⟩:L2=[]/\r=FQ q (ES x) []:=by rcases J with⟨_,h9⟩|⟨h9,_⟩;exact h9;exact absurd h9 cu
  subst l5;refine AC<|Hx (by exact ⟨[],.slice none 0 0,[],Eb pv 1 cv 9,cv -1,⟨qa,Bi 5 _,C7 _⟩,V,V⟩)
 rintro _ _ ⟨o,vo,so,pr,cr,⟨q9,I,sJ⟩,rfl,rfl⟩;obtain ⟨go,co,rfl⟩:=I.form;have ow:=Db I A0
 refine AN Y<|Zp Y V<|Zh 0 i6 V rfl J0 Y<|Zl Ly Y<|Zv (AR N2 Y)<|Zv (Bl (n:=0) Y Y) ?_;rw [DO (show(0:Nat)=0 from rfl)];refine Xr [_] Y call138 Y V (KI)<|A5<|A3<|Zo Wh (AA (cs:=#[_,_,_,_,_,_,_]) FG D4 Y B9 B2)<|Zm Y<|Zm Y<|Zc [_,_,_] Y call140 Y V (uJ gq ow q A0 (fun _ r hr=>WQ ((OP K).2 r hr) q.bq)) ?_;rintro _ _ ⟨_,⟨sO,s3,rfl,h3,rfl⟩,rfl⟩;rw [Oo hq,<-q9]at h3⊢;obtain ⟨p3,c3,rfl⟩:=h3.form;refine Xe (Xw C3 #[.slice p3 r.rows.length c3,I0 r.val,.bool r.fnd])<|Xe (Zs FA Y Y V (hi:=by decide))<|Z0<|Zn [4,5] ?_;refine Zx<|AJ<|rf V rfl call137 (A03 _) V call136 (A21 bk _) Wp ?_;rintro _ rfl;refine ⟨_,[s3,M],fun a w hf hs=>UD results84 ((Ca a _ hf 4).trans rfl) (Av E3 C3 (by exact CT _) (cs:=#[.slice p3 r.rows.length c3,I0 r.val,.bool r.fnd]) (Au rfl) w (ZP (b:=bo) Wh hs)) ((Ca a _ hf 5).trans rfl) (Yt GW (v:= .bool true) (i:=0) rfl w (ZP (b:=bk) Wh hs)),⟨_,s3,rfl,h3,rfl⟩,Sub.amid (by repeat(first|exact Sub.refl _|exact Sub.nil _|(apply Sub.cons;(focus (repeat(first|exact One.here _ _|apply One.there))))|refine Sub.drop _ ?_))⟩
end Go.Proofs.YtelliknjeemfoaaGreatDoor
