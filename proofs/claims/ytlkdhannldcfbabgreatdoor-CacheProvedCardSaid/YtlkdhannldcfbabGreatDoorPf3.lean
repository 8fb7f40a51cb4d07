/- statetree: complete, Rows. -/
import Derived.Test.YtlkdhannldcfbabGreatDoorTr7
set_option linter.unusedVariables false
set_option linter.unusedSimpArgs false
namespace Go.Proofs.YtlkdhannldcfbabGreatDoor
open Go.Proofs.Tryz
open Go Go.RowKit Gw
set_option maxRecDepth 100000
attribute [local irreducible] Gw.At Gw.Nx Gw.Ops
def J3(M:List A8)(v:A2)(ps:List (List Bs)):Prop:=∃p cap,v= .slice p ps.length cap/\(ps.length<=maxLen/\ps.length<=cap)/\∀(i:Nat) (l:List Bs),ps[i]?=some l->∃q c,Di M (.slice q l.length c) l/\∃g off cur T zz,p=some ⟨g,off,none⟩/\(g,Obj.cells cur T zz)∈M/\cur[off+i]?=some (.slice q l.length c)
def SF(M:List A8)(v:A2)(x:RP):Prop:=∃vr vp vt,v= .agg #[I4 x.tb,I4 x.cl,I4 x.lo,I4 x.hi,I4 x.ct,I4 x.fi,vr,vp,vt]/\Dp M vr x.rows/\J3 M vp x.paths/\Di M vt x.roots
variable{v:A2}
theorem Wj{e:AM}{ps:List (List Bs)}{m:List A2}{s U:List A8}(h:BU 1 e v ps.length m s)(G:Lg U m ps)(hn:ps.length<=maxLen):J3 (s++U) v ps:=by
 rcases Rg ps.length with h0|h0
 · obtain ⟨b,cap,rfl⟩:=h.form
   exact ⟨b,cap,rfl,⟨hn,by omega⟩,fun i s J=>by rw [NX h0]at J;simp at J⟩
 · obtain ⟨g,cap,cur,z,rfl,rfl,B,W⟩:=MH h h0
   refine ⟨_,cap,V,⟨hn,B⟩,fun i l I=>?_⟩;have X:=(C7.1 I).1
   obtain ⟨w,O⟩:∃w,m[i]?=some w:=⟨_,BT (by have:=G.1;omega)⟩;have K:=G.2 i w l O I
   obtain ⟨q,c,e1,Z,h2⟩:=id K;subst e1;refine ⟨q,c,K.mono (fun c h=>HK _ h),g,0,cur,e,z,V,by simp,?_⟩;rw [Dd];exact W i _ O
variable{M:List A8}
theorem J3.mono{m:List A8}{ls:List (List Bs)}(h:J3 M v ls)(B:∀c∈M,c∈m):J3 m v ls:=by
 obtain ⟨p,cap,e,J,I⟩:=h;refine ⟨p,cap,e,J,fun i s K=>?_⟩;obtain ⟨q,c,h0,g,off,cur,T,zz,e1,G,h2⟩:=I i s K;exact ⟨q,c,h0.mono B,g,off,cur,T,zz,e1,B _ G,h2⟩
theorem iC(v:A2)(p:Int)(rs:List AV)(s:List A8)(hv:RG v p rs s)(K:BM rs)(hn:rs.length<=2000)(G:∀r∈rs,r.ok)(t c:Nat)(ht:t<=3)(hc:c<=3)(lo hi:Int)(B:lo<=hi)(m:AM)(J:Nat×Nat):
 BS prog 98 #[v,I4 (t:Int),I4 (c:Int),I4 lo,I4 hi] [[(0,.cells (Dn.map CW).toArray m J)],s] (fun r H'=>∃O mem,r= .tuple #[O,I4 0]/\SF mem O (Eh rs t c lo hi)/\H'=[mem,[(0,.cells (Dn.map CW).toArray m J)],s]):=by
 have af:=mL;refine Gj (iD v p rs s hv K hn G t c ht hc lo hi B m J) V ?_;rintro r H' ⟨vr,vp,vt,I,sp,cu,mp,so,rfl,U,h2,W,X,rfl⟩;have Z:=Ih K (t:Int) c
 have bn:toT (BO rs (t:Int) c) c hi<=(BO rs (t:Int) c).length:=tG _ _;have g:=U0 (BO rs (t:Int) c) (Ca (BO rs (t:Int) c) c lo) (toT (BO rs (t:Int) c) c hi -Ca (BO rs (t:Int) c) c lo)
 have ax:(((BO rs (t:Int) c).drop (Ca (BO rs (t:Int) c) c lo)).take (toT (BO rs (t:Int) c) c hi -Ca (BO rs (t:Int) c) c lo)).length<=2000:=by rw [Cd,Cp];omega
 refine ⟨_,⟨_,I++(sp++mp)++so,V,⟨vr,vp,vt,V,?_,?_,?_⟩,V⟩,by simp⟩;· exact (Dl U A0).mono (fun c h=>G1 _ (G1 _ h))
 · exact (Wj (BZ h2 g.symm rfl) W (by rw [g];omega)).mono (fun c h=>G1 _ (HK _ h))
 · exact (Gr (BZ X (KP rs).symm rfl) (by rw [KP];omega)).mono (fun c h=>HK _ h)
def Z6(x:RP)(j:Nat)(r:AV):Prop:=r.ok/\r.t=x.tb/\(Bj r x.cl<x.lo->j=0)/\(x.hi<Bj r x.cl->x.rows.length<=j+1)
def Xb(x:RP)(q r:AV):Prop:=Bj q x.cl<Bj r x.cl\/Bj q x.cl=Bj r x.cl/\q.k<r.k
structure Jk(x:RP):Prop where
 tc:(0<=x.tb/\x.tb<4)/\0<=x.cl/\x.cl<4
 lh:x.lo<=x.hi
 ct:0<=x.ct/\x.ct<=2000
 fi:0<=x.fi/\x.fi<=x.ct
 n:(x.rows.length:Int)<=x.ct -x.fi
 none:x.rows.length=0->x.ct=0
 all:∀(j:Nat) (r:AV),x.rows[j]?=some r->Z6 x j r/\(0<j->∀q,x.rows[j -1]?=some q->Xb x q r)
 first:∀r,x.rows[0]?=some r->x.fi=0\/Bj r x.cl<x.lo
 last:∀r,x.rows[x.rows.length -1]?=some r->x.fi+(x.rows.length:Int)=x.ct\/x.hi<Bj r x.cl
noncomputable instance(x:RP):Decidable (Jk x):=Classical.propDecidable _
theorem IB{p:BE}{cap:Nat}(x:RP)(vp vt:A2)(U:Dp M (.slice p x.rows.length cap) x.rows)(hc:0<=x.cl/\x.cl<=3)(K i:Nat)(r:AV)(I:x.rows[i]?=some r):Au prog 206 #[I4 (i:Int),I5 K] [[(K,.cells #[I4 x.tb,I4 x.cl,I4 x.lo,I4 x.hi,I4 x.ct,I4 x.fi,.slice p x.rows.length cap,vp,vt] 145 (0,0))],M] (I4 (Bj r x.cl)):=by
 have Z:=mL;obtain ⟨p9,G,O,hl,W⟩:=U;injection O with e91 e92 e93
 subst e91 e93;obtain ⟨g,off,cur,T,zz,rfl,B,J,m⟩:=W i r I;have X:=(C7.1 I).1
 refine Se func206 ntmps206 [0,1] ?_;intro u R;refine A3<|CT Y<|Ay (n:=9) (0::1::0::7::15::0::32::127::255::[]) 128 AD AD V<|A1 0 V (AB (off:=6) DA V rfl E3 Y)<|Bm 1 V GP Y<|A1 2 V (AP Y)<|A1 3 V (AZ C2 B6 Y Y A0)<|Cn (b:=g) (x:= .cells cur T zz) (D':=31) 4 V rfl V (by simp [B]) (A9 (cs:=r.BM4) DM B6 Y A0 m) ?_;refine A1 5 V (AB (off:=1) DA V rfl A6 Y)<|Bm 6 V AE Y<|Yw 7 255 V (Zu [_,_] Y Up Y V (GI r x.cl hc))<|F0<|A1 8 V (BC Y)<|Aq<|Zx<|AL<|AO V results206 Y (by exact ⟨V,V⟩)
variable{x:RP}
set_option maxHeartbeats 4000000 in
theorem O9(hv:SF M v x):Au prog 124 #[v] [M] (.bool (decide (Jk x))):=by
 have ve:=mL;obtain ⟨vr,vp,vt,rfl,hR,hP,hT⟩:=hv;obtain ⟨p,cap,e9,hl,hg⟩:=id hR;subst e9;refine Se func124 ntmps124 [0] ?_;intro u R;refine A3<|Ze (Bx #[_,_,_,_,_,_,_,_,_])<|AF fun pb=>AH Y<|A3<|Zh 6 DA V rfl E3 Y<|Zl GP Y ?_;refine Zv (AR C2 Y)<|CT Y<|A3<|Zh 0 DA V rfl A6 Y<|Zl AE Y ?_;refine Zh 1 DA V rfl A6 Y<|Zl AE Y ?_;refine Xr [_,_] Y call168 Y V (Ri x.tb x.cl) ?_;refine Zv (CG Y)<|Zm Y<|Af (t:=17) Y V (fun pz=>?_) (fun pz=>?_);focus
  refine AG<|AG<|C4<|C1 Y Y<|Zm Y<|AG<|C4<|C1 Y Y<|Zm Y<|AG<|C4<|C1 Y Y<|Zm Y<|AG<|C4<|C1 Y Y<|Zm Y ?_
 rotate_left
 focus
  refine Yf 2 DA V rfl A6 Y<|Yl AE Y ?_;refine Yf 3 DA V rfl A6 Y<|Yl AE Y ?_;refine Yg (F4 Y Y)<|B9 Y Y<|Zm Y<|Af (t:=24) Y V (fun qa=>?_) (fun qa=>?_);focus
   refine AG<|C4<|C1 Y Y<|Zm Y<|AG<|C4<|C1 Y Y<|Zm Y<|AG<|C4<|C1 Y Y<|Zm Y ?_
  rotate_left
  focus
   refine Yf 4 DA V rfl A6 Y<|Yl AE Y ?_;refine Yg (Dy Y Y)<|B9 Y Y<|Zm Y<|Af (t:=29) Y V (fun qb=>?_) (fun qb=>?_);focus
    refine AG<|C4<|C1 Y Y<|Zm Y<|AG<|C4<|C1 Y Y<|Zm Y ?_
   rotate_left
   focus
    refine Yf 4 DA V rfl A6 Y<|Yl AE Y ?_;refine Yg (F4 Y Y)<|B9 Y Y<|Zm Y<|Af (t:=34) Y V (fun qh=>?_) (fun qh=>?_);focus
     refine AG<|C4<|C1 Y Y<|Zm Y ?_
    rotate_left
    focus
     refine Yf 5 DA V rfl A6 Y<|Yl AE Y ?_;refine Yg (Dy Y Y)<|B9 Y Y<|Zm Y<|Af (t:=39) Y V (fun qj=>?_) (fun qj=>?_);rotate_left;focus
      refine Yf 5 DA V rfl A6 Y<|Yl AE Y ?_;refine Yf 4 DA V rfl A6 Y<|Yl AE Y ?_;refine Yg (F4 Y Y)<|B9 Y Y<|Zm Y<|Af (t:=46) Y V (fun ql=>?_) (fun ql=>?_);focus
       refine AG<|AG<|AG<|C4<|C1 Y Y<|Z0<|Zn [1,3,54] ?_;refine Zx<|Cy Y ?_
      rotate_left
      focus
       refine Zf Y Y<|Yf 4 DA V rfl A6 Y<|Yl AE Y ?_;refine Yf 5 DA V rfl A6 Y<|Yl AE Y ?_
       (refine Gy Y (GZ Y Y (IntWalk.i64_in _ ?_)) rfl rfl ?_;(focus (first|omega|(simp;omega))))
       refine Yg (F4 Y Y)<|B9 Y Y<|Z0<|Zn [1,3,54] ?_;refine Zx<|Ak Y (fun qo=>?_) (fun qo=>?_);rotate_left;focus
        refine B3<|B8 Y<|Zv (CJ (n:=0) Y Y)<|A4<|Ak Y (fun hz=>?_) (fun hz=>?_);·
         refine A3<|Zh 4 DA V rfl A6 Y<|Zl AE Y ?_;refine Zv (CO Y Y)<|An Y<|Zt<|AO V Wf Y (by exact ⟨Hm ⟨fun B=>⟨by omega,by omega,by omega,by omega,by omega,fun _=>B,fun j r J=>by have:=(C7.1 J).1;omega,fun r J=>by have:=(C7.1 J).1;omega,fun r J=>by have:=(C7.1 J).1;omega⟩,fun B=>B.none hz⟩,V⟩)
        refine AC<|C6<|Zv (Be (vs:=[]) (us:=[_]) Y Y)<|CT Y<|A3<|Zh 6 DA V rfl E3 Y<|Zl GP Y ?_;refine Zv (AR C2 Y)<|Zm Y<|A4<|AQ<|Zb [64,1,3,4,62,63] ?_;refine Aw (e0:=[(64,_)]) (fun m e H=>∃(i:Nat),m=x.rows.length -i/\(i<=x.rows.length/\∀(j:Nat) (r:AV),j<i->x.rows[j]?=some r->Z6 x j r/\(0<j->∀q,x.rows[j -1]?=some q->Xb x q r))/\e=[(64,I4 (i:Int))]/\H=[]) (by exact ⟨0,V,⟨CM _,by intro j r J;omega⟩,V,V⟩) Wp ?_;rintro _ _ _ ⟨i,rfl,⟨hi,K⟩,rfl,rfl⟩;refine A3<|Zv (Ap Y Y)<|A4<|Zq<|Ak Y (fun p9=>?_) (fun p9=>?_);·
         obtain ⟨r,hr⟩:∃r,x.rows[i]?=some r:=⟨_,BT p9⟩;obtain ⟨g,off,cur,T,zz,rfl,sJ,sO,p8⟩:=hg i r hr;refine B3<|Zq<|AQ<|AK Y<|BX (AZ C2 B6 Y Y A0)<|Bu (cs:=[(g,.cells cur T zz)]) (by simp [sJ]) (A9 (cs:=r.BM4) DM B6 Y A0 p8) V rfl ?_;refine Ze (Al Ft #[_,_,_,_,_])<|AF fun rb=>Za Y<|Xe (Xw B6 r.BM4) ?_;refine A4<|AK Y<|Zm Y<|Xr [_] Y call206 Y V (IB x vp vt hR A0 pb i r hr) ?_;refine AH Y<|Zb [1,3,4,5,6,7,62,63,64] ?_;refine CP (e0:=[]) (H0:=[]) (fun e H=>∃(u9:Unit),(Z6 x i r)/\e=[]/\H=[]) Wp ?hx_10 ?hy_10
         case hx_10=>
          refine A3<|Zo Wh (A9 (cs:=#[_,_,_,_,_]) DM B6 Y B5 B1) ?_;refine Xr [_] Y call207 Y V (TN r) ?_;refine Zv (CG Y)<|Zm Y<|Af (t:=75) Y V (fun qw=>?_) (fun qw=>?_);·
           refine AG<|AG<|C4<|C1 Y Y<|Zm Y<|AG<|AG<|AG<|AG<|C1 Y Y<|Zm Y<|AG<|AG<|AG<|AG<|AG<|C1 Y Y<|Z0<|Zn [1,3,4,5,6,7,62,63,64,103] ?_;refine Zx<|Cy Y<|A3<|An Y<|Zt<|Ag<|Zt<|Zt<|Ag<|Zt<|AO rfl Wf Y (by exact ⟨congrArg Value.bool (DQ (fun B:Jk x=>by obtain ⟨⟨d9,ek,gm,gq⟩,_⟩:=B.all i r hr;contradiction)).symm,rfl⟩)
          refine Yf 0 HC V rfl A6 Y<|Yl AE Y ?_;refine Yf 0 DA V rfl A6 Y<|Yl AE Y ?_;refine Yg (I8 Y Y)<|B9 Y Y<|Zm Y<|Af (t:=82) Y V (fun qx=>?_) (fun qx=>?_);focus
           refine AG<|AG<|AG<|AG<|C1 Y Y<|Zm Y<|AG<|AG<|AG<|AG<|AG<|C1 Y Y<|Z0<|Zn [1,3,4,5,6,7,62,63,64,103] ?_;refine Zx<|Cy Y ?_
          rotate_left
          focus
           refine Zf Y Y<|Yf 2 DA V rfl A6 Y<|Yl AE Y ?_;refine Yg (Dy Y Y)<|Zf Y Y ?_;refine Af (t:=87) Y V (fun kv=>?_) (fun kv=>?_);focus
            refine Zf Y Y<|Yg (DX (n:=0) Y Y)<|Yg (AU Y Y)<|B9 Y Y<|Zm Y<|Af (t:=92) Y V (fun l5=>?_) (fun l5=>?_);focus
             refine AG<|AG<|AG<|AG<|AG<|C1 Y Y<|Z0<|Zn [1,3,4,5,6,7,62,63,64,103] ?_;refine Zx<|Cy Y ?_
            rotate_left
            focus
             refine Zf Y Y<|Yf 3 DA V rfl A6 Y<|Yl AE Y ?_;refine Yg (F4 Y Y)<|Zf Y Y ?_;refine Af (t:=97) Y V (fun l8=>?_) (fun l8=>?_);focus
              refine Zf Y Y<|Zf Y Y ?_
              (refine Gy Y (CQ (n:=1) Y Y ?_ ?_) rfl rfl ?_;(focus (first|omega|(simp;omega)));(focus (first|omega|(simp;omega))))
              refine Yg (Ap Y Y)<|Yg (AU Y Y)<|B9 Y Y<|Z0<|Zn [1,3,4,5,6,7,62,63,64,103] ?_;refine Zx<|Ak Y (fun l9=>?_) (fun l9=>?_);rotate_left;refine AC<|Hh (by exact ⟨(),⟨by exact HP.1 ke,by omega,fun h=>by omega,fun h=>by omega⟩,V,V⟩)
             rotate_left
             refine AG<|AG<|Yg (AJ Y Y)<|B9 Y Y<|Z0<|Zn [1,3,4,5,6,7,62,63,64,103] ?_;refine Zx<|Df Y<|AC<|Hh (by exact ⟨(),⟨by exact HP.1 ke,by omega,fun h=>by omega,fun h=>by omega⟩,V,V⟩)
           rotate_left 2
           focus
            refine AG<|Yg (AJ Y Y)<|B9 Y Y<|Zm Y<|Zf Y Y<|Yf 3 DA V rfl A6 Y<|Yl AE Y ?_;refine Yg (F4 Y Y)<|Zf Y Y ?_;refine Af (t:=97) Y V (fun o8=>?_) (fun o8=>?_);focus
             refine Zf Y Y<|Zf Y Y ?_
             (refine Gy Y (CQ (n:=1) Y Y ?_ ?_) rfl rfl ?_;(focus (first|omega|(simp;omega)));(focus (first|omega|(simp;omega))))
             refine Yg (Ap Y Y)<|Yg (AU Y Y)<|B9 Y Y<|Z0<|Zn [1,3,4,5,6,7,62,63,64,103] ?_;refine Zx<|Ak Y (fun o9=>?_) (fun o9=>?_);rotate_left;refine AC<|Hh (by exact ⟨(),⟨by exact HP.1 ke,by omega,fun h=>by omega,fun h=>by omega⟩,V,V⟩)
            rotate_left
            refine AG<|AG<|Yg (AJ Y Y)<|B9 Y Y<|Z0<|Zn [1,3,4,5,6,7,62,63,64,103] ?_;refine Zx<|Df Y<|AC<|Hh (by exact ⟨(),⟨by exact HP.1 ke,by omega,fun h=>by omega,fun h=>by omega⟩,V,V⟩)
          all_goals
           refine A3<|An Y<|Zt<|Ag<|Zt<|Zt<|Ag<|Zt<|AO rfl Wf Y (by exact ⟨congrArg Value.bool (DQ (fun B:Jk x=>by obtain ⟨⟨d9,ek,gm,gq⟩,_⟩:=B.all i r hr;omega)).symm,rfl⟩)
         rintro _ _ ⟨u9,cu,rfl,rfl⟩;refine Zq<|Ay (n:=30) (0::1::3::7::7::7::39::119::255::511::1023::1023::1023::5119::15359::32767::65535::131071::262143::131071::655359::131071::2228223::7995391::16383999::33161215::67108863::134217727::268435455::536870911::[]) 16512 AD AD V<|A1 0 V (AP Y)<|A1 1 V (DX (n:=0) Y Y)<|A1 2 V (AP Y)<|Cs (t:=106) Y (fun Z=>?_) (fun Z=>?_);·
          rw [DE Z];obtain ⟨q,hq⟩:∃q,x.rows[i -1]?=some q:=⟨_,BT A0⟩;obtain ⟨g2,sQ,bn,T2,sM,cO,pg,ic,gy⟩:=hg (i -1) q hq;injection cO with cO
          injection cO with e291 e292
          subst e291 e292;have sw:bn[off+(i -1)*5+1]?=some (I4 q.k):=by rw [Q5 gy ic 1 A0];rfl
          refine B4 3 V (AP Y)<|B4 4 V (AP Y)<|B4 5 V (AP Y) ?_
          (refine B4 6 rfl (CQ (n:=1) Y Y ?_ ?_) ?_;(focus (first|omega|(simp;omega)));(focus (first|omega|(simp;omega))))
          refine Yw 7 255 V (Zu [_] Y call206 Y V (IB x vp vt hR A0 pb (i -1) q hq))<|F0<|B4 8 V (Dy Y Y)<|B4 9 V (AP Y)<|Cs (t:=113) Y (fun j5=>?_) (fun j5=>?_);·
           rw [DE j5];refine AW 10 V<|AW 11 V<|AW 12 V<|AW 13 V<|AW 14 V<|AW 15 V<|AW 16 V<|AW 17 V<|AW 18 V<|AW 19 V<|AW 20 V<|AW 21 V<|AW 22 V<|AW 23 V<|AW 24 V<|AW 25 V<|AW 26 V<|AW 27 V<|B4 28 V (AU Y Y)<|A1 29 V (AU Y Y)<|Aq<|Zn [1,3,4,62,63,64,133] ?_;refine Zx<|Cy Y<|A3<|An Y<|Ag<|Zt<|Zt<|Ag<|Zt<|AO V Wf Y (by exact ⟨congrArg Value.bool (DQ (fun B:Jk x=>by have ha:=(B.all i r hr).2 Z q hq;unfold Xb at ha;omega)).symm,V⟩)
          rw [DQ j5];refine B4 10 V (AP Y)<|B4 11 V (AP Y)<|B4 12 V (AP Y) ?_
          (refine B4 13 rfl (CQ (n:=1) Y Y ?_ ?_) ?_;(focus (first|omega|(simp;omega)));(focus (first|omega|(simp;omega))))
          refine Yw 14 32767 V (Zu [_] Y call206 Y V (IB x vp vt hR A0 pb (i -1) q hq))<|F0<|B4 15 V (CO Y Y)<|B4 16 V (AP Y)<|Cs (t:=120) Y (fun j3=>?_) (fun j3=>?_);focus
           rw [DE j3];refine B4 17 V (AB (off:=1) HC V rfl A6 Y)<|FF 18 V Wh (BK AE Y B1) ?_;refine B4 19 V (AB (off:=6) DA V rfl E3 Y)<|FF 20 V Wh (BK GP Y B1) ?_;refine B4 21 V (AP Y) ?_
           (refine B4 22 rfl (CQ (n:=1) Y Y ?_ ?_) ?_;(focus (first|omega|(simp;omega)));(focus (first|omega|(simp;omega))))
           refine B4 23 V (AZ C2 B6 Y Y A0)<|B4 24 V (Ar (off:=1) HC V rfl A6 Y)<|SN (b:=g) (x:= .cells bn T2 sM) (D':=67108863) 25 Y V rfl V (by simp [pg]) (BK AE Y sw) ?_;refine B4 26 V (Md Y Y)<|B4 27 V (AU Y Y)<|B4 28 V (AJ Y Y)<|A1 29 V (AU Y Y)<|Aq<|Zn [1,3,4,62,63,64,133] ?_;refine Zx<|Ak Y (fun sj=>?_) (fun sj=>?_);refine A3<|An Y<|Ag<|Zt<|Zt<|Ag<|Zt<|AO V Wf Y (by exact ⟨congrArg Value.bool (DQ (fun B:Jk x=>by have ha:=(B.all i r hr).2 Z q hq;unfold Xb at ha;omega)).symm,V⟩)
          rotate_left
          focus
           rw [DQ j3];refine AW 17 V<|AW 18 V<|AW 19 V<|AW 20 V<|AW 21 V<|AW 22 V<|AW 23 V<|AW 24 V<|AW 25 V<|AW 26 V<|B4 27 V (AJ Y Y)<|B4 28 V (AJ Y Y)<|A1 29 V (AU Y Y)<|Aq<|Zn [1,3,4,62,63,64,133] ?_;refine Zx<|Df Y ?_
          all_goals
           refine AC<|AA<|Zx<|Dg Y Y Y<|Zn [64,1,3,4,62,63] ?_;refine Ac (e':=[(64,_)]) (by
            exact ⟨i+1,V,⟨by omega,fun j r9 J I=>by
             rcases Fi j i with B|B
             · exact K j r9 B I
             · obtain rfl:j=i:=A0
               rw [hr]at I;injection I with I;subst I
               refine ⟨cu,fun qz q9 af=>?_⟩
               (rw [hq]at af;injection af with af;subst af;unfold Xb;omega)⟩,rfl,rfl⟩)
         rw [DQ Z];refine AW 3 V<|AW 4 V<|AW 5 V<|AW 6 V<|AW 7 V<|AW 8 V<|AW 9 V<|AW 10 V<|AW 11 V<|AW 12 V<|AW 13 V<|AW 14 V<|AW 15 V<|AW 16 V<|AW 17 V<|AW 18 V<|AW 19 V<|AW 20 V<|AW 21 V<|AW 22 V<|AW 23 V<|AW 24 V<|AW 25 V<|AW 26 V<|AW 27 V<|AW 28 V<|A1 29 V (AJ Y Y)<|Aq<|Zn [1,3,4,62,63,64,133] ?_;refine Zx<|Df Y<|AC<|AA<|Zx<|Dg Y Y Y<|Zn [64,1,3,4,62,63] ?_;refine Ac (e':=[(64,_)]) (by
          exact ⟨i+1,V,⟨by omega,fun j r9 J I=>by
           rcases Fi j i with B|B
           · exact K j r9 B I
           · obtain rfl:j=i:=A0
             rw [hr]at I;injection I with I;subst I
             refine ⟨cu,fun qz q9 af=>?_⟩
             (exfalso;omega)⟩,rfl,rfl⟩)
        obtain ⟨r0,gQ⟩:∃r,x.rows[0]?=some r:=⟨_,BT A0⟩;obtain ⟨rl,ax⟩:∃r,x.rows[x.rows.length -1]?=some r:=⟨_,BT A0⟩;have G:Jk x↔(x.fi=0\/Bj r0 x.cl<x.lo)/\(x.fi+(x.rows.length:Int)=x.ct\/x.hi<Bj rl x.cl):=⟨fun h=>⟨h.first r0 gQ,h.last rl ax⟩,fun h=>⟨by omega,by omega,by omega,by omega,by omega,fun h0=>absurd h0 hz,fun j r J=>K j r (by have:=(C7.1 J).1;omega) J,fun r J=>by rw [gQ]at J;injection J with J;rw [<-J];exact h.1,fun r J=>by rw [ax]at J;injection J with J;rw [<-J];exact h.2⟩⟩
        refine BA<|Zt<|Zt<|AX<|Zx<|Zq<|Ay (n:=29) (0::1::3::7::15::31::15::79::255::511::1023::2047::4095::2047::16383::2047::34815::131071::262143::524287::524287::1572863::4194303::524287::8912895::33554431::67108863::134217727::268435455::[]) 4194336 AD AD V<|A1 0 V (AB (off:=5) DA V rfl A6 Y)<|Bm 1 V AE Y ?_;refine A1 2 V (CO Y Y)<|A1 3 V (AP Y)<|Cs (t:=138) Y (fun O=>?_) (fun O=>?_);focus
         rw [DE O];refine AW 4 V<|AW 5 V<|AW 6 V<|AW 7 V<|AW 8 V<|A1 9 V (AU Y Y)<|A1 10 V (AP Y)<|B4 11 V (AB (off:=5) DA V rfl A6 Y)<|FF 12 V Wh (BK AE Y B1) ?_;refine B4 13 V (AP Y) ?_
         (refine B4 14 rfl (J6 Y Y (IntWalk.i64_in _ ?_)) ?_;(focus (first|omega|(simp;omega))))
         refine B4 15 V (AB (off:=4) DA V rfl A6 Y)<|FF 16 V Wh (BK AE Y B1) ?_;refine B4 17 V (CO Y Y)<|B4 18 V (AP Y)<|Cs (t:=153) Y (fun U=>?_) (fun U=>?_);focus
          rw [DE U]
         rotate_left
         rw [DQ U];refine B4 19 V (AP Y)<|B4 20 V (AP Y) ?_
         (refine B4 21 rfl (CQ (n:=1) Y Y ?_ ?_) ?_;(focus (first|omega|(simp;omega)));(focus (first|omega|(simp;omega))))
         refine B4 23 V (AB (off:=3) DA V rfl A6 Y)<|FF 24 V Wh (BK AE Y B1) ?_;refine Yz 22 4194303 33554431 [24,16,12,1] [true,false,false,false] [(24,(_,_))] V Y V rfl V rfl (Zu [_] Y call206 Y V (IB x vp vt hR A0 pb (x.rows.length -1) rl ax))<|F0<|C3<|B4 25 V (F4 Y Y)<|B4 26 V (AJ Y Y)<|A1 27 V (AU Y Y)<|A1 28 V (BC Y)<|Aq<|Zn [2] ?_;refine Zx<|AL<|AO V Wf Y (by exact ⟨by exact Hm ⟨fun B=>G.2 ⟨by omega,by omega⟩,fun B=>by have:=G.1 B;omega⟩,V⟩)
        rotate_left
        focus
         rw [DQ O];refine B4 4 V (AP Y)<|B4 6 V (AB (off:=2) DA V rfl A6 Y)<|FF 7 V Wh (BK AE Y B1) ?_;refine Yz 5 31 255 [7,1] [true,false] [(7,(_,_))] V Y V rfl V rfl (Zu [_] Y call206 Y V (IB x vp vt hR A0 pb 0 r0 gQ))<|F0<|C3<|B4 8 V (Dy Y Y)<|A1 9 V (AJ Y Y)<|A1 10 V (AP Y)<|Cs (t:=145) Y (fun W=>?_) (fun W=>?_);focus
          rw [DE W];refine B4 11 V (AB (off:=5) DA V rfl A6 Y)<|FF 12 V Wh (BK AE Y B1) ?_;refine B4 13 V (AP Y) ?_
          (refine B4 14 rfl (J6 Y Y (IntWalk.i64_in _ ?_)) ?_;(focus (first|omega|(simp;omega))))
          refine B4 15 V (AB (off:=4) DA V rfl A6 Y)<|FF 16 V Wh (BK AE Y B1) ?_;refine B4 17 V (CO Y Y)<|B4 18 V (AP Y)<|Cs (t:=153) Y (fun X=>?_) (fun X=>?_);focus
           rw [DE X]
          rotate_left
          rw [DQ X];refine B4 19 V (AP Y)<|B4 20 V (AP Y) ?_
          (refine B4 21 rfl (CQ (n:=1) Y Y ?_ ?_) ?_;(focus (first|omega|(simp;omega)));(focus (first|omega|(simp;omega))))
          refine B4 23 V (AB (off:=3) DA V rfl A6 Y)<|FF 24 V Wh (BK AE Y B1) ?_;refine Yz 22 4194303 33554431 [24,16,12,7] [true,false,false,false] [(24,(_,_))] V Y V rfl V rfl (Zu [_] Y call206 Y V (IB x vp vt hR A0 pb (x.rows.length -1) rl ax))<|F0<|C3<|B4 25 V (F4 Y Y)<|B4 26 V (AJ Y Y)<|A1 27 V (AU Y Y)<|A1 28 V (BC Y)<|Aq<|Zn [2] ?_;refine Zx<|AL<|AO V Wf Y (by exact ⟨by exact Hm ⟨fun B=>G.2 ⟨by omega,by omega⟩,fun B=>by have:=G.1 B;omega⟩,V⟩)
         rotate_left
         rw [DQ W];refine AW 11 V<|AW 12 V<|AW 13 V<|AW 14 V<|AW 15 V<|AW 16 V<|AW 17 V<|AW 18 V<|AW 19 V<|AW 20 V<|AW 21 V<|AW 22 V<|AW 23 V<|AW 24 V<|AW 25 V<|AW 26 V<|A1 27 V (AJ Y Y)<|A1 28 V (BC Y)<|Aq<|Zn [2] ?_;refine Zx<|AL<|AO V Wf Y (by exact ⟨by exact congrArg Value.bool (DQ (fun B=>by have:=G.1 B;omega)).symm,V⟩)
        all_goals
         refine AW 19 V<|AW 20 V<|AW 21 V<|AW 22 V<|AW 23 V<|AW 24 V<|AW 25 V<|B4 26 V (AU Y Y)<|A1 27 V (AU Y Y)<|A1 28 V (BC Y)<|Aq<|Zn [2] ?_;refine Zx<|AL<|AO V Wf Y (by exact ⟨by exact congrArg Value.bool (DE (G.2 ⟨by omega,by omega⟩)).symm,V⟩)
      all_goals
       refine A3<|An Y<|Zt<|AO V Wf Y (by exact ⟨congrArg Value.bool (DQ (fun B:Jk x=>by have d9:=B.tc;have ek:=B.lh;have gm:=B.ct;have gq:=B.fi;have pq:=B.n;omega)).symm,V⟩)
 all_goals
  refine AG<|AG<|C4<|C1 Y Y<|Zm Y<|AG<|AG<|AG<|C4<|C1 Y Y<|Z0<|Zn [1,3,54] ?_;refine Zx<|Cy Y<|A3<|An Y<|Zt<|AO V Wf Y (by exact ⟨congrArg Value.bool (DQ (fun B:Jk x=>by have d9:=B.tc;have ek:=B.lh;have gm:=B.ct;have gq:=B.fi;have pq:=B.n;omega)).symm,V⟩)
def inB(x:RP)(r:AV):Bool:=decide (x.lo<=Bj r x.cl/\Bj r x.cl<=x.hi)
noncomputable def Eb(x:RP):List AV:=if Jk x then x.rows.filter (inB x)else []
theorem gP(h:Jk x):Eb x=x.rows.filter (inB x):=Ax h
theorem xQ(h:¬Jk x):Eb x=[]:=As h
variable{i:Nat}{r:AV}
theorem xg(g:x.rows[i]?=some r)(h:inB x r=true):(x.rows.take (i+1)).filter (inB x)=(x.rows.take i).filter (inB x)++[r]:=by rw [Bl g,L7];simp [h]
theorem xk(g:x.rows[i]?=some r)(h:inB x r=false):(x.rows.take (i+1)).filter (inB x)=(x.rows.take i).filter (inB x):=by rw [Bl g,L7];simp [h]
set_option maxHeartbeats 4000000 in
theorem nk(hv:SF M v x):BS prog 233 #[v] [M] (fun r H'=>∃vr sr,r= .tuple #[vr,.bool (decide (Jk x))]/\BU 5 83 vr (Eb x).length (Ae (Eb x)) sr/\H'=[sr,M]):=by
 have gy:=mL;obtain ⟨vr,vp,vt,rfl,hR,hP,hT⟩:=id hv;obtain ⟨p,cap,e9,hl,hg⟩:=id hR;subst e9;refine Se func233 ntmps233 [0] ?_;intro u R;refine A3<|Ze (Bx #[_,_,_,_,_,_,_,_,_])<|AF fun pb=>Za Y<|CT Y<|A3<|Zo Wh (A9 (cs:=#[_,_,_,_,_,_,_,_,_]) RT Hj Y B5 B1)<|Xr [_] Y call124 Y V (O9 hv)<|Zv (CG Y)<|A4<|Ak Y (fun B=>?_) (fun B=>?_);·
  refine Bc<|A3<|Za Y<|An Y<|Zt<|DR rfl results233 Y Y (by exact ⟨.slice none 0 0,[],by rw [DQ B],by rw [xQ B];exact Bh 5 _,rfl⟩)
 have B:=HP.1 B;have cO:=B.tc
 have d9:=B.ct;have ek:=B.n
 have gm:=B.fi;refine AC<|C6<|CT Y<|A3<|Zh 6 DA V rfl E3 Y<|Zl GP Y<|Zv (AR C2 Y)<|Zm Y<|A4<|AQ<|Bc<|Zb [4,14,1,12,13] ?_;refine Aw (e0:=[(4,_),(14,_)]) (fun m e H=>∃(i:Nat) (vo:A2) (W:List A8),m=x.rows.length -i/\(i<=x.rows.length/\BU 5 83 vo ((x.rows.take i).filter (inB x)).length (Ae ((x.rows.take i).filter (inB x))) W)/\e=[(4,vo),(14,I4 (i:Int))]/\H=[W]) (by exact ⟨0,.slice none 0 0,[],rfl,⟨CM _,by rw [JT];exact Bh 5 _⟩,rfl,rfl⟩) Wp ?_;rintro _ _ _ ⟨i,vo,W,rfl,⟨hi,I⟩,rfl,rfl⟩;obtain ⟨qo,co,rfl⟩:=I.form;have gq:((x.rows.take i).filter (inB x)).length<=i:=SZ (Tl _ _) (List.length_take_le _ _)
 refine A3<|Zv (Ap Y Y)<|A4<|Zq<|Ak Y (fun O=>?_) (fun O=>?_);·
  obtain ⟨r,U⟩:∃r,x.rows[i]?=some r:=⟨_,BT O⟩;obtain ⟨g,off,cur,T,zz,rfl,af,ax,K⟩:=hg i r U;refine B3<|Zq<|AQ<|A3<|BX (AZ C2 B6 Y Y A0)<|Bu (cs:=[(g,.cells cur T zz)]) (by simp [af]) (A9 (cs:=r.BM4) DM B6 Y A0 K) V rfl<|Ze (Al Ft #[_,_,_,_,_])<|AF fun rb=>Xe (Xw B6 r.BM4)<|A4<|A3<|Zo Wh (A9 (cs:=#[_,_,_,_,_]) DM B6 Y B5 B1)<|Zh 1 DA V rfl A6 Y<|Zl AE Y<|Xr [_,_] Y Up Y V (GI r x.cl A0)<|AH Y<|AK Y<|Zh 2 DA V rfl A6 Y<|Zl AE Y<|Zv (Ga Y Y)<|Zm Y<|Af (t:=26) Y V (fun X=>?_) (fun X=>?_);focus
   refine Zf Y Y<|Yf 3 DA V rfl A6 Y<|Yl AE Y<|Yg (Md Y Y)<|C1 Y Y<|Z0<|Zn [1,4,6,12,13,14,31] ?_;refine Zx<|Ak Y (fun Z=>?_) (fun Z=>?_);·
    have G:inB x r=true:=DE A0;refine Zg<|Zm Y<|Zo Wh (A9 (cs:=#[_,_,_,_,_]) DM B6 Y B5 B1)<|Ze (Ah (vs:=[_]) (cs:=[_,_,_,_,_]) C2 B6 Ft Y V rfl V rfl V)<|AF fun gb=>Ze (BP (by_:=40) (sz:=5) C2 (V:Tryz.prog.info? 83=some Tryz.t83) V rfl V rfl Y (I) Y (Cu 5 gb 1 1 83 (0,0) [I4 r.t,I4 r.k,I4 r.v.a,I4 r.v.b,I4 r.v.c] V) Wo Wo HO A0 A0) ?_;rintro _ _ ⟨gQ,J,rfl⟩;obtain ⟨cu,bn,rfl⟩:=J.form;refine B2 Y<|AA<|Zx<|Dg Y Y Y<|DG (e:=[(4,_),(14,_)]) (h:=by exact ⟨i+1,_,_,rfl,⟨by omega,BZ J (by rw [xg U G,C0];rfl) (by rw [xg U G,Bt];rfl)⟩,rfl,rfl⟩)
   focus
    have G:inB x r=false:=DQ A0
  rotate_left
  focus
   have G:inB x r=false:=DQ A0;refine AG<|AG<|B9 Y Y<|Z0<|Zn [1,4,6,12,13,14,31] ?_;refine Zx<|Df Y ?_
  all_goals
   refine AC<|AA<|Zx<|Dg Y Y Y<|DG (e:=[(4,_),(14,_)]) (h:=by exact ⟨i+1,_,W,rfl,⟨by omega,BZ I (by rw [xk U G]) (by rw [xk U G])⟩,rfl,rfl⟩)
 have ei:i=x.rows.length:=by omega
 subst ei;rw [HE]at I⊢;refine BA<|Zt<|Zt<|AX<|Zx<|AK Y<|Za Y<|An Y<|DR rfl results233 Y Y (by exact ⟨.slice qo _ co,W,by rw [DE B],by rw [gP B];exact I,rfl⟩)
structure QG(root:Bs)(x:RP):Prop where
 comp:Jk x
 n16:x.roots.length=16
 np:x.paths.length=x.rows.length
 root:DN x.roots=root
 sum:∃d:Bs,d.length=32/\x.roots[4*x.tb.toNat+x.cl.toNat]?=some (R6 x.ct++d)/\(x.ct=0->d=DN [])/\
  (x.ct≠0->∀(k:Nat) (r:AV) (pf:List Bs),x.rows[k]?=some r->x.paths[k]?=some pf->VF d x.ct.toNat (x.fi.toNat+k) (Mt r) pf=true)
noncomputable instance(root:Bs)(x:RP):Decidable (QG root x):=Classical.propDecidable _
theorem KN{root:Bs}(h:¬QG root x):Value.bool false=Value.bool (decide (QG root x)):=congrArg Value.bool (DQ h).symm
theorem PP{a b:Bs}(h:str a=str b):a=b:=by rw [<-Ib a,<-Ib b,h]
theorem ur(a b:Bs):(str (a++b)).extract 0 (str a).size=str a:=by
 apply ByteArray.ext;rw [rn,D5];simp [str]
theorem A10(a b:Bs):(str (a++b)).extract (str a).size (str (a++b)).size=str b:=by
 apply ByteArray.ext;rw [rn,D5,D5];simp [str]
theorem xV{s n:Bs}(h:(str s).extract 0 (str n).size=str n):∃d,s=n++d:=by
 have g:((str s).extract 0 (str n).size).data.toList=n:=by rw [h,Ib]
 rw [rn,D5]at g;refine ⟨s.drop n.length,?_⟩;conv=>lhs;rw [<-LO n.length s]
 congr 1;simp [str]at g;exact g
theorem fo(M:List A8):Di M (.slice none 0 0) []:=⟨none,0,rfl,⟨by simp,by simp⟩,by intro i s h;simp at h⟩
theorem YI{n:Int}(h:0<=n):∃k:Nat,n=(k:Int):=⟨n.toNat,by omega⟩
set_option maxHeartbeats 4000000 in
theorem Xn(hv:SF M v x)(U:∀s∈x.roots,s.length<=140737488354000)(Z:∀l∈x.paths,l.length<=1000000)(root:Bs)(Tg:AM)(zg:Nat×Nat):Au prog 60 #[.string (str root),v] [[(0,.cells (Dn.map CW).toArray Tg zg)],M] (.bool (decide (QG root x))):=by
 have zh:=mL;obtain ⟨vr,vp,vt,rfl,hR,hP,hT⟩:=id hv;obtain ⟨p,cap,e9,hl,hg⟩:=id hR;subst e9;obtain ⟨p3,vz,pg,zb,qw⟩:=id hP;subst pg;obtain ⟨p4,wo,pq,zf,qx⟩:=id hT;subst pq;refine Se func60 ntmps60 [0,1] ?_;intro u R;refine A3<|Ze (Bx #[_,_,_,_,_,_,_,_,_])<|AF fun pb=>CT Y<|A3<|Zo Wh (A9 (cs:=#[_,_,_,_,_,_,_,_,_]) RT Hj Y B5 B1) ?_;refine Xr [_] Y call124 Y V (O9 hv) ?_;refine Zv (CG Y)<|Zm Y<|Af (t:=16) Y V (fun K=>?_) (fun K=>?_);focus
  refine AG<|AG<|C1 Y Y<|Zm Y<|AG<|AG<|AG<|C4<|C1 Y Y<|Zm Y ?_
 rotate_left
 focus
  refine Yf 8 DA V rfl Hc Y<|Yl ID Y ?_;refine Yg (AR DO Y)<|Yg (Cm (n:=16) Y Y)<|B9 Y Y<|Zm Y<|Af (t:=22) Y V (fun kv=>?_) (fun kv=>?_);focus
   refine AG<|AG<|AG<|C4<|C1 Y Y<|Zm Y ?_
  rotate_left
  focus
   refine Yf 7 DA V rfl T0 Y<|Yl cy Y ?_;refine Yg (AR My Y)<|Yf 6 DA V rfl E3 Y<|Yl GP Y ?_;refine Yg (AR C2 Y)<|Yg (Cm Y Y)<|B9 Y Y<|Zm Y<|Af (t:=31) Y V (fun l5=>?_) (fun l5=>?_);rotate_left;refine Yf 8 DA V rfl Hc Y<|Yl ID Y ?_;refine Xr [_] Y call30 Y V (JL hT A0 U Tg zg) ?_;refine Zf Y Y<|Yg (Qq Y Y)<|B9 Y Y<|Z0<|Zn [3,37] ?_;refine Zx<|Ak Y (fun gq=>?_) (fun gq=>?_);·
    refine A3<|An Y<|Zt<|AO rfl fX Y (by exact ⟨KN (fun G=>by have pz:=G.comp;have q9:=G.n16;have qa:=G.np;have j5:=G.root;exact gq (by rw [j5])),rfl⟩)
   have K:=HP.1 K;obtain ⟨⟨⟨sM,zm⟩,qb,y9⟩,_,⟨sw,zi⟩,⟨ql,za⟩,zk,_⟩:=id K;obtain ⟨tn,sO⟩:=YI sM;obtain ⟨cn,qh⟩:=YI qb;obtain ⟨nn,O⟩:=YI sw;obtain ⟨fn,qo⟩:=YI ql;obtain ⟨s9,J⟩:∃s,x.roots[4*tn+cn]?=some s:=⟨_,BT A0⟩;have cu:DN x.roots=root:=PP (HP.1 gq)
   rw [sO,qh,O,qo];obtain ⟨g4,x9,ic,T4,vo,rfl,sj,l9⟩:=qx _ s9 J;have yt:=Kq (nn:Int) A0 A0
   have sJ:=D5 s9;have p9:=D5 (R6 (nn:Int))
   have zl:=U s9 (Ek J);have I:4*x.tb.toNat+x.cl.toNat=4*tn+cn:=by omega
   refine AC<|C6<|Zh 4 DA V rfl A6 Y<|Zl AE Y ?_;refine Xr [_] Y call83 Y V (MX (nn:Int) A0 A0) ?_;refine Zm Y<|Zd Y V<|Zd Y V<|Za Y<|AH Y<|A3<|Zh 8 DA V rfl Hc Y<|Zl ID Y ?_;refine Zh 0 DA V rfl A6 Y<|Zl AE Y ?_;refine BX (Em (m:=4) Y Y (by first|omega|(simp;omega)))<|Zh 1 DA rfl rfl A6 Y<|Zl AE Y ?_;refine BX (EP Y Y (by first|omega|(simp;omega)))<|BX (Bg DO FG Y Y Q2)<|Bu (cs:=[(g4,.cells ic T4 vo)]) (by simp [sj]) (BK H3 Y l9) rfl rfl ?_;refine B2 Y<|Zn [3,5,7] ?_;refine Zx<|B8 Y<|Zv (GL GW Y)<|Zm Y<|Zv (GL GW Y)<|Ya (n:=32) Y Y<|Zv (Cm Y Y)<|Zm Y<|Af (t:=60) Y V (fun gy=>?_) (fun gy=>?_);·
    refine AG<|AG<|AG<|C1 Y Y<|Z0<|Zn [3,5,7,67] ?_;refine Zx<|Cy Y<|A3<|An Y<|Zt<|AO rfl fX Y (by exact ⟨KN (fun G=>by obtain ⟨d,hd,B,_⟩:=G.sum;rw [I,J,O]at B;injection B with B;subst B;exact gy (by rw [sJ,p9,C0,hd])),rfl⟩)
   refine Zf Y Y<|Zf Y Y<|Yg (GL GW Y) ?_;refine Gy Y (U8 GW Y Y A0) V rfl ?_;refine Zf Y Y<|Yg (Qq Y Y)<|B9 Y Y<|Z0<|Zn [3,5,7,67] ?_;refine Zx<|Ak Y (fun gm=>?_) (fun gm=>?_);·
    refine A3<|An Y<|Zt<|AO rfl fX Y (by exact ⟨KN (fun G=>by obtain ⟨d,hd,B,_⟩:=G.sum;rw [I,J,O]at B;injection B with B;subst B;exact gm (ur _ _)),rfl⟩)
   obtain ⟨d9,rfl⟩:=xV (HP.1 gm);have bn:d9.length=32:=by rw [p9,D5,C0]at gy;omega
   refine B3<|AK Y<|Zm Y<|Zv (GL GW Y)<|BX (Qm GW Y Y (by rw [D5,D5,C0];omega))<|CT Y<|Zq ?_;rw [A10];refine Zg<|Zh 4 DA V rfl A6 Y<|Zl AE Y ?_;refine Zv (CJ (n:=0) Y Y)<|A4<|Ak Y (fun hz=>?_) (fun hz=>?_);·
    refine AK Y<|Xr [_] Y call30 Y V (JL (fo M) B7 B7 Tg zg) ?_;refine Zv (NU Y Y)<|An Y<|Zt<|AO rfl fX Y (by exact ⟨Hm ⟨fun G=>⟨K,by omega,by omega,cu,d9,bn,by rw [I,J,O],fun _=>PP G,fun h0=>by omega⟩,fun G=>by obtain ⟨d,hd,B,cO,_⟩:=G.sum;rw [I,J,O]at B;injection B with B;rw [List.append_cancel_left B,cO A0]⟩,rfl⟩)
   refine B3<|Zq<|A3<|Zh 6 DA V rfl E3 Y<|Zl GP Y ?_;refine Zv (AR C2 Y)<|Zm Y<|A4<|AQ<|Zb [81,3,8,79,80] ?_;refine Aw (e0:=[(81,_)]) (fun m e H=>∃(k:Nat),m=x.rows.length -k/\(k<=x.rows.length/\∀(j:Nat) (r:AV) (pf:List Bs),j<k->x.rows[j]?=some r->x.paths[j]?=some pf->VF d9 nn (fn+j) (Mt r) pf=true)/\e=[(81,I4 (k:Int))]/\H=[]) (by exact ⟨0,V,⟨CM _,by intro j r pf hj;omega⟩,V,V⟩) Wp ?_;rintro _ _ _ ⟨k,rfl,⟨hk,ax⟩,rfl,rfl⟩;refine A3<|Zv (Ap Y Y)<|A4<|Zq<|Ak Y (fun o8=>?_) (fun o8=>?_);·
    obtain ⟨r,hr⟩:∃r,x.rows[k]?=some r:=⟨_,BT o8⟩;obtain ⟨g,off,cur,T,zz,rfl,o9,wz,ek⟩:=hg k r hr;obtain ⟨pf,af⟩:∃pf,x.paths[k]?=some pf:=⟨_,BT A0⟩;obtain ⟨q6,c6,sQ,g6,y5,j3,T6,vw,rfl,qz,l8⟩:=qw k pf af;have p8:=(K.all k r hr).1.1
    refine B3<|Zq<|AQ<|AK Y<|BX (AZ C2 B6 Y Y A0)<|Bu (cs:=[(g,.cells cur T zz)]) (by simp [o9]) (A9 (cs:=r.BM4) DM B6 Y A0 ek) V rfl ?_;refine Ze (Al Ft #[_,_,_,_,_])<|AF fun rb=>Za Y<|Xe (Xw B6 r.BM4) ?_;refine A4<|A3<|Zo Wh (A9 (cs:=#[_,_,_,_,_]) DM B6 Y B5 B1) ?_;refine Xr [_] Y call125 Y V (WG r p8) ?_;refine Zm Y<|Zd Y V<|Zd Y V<|Za Y<|B2 Y<|Zn [3,8,9,11,79,80,81] ?_;refine Zx<|Zq<|Ay (n:=15) (0::0::2::0::8::0::56::0::0::256::0::1792::3840::8191::16383::[]) 8192 AD AD V<|A1 0 V (AP Y)<|A1 1 V (AB (off:=4) DA V rfl A6 Y)<|Bm 2 V AE Y ?_;refine A1 3 V (AB (off:=5) DA V rfl A6 Y)<|Bm 4 V AE Y ?_;refine A1 5 rfl (AP Y)<|A1 6 rfl (EP Y Y (by first|omega|(simp;omega)))<|A1 7 rfl (AP Y)<|A1 8 rfl (AB (off:=7) DA rfl rfl T0 Y)<|Bm 9 rfl cy Y ?_;refine A1 10 rfl (AP Y)<|A1 11 rfl (Bg My Hc Y Y Q2)<|Cn (b:=g6) (x:= .cells j3 T6 vw) (D':=8191) 12 rfl rfl rfl (by simp [qz]) (BK ID Y l8) ?_;refine Yw 13 16383 V (Zu [_,_,_,_,_] Y call126 Y V (ZJ sQ (Z pf (Ek af)) d9 (Mt r) (by have:=Ur p8;omega) nn (fn+k) A0 A0 Tg zg))<|F0<|A1 14 V (Bo Y)<|Aq<|Zn [3,8,79,80,81,105] ?_;refine Zx<|AY Y (fun gQ=>?_) (fun gQ=>?_);·
     refine A3<|An Y<|Ag<|Zt<|Zt<|Ag<|Zt<|AO rfl fX Y (by exact ⟨KN (fun G=>by obtain ⟨d,hd,B,_,qj⟩:=G.sum;rw [I,J,O]at B;injection B with B;have cO:=List.append_cancel_left B;have h5:=qj A0 k r pf hr af;rw [<-cO,show x.ct.toNat=nn by omega,show x.fi.toNat=fn by omega]at h5;simp [h5]at gQ),rfl⟩)
    refine AC<|AA<|Zx<|Dg Y Y Y<|Zn [81,3,8,79,80] ?_;refine Ac (e':=[(81,_)]) (by
     exact ⟨k+1,V,⟨by omega,fun j r9 ve hj X W=>by
      rcases Fi j k with G|G
      · exact ax j r9 ve G X W
      · obtain rfl:j=k:=A0
        rw [hr]at X;injection X with X;subst X
        rw [af]at W;injection W with W;subst W
        simpa using gQ⟩,rfl,rfl⟩)
   refine BA<|Zt<|Zt<|AX<|C6<|An Y<|AO rfl fX Y (by exact ⟨congrArg Value.bool (DE (show QG root x from⟨K,by omega,by omega,cu,d9,bn,by rw [I,J,O],fun h0=>by omega,fun h0 j r pf hj hp=>by rw [show x.ct.toNat=nn by omega,show x.fi.toNat=fn by omega];exact ax j r pf (by have:=(C7.1 hj).1;omega) hj hp⟩)).symm,rfl⟩)
 all_goals
  refine AG<|AG<|C4<|C1 Y Y<|Z0<|Zn [3,37] ?_;refine Zx<|Cy Y<|A3<|An Y<|Zt<|AO V fX Y (by exact ⟨KN (fun G=>by have pz:=G.comp;have q9:=G.n16;have qa:=G.np;have j5:=G.root;contradiction),V⟩)
variable{vb va:A2}
theorem dY{a b:List Bs}(ha:Di M va a)(hb:Di M vb b):Au prog 218 #[va,vb] [M] (.bool (decide (a=b))):=by
 have gy:=mL;obtain ⟨pa,ca,rfl,gm,W⟩:=ha;obtain ⟨pb,cb,rfl,gq,X⟩:=hb;refine Se func218 ntmps218 [0,1] ?_;intro u R;refine A3<|AH Y<|B8 Y<|Zv (AR DO Y)<|Zm Y<|Zv (AR DO Y)<|Zv (Cm Y Y)<|A4<|Ak Y (fun K=>?_) (fun K=>?_);·
  refine A3<|An Y<|Zt<|AO rfl results218 Y (by exact ⟨EX (fun e=>K (by rw [e])),rfl⟩)
 have Z:a.length=b.length:=by omega
 refine B3<|B8 Y<|Zv (AR DO Y)<|Zm Y<|A4<|AQ<|Zb [13,0,1,12] ?_;refine Aw (e0:=[(13,_)]) (fun m e H=>∃(i:Nat),m=a.length -i/\(i<=a.length/\∀j,j<i->a[j]?=b[j]?)/\e=[(13,I4 (i:Int))]/\H=[]) (by exact ⟨0,V,⟨CM _,by intro j hj;omega⟩,V,V⟩) Wp ?_;rintro _ _ _ ⟨i,rfl,⟨hi,g⟩,rfl,rfl⟩;refine A3<|Zv (Ap Y Y)<|A4<|Zq<|Ak Y (fun af=>?_) (fun af=>?_);·
  obtain ⟨x,hx⟩:∃x,a[i]?=some x:=⟨_,BT A0⟩;obtain ⟨y,hy⟩:∃y,b[i]?=some y:=⟨_,BT A0⟩;obtain ⟨g1,d9,B,T1,cu,rfl,ax,I⟩:=W i x hx;obtain ⟨g2,ek,G,T2,cO,rfl,bn,J⟩:=X i y hy;refine B3<|Zq<|AQ<|AK Y<|CT Y<|Ay (n:=9) (0::0::3::7::0::0::48::112::255::[]) 0 AD AD V<|A1 0 V (AP Y)<|A1 1 V (AP Y)<|A1 2 V (Bg DO FG Y Y A0)<|Cn (b:=g1) (x:= .cells B T1 cu) (D':=15) 3 V rfl V (by simp [ax]) (BK H3 Y I) ?_;refine A1 4 V (AP Y)<|A1 5 V (AP Y)<|A1 6 V (Bg DO FG Y Y A0)<|Cn (b:=g2) (x:= .cells G T2 cO) (D':=255) 7 V rfl V (by simp [bn]) (BK H3 Y J) ?_;refine A1 8 V (Qq Y Y)<|Aq<|Zx<|Ak Y (fun O=>?_) (fun O=>?_);·
   refine A3<|B2 Y<|Zn [4] ?_;refine Zx<|AL<|Ag<|Zt<|Zt<|Ag<|Zt<|AO rfl results218 Y (by exact ⟨EX (fun e=>by rw [e,hy]at hx;injection hx with hx;exact O (by rw [hx])),rfl⟩)
  have U:x=y:=PP (HP.1 O);refine AC<|AA<|Zx<|Dg Y Y Y<|HJ (by exact ⟨i+1,rfl,⟨by omega,fun j hj=>by rcases Fi j i with h9|h9;exact g j h9;obtain rfl:j=i:=A0;rw [hx,hy];exact congrArg some U⟩,rfl,rfl⟩)
 refine BA<|Zt<|Zt<|AX<|C6<|An Y<|AO V results218 Y (by exact ⟨Ko (Nb Z (fun j hj=>g j A0)),V⟩)
theorem aC{a b:RP}:a=b↔a.paths=b.paths/\(a.tb=b.tb/\a.cl=b.cl/\a.lo=b.lo/\a.hi=b.hi/\a.ct=b.ct/\a.fi=b.fi)/\a.rows=b.rows/\a.roots=b.roots:=by
 obtain ⟨U,W,X,Z,a5,a6,a7,a8,a9⟩:=a;obtain ⟨b1,b2,b3,b4,b5,b6,b7,b8,b9⟩:=b;simp only [RP.mk.injEq];constructor;· rintro ⟨g,h2,m,B,G,I,J,K,O⟩;exact ⟨K,⟨g,h2,m,B,G,I⟩,J,O⟩
 · rintro ⟨K,⟨g,h2,m,B,G,I⟩,J,O⟩;exact ⟨g,h2,m,B,G,I,J,K,O⟩
theorem gL{a b:List Bs}(g:Di M va a)(m:Di M vb b):Au prog 217 #[va,vb] [M] (.bool (decide (a=b))):=by
 refine Se func217 ntmps217 [0,1] ?_;intro u R;refine A3<|AH Y<|AK Y<|Zm Y<|Xr [_,_] Y call218 Y V (dY g m)<|An Y<|AO V results217 Y (by exact ⟨V,V⟩)
theorem AA5{a b:List (List Bs)}(ha:J3 M va a)(hb:J3 M vb b):Au prog 284 #[va,vb,.func (.func 217) #[] #[]] [M] (.bool (decide (a=b))):=by
 have ic:=mL;obtain ⟨pa,ca,rfl,gy,W⟩:=ha;obtain ⟨pb,cb,rfl,gQ,X⟩:=hb;refine Se func284 ntmps284 [0,1,2] ?_;intro u R;refine A3<|AH Y<|B8 Y<|Zv (AR My Y)<|Zm Y<|Zv (AR My Y)<|Zv (Cm Y Y)<|A4<|Ak Y (fun K=>?_) (fun K=>?_);·
  refine A3<|An Y<|Zt<|AO rfl results284 Y (by exact ⟨EX (fun e=>K (by rw [e])),rfl⟩)
 have Z:a.length=b.length:=by omega
 refine B3<|B8 Y<|Zv (AR My Y)<|Zm Y<|A4<|AQ<|Zb [17,1,2,15,16] ?_;refine Aw (e0:=[(17,_)]) (fun m e H=>∃(i:Nat),m=a.length -i/\(i<=a.length/\∀j,j<i->a[j]?=b[j]?)/\e=[(17,I4 (i:Int))]/\H=[]) (by exact ⟨0,V,⟨CM _,by intro j hj;omega⟩,V,V⟩) Wp ?_;rintro _ _ _ ⟨i,rfl,⟨hi,g⟩,rfl,rfl⟩;refine A3<|Zv (Ap Y Y)<|A4<|Zq<|Ak Y (fun af=>?_) (fun af=>?_);·
  obtain ⟨x,hx⟩:∃x,a[i]?=some x:=⟨_,BT A0⟩;obtain ⟨y,hy⟩:∃y,b[i]?=some y:=⟨_,BT A0⟩;obtain ⟨q1,c1,cu,g1,gm,B,T1,d9,rfl,ax,I⟩:=W i x hx;obtain ⟨q2,c2,cO,g2,gq,G,T2,ek,rfl,bn,J⟩:=X i y hy;refine B3<|Zq<|AQ<|AK Y<|BX (Bg My Hc Y Y A0)<|Bu (cs:=[(g1,.cells B T1 d9)]) (by simp [ax]) (BK ID Y I) V rfl<|Za Y<|AH Y<|AK Y<|Zm Y<|BX (Bg My Hc Y Y A0)<|Bu (cs:=[(g2,.cells G T2 ek)]) (by simp [bn]) (BK ID Y J) V rfl<|AH Y<|AK Y<|Zm Y<|Zm Y<|Xr [_,_] Y call217 Y V (gL cu cO)<|Zv (CG Y)<|Z0<|Zn [1,2,15,16,17,30] ?_;refine Zx<|Ak Y (fun O=>?_) (fun O=>?_);·
   refine A3<|An Y<|Ag<|Zt<|Zt<|Ag<|Zt<|AO rfl results284 Y (by exact ⟨EX (fun e=>by rw [e,hy]at hx;injection hx with hx;exact O hx.symm),rfl⟩)
  have U:x=y:=HP.1 O;refine AC<|AA<|Zx<|Dg Y Y Y<|HJ (by exact ⟨i+1,rfl,⟨by omega,fun j hj=>by rcases Fi j i with h9|h9;exact g j h9;obtain rfl:j=i:=A0;rw [hx,hy];exact congrArg some U⟩,rfl,rfl⟩)
 refine BA<|Zt<|Zt<|AX<|C6<|An Y<|AO V results284 Y (by exact ⟨Ko (Nb Z (fun j hj=>g j A0)),V⟩)
theorem kU{a b:List (List Bs)}(g:J3 M va a)(m:J3 M vb b):Au prog 216 #[va,vb,.func (.func 217) #[] #[]] [M] (.bool (decide (a=b))):=by
 refine Se func216 ntmps216 [0,1,2] ?_;intro u R;refine A3<|AH Y<|AK Y<|Zm Y<|Zm Y<|Xr [_,_,_] Y call284 Y V (AA5 g m)<|An Y<|AO V results216 Y (by exact ⟨V,V⟩)
theorem Wz(x:RP)(m g B:A2):Au prog 215 #[.agg #[I4 x.tb,I4 x.cl,I4 x.lo,I4 x.hi,I4 x.ct,I4 x.fi,m,g,B]] [] (.agg #[I4 x.tb,I4 x.cl,I4 x.lo,I4 x.hi,I4 x.ct,I4 x.fi]):=by
 refine Se func215 ntmps215 [0] ?_;intro u R;refine A3<|Ze (Bx #[_,_,_,_,_,_,_,_,_])<|AF fun G=>Ze (Al zeroValue81 #[_,_,_,_,_,_])<|AF fun I=>A4<|A3<|Zh 0 DA V rfl A6 Y<|Zl AE Y<|Zh 1 DA V rfl A6 Y<|Zl AE Y<|Zh 2 DA V rfl A6 Y<|Zl AE Y<|Zh 3 DA V rfl A6 Y<|Zl AE Y<|Zh 4 DA V rfl A6 Y<|Zl AE Y<|Zh 5 DA V rfl A6 Y<|Zl AE Y<|Zv (BN (vs:=[(0,I4 x.tb),(1,I4 x.cl),(2,I4 x.lo),(3,I4 x.hi),(4,I4 x.ct),(5,I4 x.fi)]) (cs:=#[I4 x.tb,I4 x.cl,I4 x.lo,I4 x.hi,I4 x.ct,I4 x.fi]) Y (Dc zeroValue81 mN A6 AD))<|Xe (Xw sizeOf81 #[I4 x.tb,I4 x.cl,I4 x.lo,I4 x.hi,I4 x.ct,I4 x.fi])<|Z0<|Zn [2] ?_;refine Zx<|AL<|D7 V results215 Y Wh (Av isAgg81 sizeOf81 Wn (V)) (by exact ⟨V,V⟩)
theorem ng{a b:RP}(ha:SF M va a)(hb:SF M vb b):Au prog 130 #[va,vb] [M] (.bool (decide (a=b))):=by
 obtain ⟨Z,W,ax,rfl,J,G,O⟩:=ha;obtain ⟨af,X,bn,rfl,K,I,U⟩:=hb;refine Se func130 ntmps130 [0,1] ?_;intro u R;refine A3<|Ze (Bx #[_,_,_,_,_,_,_,_,_])<|AF fun b1=>Ze (Bx #[_,_,_,_,_,_,_,_,_])<|AF fun b2=>AH Y<|A3<|AH Y<|A3<|Zh 7 DA V rfl T0 Y<|Zl cy Y<|Zh 7 DA V rfl T0 Y<|Zl cy Y<|Xr [_,_,_] Y call216 Y V (kU G I)<|CT Y<|Ay (n:=25) (0::1::3::3::15::3::3::127::255::511::1023::2047::4095::2047::10239::32767::65535::131071::262143::524287::262143::1310719::4194303::8388607::16777215::[]) 4227216 AD AD V<|A1 0 V (AP Y)<|A1 1 V (AP Y)<|Cs (t:=13) Y (fun g=>?_) (fun g=>?_);·
  rw [DE g];refine B4 2 V (AP Y)<|FF 3 V Wh (A9 (cs:=#[_,_,_,_,_,_,_,_,_]) RT Hj Y B5 B1)<|B4 5 V (AP Y)<|FF 6 V Wh (A9 (cs:=#[_,_,_,_,_,_,_,_,_]) RT Hj Y B5 B1)<|Yz 4 15 127 [6,3] [true,false] [(6,(_,_))] V Y V rfl V rfl (Zu [_] Y call215 Y V (Wz a Z W ax))<|F0<|C3<|Yw 7 255 V (Zu [_] Y call215 Y V (Wz b af X bn))<|F0<|B4 8 V (ik AD mN D3 AE A6 Y Y)<|A1 9 V (AU Y Y)<|A1 10 V (AP Y)<|Cs (t:=22) Y (fun h2=>?_) (fun h2=>?_);·
   rw [DE h2];refine B4 11 V (AB (off:=6) DA V rfl E3 Y)<|FF 12 V Wh (BK GP Y B1)<|B4 13 V (AB (off:=6) DA V rfl E3 Y)<|FF 14 V Wh (BK GP Y B1)<|Yw 15 65535 V (Zu [_,_] Y call213 Y V (dZ J K))<|F0<|A1 16 V (AU Y Y)<|A1 17 V (AP Y)<|Cs (t:=29) Y (fun m=>?_) (fun m=>?_);·
    rw [DE m];refine B4 18 V (AB (off:=8) DA V rfl Hc Y)<|FF 19 V Wh (BK ID Y B1)<|B4 20 V (AB (off:=8) DA V rfl Hc Y)<|FF 21 V Wh (BK ID Y B1)<|Yw 22 8388607 V (Zu [_,_] Y call218 Y V (dY O U))<|F0<|A1 23 V (AU Y Y)<|A1 24 V (BC Y)<|Aq<|Zn [4] ?_;refine Zx<|AL<|AO V results130 Y (by exact ⟨by exact Hm ⟨fun B=>aC.2 ⟨g,h2,m,B⟩,fun B=>(aC.1 B).2.2.2⟩,V⟩)
   rw [DQ m];refine AW 18 V<|AW 19 V<|AW 20 V<|AW 21 V<|AW 22 V<|A1 23 V (AJ Y Y)<|A1 24 V (BC Y)<|Aq<|Zn [4] ?_;refine Zx<|AL<|AO V results130 Y (by exact ⟨by exact EX (fun e=>m (aC.1 e).2.2.1),V⟩)
  rw [DQ h2];refine AW 11 V<|AW 12 V<|AW 13 V<|AW 14 V<|AW 15 V<|A1 16 V (AJ Y Y)<|A1 17 V (AP Y)<|AW 18 V<|AW 19 V<|AW 20 V<|AW 21 V<|AW 22 V<|A1 23 V (AJ Y Y)<|A1 24 V (BC Y)<|Aq<|Zn [4] ?_;refine Zx<|AL<|AO V results130 Y (by exact ⟨by exact EX (fun e=>h2 (aC.1 e).2.1),V⟩)
 rw [DQ g];refine AW 2 V<|AW 3 V<|AW 4 V<|AW 5 V<|AW 6 V<|AW 7 V<|AW 8 V<|A1 9 V (AJ Y Y)<|A1 10 V (AP Y)<|AW 11 V<|AW 12 V<|AW 13 V<|AW 14 V<|AW 15 V<|A1 16 V (AJ Y Y)<|A1 17 V (AP Y)<|AW 18 V<|AW 19 V<|AW 20 V<|AW 21 V<|AW 22 V<|A1 23 V (AJ Y Y)<|A1 24 V (BC Y)<|Aq<|Zn [4] ?_;refine Zx<|AL<|AO V results130 Y (by exact ⟨by exact EX (fun e=>g (aC.1 e).1),V⟩)
theorem QP(s:Bs):∀(n:Nat) (l:List Bs) (i:Nat),l.length<=n->l[i]?=some s->PI s l.length i (Ea l i).reverse=some (DN l)
 |n,l,i,hn,hi=>by
  have m:=(C7.1 hi).1;rcases Fi l.length 2 with h|h
  · match l,hi with
    |[x],hi=>
     have h0:i=0:=by simp at m;exact m
     subst h0;simp at hi;subst hi;rw [NP B7,aM];rfl
    |[],hi=>simp at hi
    |x::y::l,hi=>simp only [F2]at h;omega
  · have J:=K4 h
    have h2:=JY l.length
    match n,hn with
    |0,hn=>omega
    |n+1,hn=>
    have I:(l.take (CF l.length)).length=CF l.length:=by rw [Cd];omega
    have G:(l.drop (CF l.length)).length=l.length -CF l.length:=Cp;by_cases g:i<CF l.length
    · have B:=QP s n (l.take (CF l.length)) i A0 (by rw [HR,Ax g];exact hi)
      rw [I]at B;rw [Jv h g,gS];show PI s l.length i (DN (l.drop (CF l.length))::(Ea (l.take (CF l.length)) i).reverse)=_
      rw [Vu h g,B,Qf h];rfl
    · have B:=QP s n (l.drop (CF l.length)) (i -CF l.length) A0 (by rw [Pc,show CF l.length+(i -CF l.length)=i by omega];exact hi)
      rw [G]at B;rw [JF h g,gS];show PI s l.length i (DN (l.take (CF l.length))::(Ea (l.drop (CF l.length)) (i -CF l.length)).reverse)=_
      rw [Sn h g,B,Qf h];rfl
theorem nJ{l:List Bs}{s:Bs}(hi:l[i]?=some s):VF (DN l) l.length i s (Ea l i)=true:=by
 unfold VF;rw [QP s l.length l i (D0 _) hi];have h:(Ea l i).any Rv=false:=by
  rw [List.any_eq_false];intro x hx;simp [Rv,KJ l.length l i (D0 _) x hx]
 rw [h];simp
theorem Ul{m:AV->Bool}:∀{l:List AV} {i:Nat} {x:AV},i<Cg m l->l[i]?=some x->m x=false
 |[],i,x,_,hx=>by simp at hx
 |z::l,i,x,hi,hx=>by
  unfold Cg at hi;rw [S7]at hi;by_cases hz:m z=true;· rw [As (by simp [hz])]at hi;simp at hi
  · have g:m z=false:=by simpa using hz
    rw [Ax (by simp [g])]at hi;rcases i with _|i
    · simp at hx;rw [<-hx];exact g
    · simp only [dp]at hx
      exact Ul (l:=l) (by unfold Cg;simp at hi;omega) hx
theorem R4{g:AV->Bool}:∀{l:List AV} {x:AV},l[Cg g l]?=some x->g x=true
 |[],x,hx=>by simp at hx
 |z::l,x,hx=>by
  unfold Cg at hx;rw [S7]at hx;by_cases hz:g z=true;· rw [As (by simp [hz])]at hx;simp at hx;rw [<-hx];exact hz
  · have m:g z=false:=by simpa using hz
    rw [Ax (by simp [m])]at hx;simp only [F2,dp]at hx;exact R4 (l:=l) hx
def ltV(c:Nat)(a b:AV):Prop:=Dq a c<Dq b c\/Dq a c=Dq b c/\a.k<b.k
variable{rs:List AV}
theorem UF(g:BM rs)(t:Int)(c:Nat):(BO rs t c).Pairwise (ltV c):=by
 have m:=Ey g t c (-1000000000) 1000000000;have h2:(rs.filter (inR t c (-1000000000) 1000000000)).Pairwise (fun a b=>a.k≠b.k):=(Qv g fun r h=>mE h).imp (fun h=>by omega)
 have B:(Dw rs t c (-1000000000) 1000000000).Pairwise (fun a b=>a.k≠b.k):=((Ec rs t c (-1000000000) 1000000000).pairwise_iff (fun h=>h.symm)).2 h2;exact (m.and B).imp (fun{a b} h=>by unfold ltV;obtain ⟨G,I⟩:=h;unfold leV at G;omega)
variable{l:List AV}{j:Nat}
theorem uI{R:AV->AV->Prop}(h:l.Pairwise R){a b:AV}(g:i<j)(m:l[i]?=some a)(B:l[j]?=some b):R a b:=by
 obtain ⟨hi,rfl⟩:=C7.1 m;obtain ⟨G,rfl⟩:=C7.1 B;exact ft.1 h i j hi G g
theorem bB(G:BM rs){t:Int}{c:Nat}{a b:AV}(m:i<=j)(B:(BO rs t c)[i]?=some a)(g:(BO rs t c)[j]?=some b):Dq a c<=Dq b c:=by
 rcases Nat.eq_or_lt_of_le m with rfl|h
 · rw [B]at g;injection g with g;rw [g];exact Z1 _
 · have:=uI (UF G t c) h B g
   unfold ltV at this;omega
theorem ll(B:BM rs)(t c:Nat)(lo:Int)(g:(BO rs (t:Int) c)[i]?=some r):(Cg (geV c lo) (BO rs (t:Int) c)<=i->lo<=Dq r c)/\(i<Cg (geV c lo) (BO rs (t:Int) c)->Dq r c<lo):=by
 constructor
 · intro h
   have m:=(C7.1 g).1;have hx:(BO rs (t:Int) c)[Cg (geV c lo) (BO rs (t:Int) c)]?=some _:=BT A0
   have G:=IH (R4 hx);have h2:=bB B h hx g
   omega
 · intro h
   have:=da (Ul h g);omega
theorem mG(B:BM rs)(t c:Nat)(hi:Int)(g:(BO rs (t:Int) c)[i]?=some r):(Cg (gtV c hi) (BO rs (t:Int) c)<=i->hi<Dq r c)/\(i<Cg (gtV c hi) (BO rs (t:Int) c)->Dq r c<=hi):=by
 constructor
 · intro h
   have m:=(C7.1 g).1;have hx:(BO rs (t:Int) c)[Cg (gtV c hi) (BO rs (t:Int) c)]?=some _:=BT A0
   have G:=IH (R4 hx);have h2:=bB B h hx g
   omega
 · intro h
   have:=da (Ul h g);omega
theorem Uk(g:BM rs)(t c:Nat)(lo hi:Int)(m:lo<=hi):Cg (geV c lo) (BO rs (t:Int) c)<=Cg (gtV c hi) (BO rs (t:Int) c):=by
 rcases Fi (Cg (gtV c hi) (BO rs (t:Int) c)) (Cg (geV c lo) (BO rs (t:Int) c))with h|h
 · have G:=Hg (geV c lo) (BO rs (t:Int) c)
   have hx:(BO rs (t:Int) c)[Cg (gtV c hi) (BO rs (t:Int) c)]?=some _:=BT A0;have B:=(mG g t c hi hx).1 (D0 _)
   have h2:=(ll g t c lo hx).2 h;omega
 · exact h
theorem MG{f m:Nat}(h:((l.drop f).take m)[j]?=some r):j<m/\l[f+j]?=some r:=by
 rw [HR]at h;split at h;· rw [Pc]at h;exact ⟨by assumption,h⟩
 · cases h
theorem lV{t:Int}{c:Nat}(h:r∈BO rs t c):r∈rs/\r.t=t:=by
 have:=GF.1 ((Ec rs t c _ _).mem_iff.1 h);exact ⟨this.1,mE this.2⟩
theorem LG(m:BM rs)(t c:Nat)(lo hi:Int)(g:lo<=hi):Ca (BO rs (t:Int) c) c lo<=toT (BO rs (t:Int) c) c hi/\toT (BO rs (t:Int) c) c hi<=(BO rs (t:Int) c).length/\(0<(BO rs (t:Int) c).length->Ca (BO rs (t:Int) c) c lo<toT (BO rs (t:Int) c) c hi):=by
 have B:=Uk m t c lo hi g;have h2:=Hg (geV c lo) (BO rs (t:Int) c)
 have G:=Hg (gtV c hi) (BO rs (t:Int) c);unfold Ca toT;omega
theorem WY(m:BM rs)(t c:Nat)(lo hi:Int)(g:lo<=hi):(Eh rs t c lo hi).rows.length=toT (BO rs (t:Int) c) c hi -Ca (BO rs (t:Int) c) c lo:=by
 have:=LG m t c lo hi g;show(((BO rs (t:Int) c).drop _).take _).length=_
 rw [Cd,Cp];omega
theorem Lb(B:BM rs)(hn:rs.length<=2000)(O:∀r∈rs,r.ok)(t c:Nat)(ht:t<=3)(hc:c<=3)(lo hi:Int)(m:lo<=hi):Jk (Eh rs t c lo hi):=by
 have h1:=Uk B t c lo hi m;have h2:=Hg (geV c lo) (BO rs (t:Int) c)
 have h3:=Hg (gtV c hi) (BO rs (t:Int) c);have h4:=LG B t c lo hi m
 have I:=WY B t c lo hi m;have af:=Ih B (t:Int) c
 have hf:Ca (BO rs (t:Int) c) c lo=Cg (geV c lo) (BO rs (t:Int) c) -1:=rfl;have ax:toT (BO rs (t:Int) c) c hi=min (Cg (gtV c hi) (BO rs (t:Int) c)+1) (BO rs (t:Int) c).length:=rfl
 have hv:∀r:AV,Bj r ((c:Nat):Int)=Dq r c:=fun r=>M5 r c hc;refine ⟨⟨⟨?_,?_⟩,?_,?_⟩,m,⟨?_,?_⟩,⟨?_,?_⟩,?_,?_,?_,?_,?_⟩;· show(0:Int)<=(t:Int);omega
 · show(t:Int)<4;omega
 · show(0:Int)<=(c:Int);omega
 · show(c:Int)<4;omega
 · show(0:Int)<=((BO rs (t:Int) c).length:Int);omega
 · show((BO rs (t:Int) c).length:Int)<=2000;omega
 · show(0:Int)<=((Ca (BO rs (t:Int) c) c lo:Nat):Int);omega
 · show((Ca (BO rs (t:Int) c) c lo:Nat):Int)<=((BO rs (t:Int) c).length:Int);omega
 · rw [I];show _<=((BO rs (t:Int) c).length:Int) -((Ca (BO rs (t:Int) c) c lo:Nat):Int);omega
 · rw [I];intro h0;show((BO rs (t:Int) c).length:Int)=0;omega
 · intro j r G
   obtain ⟨X,g⟩:=MG G;have W:=lV (Ek g)
   have K:=ll B t c lo g;have J:=mG B t c hi g
   refine ⟨⟨O r W.1,W.2,?_,?_⟩,?_⟩;· intro h;change Bj r (c:Int)<lo at h;rw [hv]at h;omega
   · intro h;change hi<Bj r (c:Int)at h;rw [hv]at h;rw [I];omega
   · intro Z q hq
     obtain ⟨_,U⟩:=MG hq;have:=uI (UF B (t:Int) c) A0 U g
     unfold Xb;show Bj q (c:Int)<Bj r (c:Int)\/Bj q (c:Int)=Bj r (c:Int)/\q.k<r.k
     rw [hv,hv];exact this
 · intro r G
   obtain ⟨_,g⟩:=MG G;have K:=ll B t c lo g
   show((Ca (BO rs (t:Int) c) c lo:Nat):Int)=0\/Bj r (c:Int)<lo;rw [hv];omega
 · intro r G
   rw [I]at G⊢;obtain ⟨X,g⟩:=MG G;have J:=mG B t c hi g
   show((Ca (BO rs (t:Int) c) c lo:Nat):Int)+_=((BO rs (t:Int) c).length:Int)\/hi<Bj r (c:Int);rw [hv];omega
theorem Vs(I:BM rs)(hn:rs.length<=2000)(B:∀r∈rs,r.ok)(t c:Nat)(U:t<=3)(hc:c<=3)(lo hi:Int)(g:lo<=hi):QG (Ll rs) (Eh rs t c lo hi):=by
 have W:=LG I t c lo hi g;have J:=WY I t c lo hi g
 refine ⟨Lb I hn B t c U hc lo hi g,KP rs,?_,V,DN (Nl (BO rs (t:Int) c)),GY _,?_,?_,?_⟩;· rw [J];exact U0 _ _ _
 · show(Sz rs)[4*(t:Int).toNat+(c:Int).toNat]?=some (R6 ((BO rs (t:Int) c).length:Int)++_)
   rw [SJ,SJ];unfold Sz;rw [E6,tk t A0 c A0];rfl
 · intro h0
   change ((BO rs (t:Int) c).length:Int)=0 at h0;rw [NX (show(BO rs (t:Int) c).length=0 by omega)];rfl
 · intro _ k r pf O m
   obtain ⟨K,G⟩:=MG O;change (Iu (BO rs (t:Int) c) (Ca (BO rs (t:Int) c) c lo) _)[k]?=some pf at m;unfold Iu at m;rw [E6,Wr K]at m;injection m with m
   subst m;show VF _ ((BO rs (t:Int) c).length:Int).toNat (((Ca (BO rs (t:Int) c) c lo:Nat):Int).toNat+k) _ _=true
   rw [SJ,SJ,<-Hl (BO rs (t:Int) c)];refine nJ ?_;unfold Nl;rw [E6,G];rfl
theorem gT(G:BM rs)(hn:rs.length<=2000)(K:∀r∈rs,r.ok)(t c:Nat)(W:t<=3)(hc:c<=3)(lo hi:Int)(m:lo<=hi):Eb (Eh rs t c lo hi)=(BO rs (t:Int) c).filter (inR (t:Int) c lo hi):=by
 have J:=Lb G hn K t c W hc lo hi m;have Z:=LG G t c lo hi m
 have hf:Ca (BO rs (t:Int) c) c lo=Cg (geV c lo) (BO rs (t:Int) c) -1:=rfl;have X:toT (BO rs (t:Int) c) c hi=min (Cg (gtV c hi) (BO rs (t:Int) c)+1) (BO rs (t:Int) c).length:=rfl
 have hv:∀r:AV,Bj r ((c:Nat):Int)=Dq r c:=fun r=>M5 r c hc;rw [gP J];show(((BO rs (t:Int) c).drop (Ca (BO rs (t:Int) c) c lo)).take (toT (BO rs (t:Int) c) c hi -Ca (BO rs (t:Int) c) c lo)).filter _=_
 have e:BO rs (t:Int) c=(BO rs (t:Int) c).take (Ca (BO rs (t:Int) c) c lo)++(((BO rs (t:Int) c).drop (Ca (BO rs (t:Int) c) c lo)).take (toT (BO rs (t:Int) c) c hi -Ca (BO rs (t:Int) c) c lo)++(BO rs (t:Int) c).drop (toT (BO rs (t:Int) c) c hi)):=by
  have e1:(BO rs (t:Int) c).drop (toT (BO rs (t:Int) c) c hi)=((BO rs (t:Int) c).drop (Ca (BO rs (t:Int) c) c lo)).drop (toT (BO rs (t:Int) c) c hi -Ca (BO rs (t:Int) c) c lo):=by
   rw [cG];congr 1;omega
  rw [e1,LO,LO]
 conv=>rhs;rw [e]
 rw [L7,L7];have z1:((BO rs (t:Int) c).take (Ca (BO rs (t:Int) c) c lo)).filter (inR (t:Int) c lo hi)=[]:=by
  rw [n5];intro r B I;obtain ⟨i,g⟩:=HU B;rw [HR]at g;split at g
  · have:=(ll G t c lo g).2 A0
    have:=IH I;omega
  · cases g
 have z2:((BO rs (t:Int) c).drop (toT (BO rs (t:Int) c) c hi)).filter (inR (t:Int) c lo hi)=[]:=by
  rw [n5];intro r B I;obtain ⟨i,g⟩:=HU B;rw [Pc]at g;have O:=(C7.1 g).1
  have:=(mG G t c hi g).1 A0;have:=IH I
  omega
 rw [z1,z2,N4,E7];refine l3 ?_;intro r B;have U:=lV (MT (RW B))
 unfold inB inR;show decide (lo<=Bj r (c:Int)/\Bj r (c:Int)<=hi)=_
 rw [hv];exact decide_eq_decide.2 ⟨fun h=>⟨U.2,h⟩,fun h=>h.2⟩
theorem A98(B:BM rs)(m:∀r∈rs,r.ok)(t c:Nat)(W:t<=3)(hc:c<=3)(lo hi:Int)(J:lo<=hi):(BO rs (t:Int) c).filter (inR (t:Int) c lo hi)=Dw rs (t:Int) c lo hi:=by
 refine WU B ?_ ?_
 · have g:=(Ec rs (t:Int) c (-1000000000) 1000000000).filter (inR (t:Int) c lo hi)
   refine g.trans ?_;rw [List.filter_filter];refine List.Perm.of_eq (l3 ?_);intro r K;obtain ⟨⟨g,h2,G⟩,O,U⟩:=m r K;unfold inV at g h2 G;have I:-1000000000<=Dq r c/\Dq r c<=1000000000:=by
    unfold Dq;split;· omega
    · split
      · omega
      · split<;>omega
   unfold inR;rw [<-Bool.decide_and];exact decide_eq_decide.2 ⟨fun h=>h.1,fun h=>⟨h,h.1,I⟩⟩
 · exact (Ey B (t:Int) c (-1000000000) 1000000000).filter _
theorem TU(B:BM rs)(hn:rs.length<=2000)(m:∀r∈rs,r.ok)(t c:Nat)(G:t<=3)(hc:c<=3)(lo hi:Int)(g:lo<=hi):Eb (Eh rs t c lo hi)=Dw rs (t:Int) c lo hi:=by rw [gT B hn m t c G hc lo hi g,A98 B m t c G hc lo hi g]
def CY(c:Int)(n:Nat):Nat:=((if c<0 then-(c+1)else c).tmod n).toNat
theorem EL(c:Int)(n:Nat)(hn:0<n):CY c n<n:=by
 unfold CY;have g:0<=(if c<0 then-(c+1)else c):=by split<;>omega
 have h2:=Int.tmod_lt_of_pos (if c<0 then-(c+1)else c) (b:=(n:Int)) A0;have m:=Int.tmod_nonneg (n:Int) g
 omega
theorem A44(c:Int)(n:Nat):(if c<0 then-(c+1)else c).tmod n=(CY c n:Int):=by
 unfold CY;have g:0<=(if c<0 then-(c+1)else c):=by split<;>omega
 have m:=Int.tmod_nonneg (n:Int) g;omega
theorem vF{c:Chg}{x:AV}(h:x∈ER rs c):x∈rs\/(c.has=true/\x=⟨c.t,c.k,c.n⟩):=by
 unfold ER at h;rcases CD.1 h with h|h
 · rcases CD.1 h with h|h
   · exact .inl (RW h)
   · exact .inr (Mi.1 h)
 · exact .inl (MT (MT h))
theorem we{c:Chg}(h:c.ok)(g:c.has=true):AV.ok ⟨c.t,c.k,c.n⟩:=by
 obtain ⟨_,h2,_⟩:=h;rw [KC g]at h2;exact HP.1 fun m=>h2 (.inr ⟨g,m⟩)
theorem WW:∀(cs:List Chg) (rs:List AV),(∀r∈rs,r.ok)->(∀c∈cs,c.ok)->∀r∈DT rs cs,r.ok
 |[],rs,h,_=>h
 |c::cs,rs,h,hc=>by
  have B:∀r∈ER rs c,r.ok:=fun r m=>by
   rcases vF m with m|⟨hh,rfl⟩
   · exact h r m
   · exact we (hc c B7) hh
  exact WW cs (ER rs c) B (fun c g=>hc c (by simp [g]))
theorem EY.rowsOk{l:List BF}(h:EY l):∀i,i<=l.length->∀r∈BQ (l.take i),r.ok
 |0,_=>by intro r g;simp [BQ]at g
 |i+1,hi=>by
  obtain ⟨r,g⟩:∃r,l[i]?=some r:=⟨_,BT A0⟩;rw [Bl g,Gt];refine WW _ _ (EY.rowsOk h i A0) fun c hc=>?_;obtain ⟨j,m⟩:=HU hc;exact (h i r g).1.ok.all j c m
theorem A15{p:BE}{n cap:Nat}{xs:List (List Int)}(h:XX M (.slice p n cap) xs)(k:Nat)(G:k<=n):XX M (.slice p k cap) (xs.take k):=by
 obtain ⟨J,g,e,I,B⟩:=h;injection e with e1 e2 e3
 subst e1 e2 e3;have m:(xs.take k).length=k:=by rw [Cd];exact SR G
 refine ⟨p,cap,by rw [m],by omega,fun i z hz=>B i z ?_⟩;rw [HR]at hz;split at hz;· exact hz
 · cases hz
theorem lN(v:A2)(p:Int)(rs:List AV)(s:List A8)(hv:RG v p rs s)(K:BM rs)(hn:rs.length<=2000)(m:∀r∈rs,r.ok)(g:AM)(I:Nat×Nat):Au prog 7 #[v] [[(0,.cells (Dn.map CW).toArray g I)],s] (.string (str (Ll rs))):=by
 have X:=mL;obtain ⟨ax,af,W,U,Z,rfl,O⟩:=id hv;refine Se func7 ntmps7 [0] ?_;intro u R;refine A3<|AH Y<|B8 Y<|Zv (Bb mB Y Y)<|A4<|AY Y (fun J=>by cases J)<|fun J=>B3<|AK Y<|Zc [_] Y call31 Y V (QU _ p rs s hv K hn m g I) ?_;rintro _ _ ⟨_,⟨so,B,rfl⟩,rfl⟩;have G:=Gr (BZ B (KP rs).symm rfl) (by rw [KP];omega)
 refine Xr [_] Y call30 Y rfl (JL G (by rw [KP];omega) (fun s h=>by obtain ⟨x,_,rfl⟩:=CI.1 h;have:=ZN K hn x;omega) g I)<|An Y<|AO rfl results7 Y q5
def cs0:List Chg:=[⟨0,3,false,V3.zero,true,⟨10,0,0⟩⟩,⟨0,5,false,V3.zero,true,⟨10,21,30⟩⟩]
def l0(gc:Nat):List BF:=[⟨1,some ⟨gc,0,none⟩,2,cs0⟩]
def RP.cut(x:RP):RP:=⟨x.tb,x.cl,x.lo,x.hi,x.ct,x.fi,x.rows.drop 1,x.paths.drop 1,x.roots⟩
theorem xS(hv:SF M v x)(h:Jk x)(G:Eb x=l):BS prog 233 #[v] [M] (fun r H'=>∃B m,r= .tuple #[B,.bool true]/\BU 5 83 B l.length (Ae l) m/\H'=[m,M]):=by
 have g:=nk hv;rw [DE h,G]at g;exact g
theorem SF.mono{m:List A8}(h:SF M v x)(g:∀c∈M,c∈m):SF m v x:=by
 obtain ⟨J,I,K,e,B,h2,G⟩:=h;exact ⟨J,I,K,e,B.mono g,h2.mono g,G.mono g⟩
theorem Tv:∀(n:Nat) (l:List Bs) (i:Nat),l.length<=n->(Ea l i).length<=l.length
 |n,l,i,hn=>by
  rcases Fi l.length 2 with h|h
  · rw [NP A0];simp
  · have m:=K4 h
    have h2:=JY l.length
    match n,hn with
    |0,hn=>omega
    |n+1,hn=>
    by_cases hi:i<CF l.length
    · have g:=Tv n (l.take (CF l.length)) i (by rw [Cd];omega)
      rw [Cd]at g;rw [Jv h hi,C0];simp only [GC];omega
    · have g:=Tv n (l.drop (CF l.length)) (i -CF l.length) (by rw [Cp];omega)
      rw [Cp]at g;rw [JF h hi,C0];simp only [GC];omega
theorem RY(g:BM rs)(hn:rs.length<=2000)(t c:Nat)(lo hi:Int):∀s∈(Eh rs t c lo hi).roots,s.length<=140737488354000:=by
 intro s h;obtain ⟨x,_,rfl⟩:=CI.1 h;have:=ZN g hn x
 omega
theorem MZ(m:BM rs)(hn:rs.length<=2000)(t c:Nat)(lo hi:Int):∀l∈(Eh rs t c lo hi).paths,l.length<=1000000:=by
 intro l h;obtain ⟨x,_,rfl⟩:=CI.1 h;have g:=Tv _ (Nl (BO rs (t:Int) c)) (Ca (BO rs (t:Int) c) c lo+x) (D0 _)
 have h2:=Ih m (t:Int) c;rw [Hl]at g;omega
theorem xJ(q:QM)(m:BH q):Au prog 176 #[.agg q.BM5] [] (.tuple #[I4 q.tb,I4 q.cl,I4 q.lo,I4 q.hi]):=by
 refine Se func176 ntmps176 [0] ?_;intro u R;refine A3<|Ze (Bx q.BM5)<|AF fun bq=>Za Y<|Za Y<|Za Y<|CT Y<|A3<|Zo Wh (A9 (cs:=#[_,_,_,_,_,_,_]) Fm D4 Y B5 B1)<|Xr [_] Y call63 Y V (Js q)<|Zv (CG Y)<|A4<|AY Y (fun g=>?_) (fun g=>?_);·
  exfalso;simp [m]at g
 refine B3<|Zq<|Ay (n:=12) (0::1::0::4::0::16::0::64::3::271::831::2047::[]) 0 AD AD V<|A1 0 V (AB (off:=1) DB V rfl A6 Y)<|Bm 1 V AE Y<|A1 2 V (AB (off:=2) DB V rfl A6 Y)<|Bm 3 V AE Y<|A1 4 V (AB (off:=3) DB V rfl A6 Y)<|Bm 5 V AE Y<|A1 6 V (AB (off:=4) DB V rfl A6 Y)<|Bm 7 V AE Y<|A1 8 V (BC Y)<|A1 9 V (BC Y)<|A1 10 V (BC Y)<|A1 11 V (BC Y)<|Aq<|Zn [2,3,4,5] ?_;refine Zx<|AL<|lW V results176 Y Y Y Y (by exact ⟨V,V⟩)
theorem uO(q:QM)(g:BH q):Au prog 99 #[.agg q.BM5] [] (.agg #[I4 q.tb,I4 q.cl,I4 q.lo,I4 q.hi]):=by
 refine Se func99 ntmps99 [0] ?_;intro u R;refine A3<|Ze (Bx q.BM5)<|AF fun bq=>Ze (Al mS #[_,_,_,_])<|AF fun m=>A4<|A3<|Zo Wh (A9 (cs:=#[_,_,_,_,_,_,_]) Fm D4 Y B5 B1)<|Xr [_] Y call176 Y V (xJ q g)<|Zm Y<|Zd Y V<|Zd Y V<|Zd Y V<|Zd Y V<|Zh 0 R0 V rfl A6 Y<|Xe (Zs A6 Y Y V (hi:=by decide))<|Zh 1 R0 V rfl A6 Y<|Xe (Zs A6 Y Y V (hi:=by(simp;done)))<|Zh 2 R0 V rfl A6 Y<|Xe (Zs A6 Y Y V (hi:=by(simp;done)))<|Zh 3 R0 V rfl A6 Y<|Xe (Zs A6 Y Y V (hi:=by(simp;done)))<|Z0<|Zn [2] ?_;refine C6<|Zo Wh (A9 (cs:=#[_,_,_,_]) isAgg216 eC Y B5 (Az rfl))<|Xe (BJ eC Y Y K0 Wu (Dz rfl) G4 B5 (by exact BB _))<|A4<|AL<|D7 rfl results99 Y Wh (Av isAgg216 eC Wn (Az rfl)) q5
theorem VO{P:Program}{env:Env}{d:Option Nat}{ty:AM}{pos:String}{af:Array Edge}{g:Option (Nat×Bool)}{x:Operand}{m at_:AM}{ok:Bool}{r:A2}(hx:∀a,ev a env x=v)(B:∀w:A5,(Instr.typeAssert v m at_ ok).run P w= .ok r w):OpP P ⟨d,.typeAssert x m at_ ok,ty,pos,af,g⟩ env [] r:=fun a w _=>by
 simp [execOp,hx a,B w]
theorem xq(w:A5):(Instr.typeAssert .nilIface 20 161 true).run prog w= .ok (.tuple #[.nilIface,.bool false]) w:=by kernel_rfl
theorem dF{u w:A5}{H:Hp}{b:Nat}{o:Obj}(h:Has b o H)(g:Sat u H w):w.heap[b]?=some o:=g.get _ h.mem
theorem qX{q:QM}(m:BH q)(g:q.kd≠7):Im q (Dw rs q.tb q.cl.toNat q.lo q.hi) []=Cj rs q:=by
 rw [Pz m];unfold Cj Fb CU;split;· rfl
 · split
   · rfl
   · split
     · rfl
     · split
       · rfl
       · first
         |rfl
         |(split
           · rename_i h;exact absurd h g
           · rfl)
theorem xP(B:BM rs)(hn:rs.length<=2000)(g:∀r∈rs,r.ok)(q:QM)(G:BH q):Jk (Eh rs q.tb.toNat q.cl.toNat q.lo q.hi)/\Eb (Eh rs q.tb.toNat q.cl.toNat q.lo q.hi)=Dw rs q.tb q.cl.toNat q.lo q.hi:=by
 obtain ⟨I,h2,m,_⟩:=id G;refine ⟨Lb B hn g q.tb.toNat q.cl.toNat A0 A0 q.lo q.hi m.2.1,?_⟩;have h:=TU B hn g q.tb.toNat q.cl.toNat A0 A0 q.lo q.hi m.2.1
 rwa [show((q.tb.toNat:Nat):Int)=q.tb by omega]at h
theorem A39{q:QM}(g:BH q):(Eh rs q.tb.toNat q.cl.toNat q.lo q.hi).tb=q.tb/\(Eh rs q.tb.toNat q.cl.toNat q.lo q.hi).cl=q.cl/\(Eh rs q.tb.toNat q.cl.toNat q.lo q.hi).lo=q.lo/\(Eh rs q.tb.toNat q.cl.toNat q.lo q.hi).hi=q.hi:=by
 obtain ⟨m,h2,_⟩:=id g;exact ⟨show((q.tb.toNat:Nat):Int)=q.tb by omega,show((q.cl.toNat:Nat):Int)=q.cl by omega,V,V⟩
theorem Kr:Au prog 156 #[.bool true] [] undef:=by
 refine Se func156 ntmps156 [0] ?_;intro u R;refine AK Y<|Zv (Bo Y)<|A4<|AY Y (fun g=>by cases g)<|fun g=>AC<|DC V results156 (by exact ⟨V,V⟩)
theorem wh(pk:A2):QJ prog 155 #[pk] .returning .returning [] (fun H'=>H'=[]):=by
 refine ZU (env1:=[(3,.bool false),(2,.nilIface),(8,.bool false),(7,.nilIface),(4,.tuple #[.nilIface,.bool false]),(6,.tuple #[.nilIface,.bool false]),(5,.nilIface),(0,pk)]) func155 V ntmps155 V results155 ?hrec_1 ?hwalk_1
 case hrec_1=>
  intro u R c cs Q m G;show tK _ _ [0,1,2,3,4,5,6] _ _ _ _ _
  have g:({c with mode:= .returning}:Frame)=c:=by cases c;simp only at m;subst m;rfl
  rw [g]at G;refine iw V (by simp [recoverD,m]) V ?_;refine Qu V (VO Y xq) V ?_;refine Qu V (AP Y) V ?_;refine Qu V (C9 Y V) V ?_;refine Qu V (C9 Y V) V ?_;refine Qu V (BC Y) V ?_;refine Qu V (BC Y) V ?_;intro a w I;exact G a w I
 intro u R;refine Zb [0,2,3] ?_;refine AK Y<|Zm Y<|Ad (t:=10) Y V (fun B=>by cases B)<|fun B=>AG<|C4<|B9 Y Y<|A4<|Df Y<|AC<|DC V results155 B1
theorem xI(g:Nat)(B:A2):QJ prog 154 #[I5 g,B] .returning .returning [[(g,.cells #[.bool true] 4 (0,0))]] (fun H'=>H'=[[(g,.cells #[.bool true] 4 (0,0))]]):=by
 refine dx func154 V ntmps154 V ?_;intro u R;refine Zb [0,1] ?_;refine A3<|Zl G0 Y ?_;refine Zv (Bo Y)<|A4<|AY Y (fun m=>by cases m)<|fun m=>AC<|DC V results154 B1
end Go.Proofs.YtlkdhannldcfbabGreatDoor
