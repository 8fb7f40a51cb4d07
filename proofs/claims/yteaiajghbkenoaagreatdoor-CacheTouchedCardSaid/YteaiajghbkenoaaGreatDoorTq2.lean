/- The reference of layer 4: Log, as a function. -/
/- Lists of strings; rows of five integers. -/
/- What the rows list and what the arguments read as, in chunks. -/
/- Logs that integers determine: few rows in a table. -/
/- The law of what Apply returns, in plain words. -/
/- The law of what Apply returns. -/
/- CacheTouched as its card wants it. -/
/- The facts that a card wants, one by one. -/
/- Arguments: rows of five integers, of integers. -/
import Derived.Test.YteaiajghbkenoaaGreatDoorEz
import Derived.Test.YteaiajghbkenoaaGreatDoorLd1
import Derived.ProofKit
import Derived.OpenShut
import Derived.ChangeOld
import Derived.Deep.Slices
import Derived.SliceStrings
import Derived.Lib.LaidTab
import Derived.Stop.LaidErr
import Derived.Test.YteaiajghbkenoaaGreatDoorRows
import Derived.JoinedOf
set_option linter.unusedVariables false
set_option linter.unusedSimpArgs false
namespace Go.Proofs.YteaiajghbkenoaaGreatDoor
open Go.Proofs.Tryz
open Go Go.RowKit Gw
set_option maxRecDepth 100000
attribute [local irreducible] Gw.At Gw.Nx Gw.Ops
set_option maxHeartbeats 4000000 in
theorem vX{M:List A9}{v:Value}{xs:List (List Int)}(hX:WC M v xs)(hx:xs.length<=1000):Ba prog 9 #[v] [M] (fun r H'=>∃(l:List BU) (s:List A9),F5 l/\l.length<=xs.length/\l.map BU.cs=TF xs/\EW s r l/\H'=[s,M]):=by
 have MS:=mL;obtain ⟨px,LC,rfl,Pn,zy⟩:=id hX;refine Se func9 ntmps9 [0] ?_;intro u R;refine A0<|A3 Y<|A0<|A3 Y<|A0<|Zc [] Y call31 Y V (yh) ?_;rintro _ _ ⟨_,⟨sp,rfl,rfl⟩,rfl⟩;refine A3 Y<|Zq<|A0<|A3 Y<|AP<|BV<|BV<|BV<|Zb [3,5,0,4] ?_;refine BB (e0:=[(3,_),(5,_)]) (fun m e H=>∃(i:Nat) (B:List BU) (w wo:Value) (sv so MM:List A9),m=xs.length -i/\(i<=xs.length/\F5 B/\B.length<=i/\Bc 5 83 w (Bd B).length (Ae (Bd B)) sv/\Bc 2 50 wo B.length (Dp B) so/\(∀r∈B,Ck MM (.slice r.q r.cs.length r.cap) r.cs)/\B.map BU.cs=TF (xs.take i))/\e=[(3,wo),(5,I4 (i:Int))]/\H=[[(sp,.cells #[w,I4 (B.length:Int)] 87 (0,0))],sv,so,MM]) (by exact ⟨0,[],.slice none 0 0,.slice none 0 0,[],[],[],V,⟨C0 _,(by intro i r h;cases h),CT _,Bf 5 _,Bf 2 _,by simp,V⟩,V,V⟩) Wp ?_;rintro _ _ _ ⟨i,B,w,wo,sv,so,MM,rfl,⟨hi,cu,P7,l5,kv,pg,p9⟩,rfl,rfl⟩;obtain ⟨qw,qz,rfl⟩:=l5.form;obtain ⟨qo,HZ,rfl⟩:=kv.form;obtain ⟨zk,Hf⟩:=cu.all;have zn:=Pi l5 A1
 refine Zq<|A0<|Zm Y<|Zm Y<|Zv (Ab cU Y)<|Zv (Au Y Y)<|A4<|Av Y (fun vz=>?_) (fun vz=>?_)
 ·
  obtain ⟨z,ql⟩:∃z,xs[i]?=some z:=⟨_,B4 vz⟩;obtain ⟨h6,p8,g,off,cur,T,zz,rfl,hm,sM⟩:=zy i z ql;refine AC<|Zx<|Zq<|AP<|A0<|A3 Y<|Zq<|A0<|A3 Y<|AP<|BV<|Zb [6,7,0,3,4,5] ?_;refine BB (e0:=[(6,_),(7,_)]) (fun m e H=>∃(k:Nat) (w2:Value) (cs:List Chg) (sl:List A9),m=3 -k/\(k<=3/\cs.length<=k/\Bc 10 69 w2 cs.length (Cg cs) sl/\cs=GA (Bd B) z k)/\e=[(6,w2),(7,I4 (k:Int))]/\H=[sl]) (by exact ⟨0,.slice none 0 0,[],[],V,⟨C0 _,CT _,Bf 10 _,V⟩,V,V⟩) Wp ?_;rintro _ _ _ ⟨k,w2,cs,sl,rfl,⟨MK,ME,G,af⟩,rfl,rfl⟩;obtain ⟨gw,cw,rfl⟩:=G.form;have MJ:=Es G
  refine Zq<|A0<|Zm Y<|Zv (Au (n:=3) Y Y)<|A4<|Av Y (fun hk=>?_) (fun hk=>?_)
  ·
   obtain ⟨za,X⟩:∃n,z[2*k]?=some n:=⟨_,B4 A1⟩;obtain ⟨zb,Z⟩:∃n,z[2*k+1]?=some n:=⟨_,B4 A1⟩;have P5:=p8 za (DG X)
   have P6:=p8 zb (DG Z);have zq:=sM _ _ X
   have zt:=sM _ _ Z;refine AC<|Zx<|Zq<|AP<|A0<|Zm Y<|Zm Y<|Zm Y<|BX (Ey (m:=2) Y Y A1)<|BX (Ad cU sizeOf81 Y Y A1)<|BX (Cm underlying81 A5 Y Y A1)<|CO (cs:=[(g,.cells cur T zz)]) (by simp [hm]) (BO AE Y (by(rw [LS];exact zq))) V rfl ?_;refine A3 Y<|Zb [8,0,3,4,5,6,7] ?_;refine D7 (e0:=[(8,_)]) (H0:=[]) (fun e H=>∃(n:Nat),(n<=9223372036854775807/\n=M8 za)/\e=[(8,I4 (n:Int))]/\H=[]) Wp ?hx_3 ?hy_3
   case hx_3=>
    refine A0<|Zm Y<|Zv (Dq Y Y)<|A4<|Av Y (fun FT=>?_) (fun FT=>?_)
    ·
     refine Zg<|Zm Y<|Yi Y Y ?_
     (refine BX (iQ Y (IntWalk.i64_in _ ?_)) ?_;(focus (omega)))
     refine AG Y<|Zn [8,0,3,4,5,6,7] ?_;refine BL (e':=[(8,_)]) (by exact ⟨(-(za+1)).toNat,⟨by omega,jM A1⟩,by rw [show(((-(za+1)).toNat:Nat):Int)=0 -(za+1) by omega],rfl⟩)
    refine AC<|Zn [8,0,3,4,5,6,7] ?_;refine BL (e':=[(8,_)]) (by exact ⟨za.toNat,⟨by omega,jL A1⟩,by rw [show((za.toNat:Nat):Int)=za by omega],rfl⟩)
   rintro _ _ ⟨n,⟨hn,gm⟩,rfl,rfl⟩;refine A0<|Zm Y<|Zm Y<|Zm Y<|BX (Ey (m:=2) Y Y A1)<|Ya (n:=1) Y Y ?_;refine BX (Ad cU sizeOf81 Y Y A1)<|BX (Cm underlying81 A5 Y Y A1)<|CO (cs:=[(g,.cells cur T zz)]) (by simp [hm]) (BO AE Y (by(rw [LS];exact zt))) V rfl ?_;refine A3 Y<|Zb [9,0,3,4,5,6,7,8] ?_;refine D7 (e0:=[(9,_)]) (H0:=[]) (fun e H=>∃(m:Nat),(m<=9223372036854775807/\m=M8 zb)/\e=[(9,I4 (m:Int))]/\H=[]) Wp ?hx_6 ?hy_6
   case hx_6=>
    refine A0<|Zm Y<|Zv (Dq Y Y)<|A4<|Av Y (fun Gl=>?_) (fun Gl=>?_)
    ·
     refine Zg<|Zm Y<|Yi Y Y ?_
     (refine BX (iQ Y (IntWalk.i64_in _ ?_)) ?_;(focus (omega)))
     refine AG Y<|Zn [9,0,3,4,5,6,7,8] ?_;refine BL (e':=[(9,_)]) (by exact ⟨(-(zb+1)).toNat,⟨by omega,jM A1⟩,by rw [show(((-(zb+1)).toNat:Nat):Int)=0 -(zb+1) by omega],rfl⟩)
    refine AC<|Zn [9,0,3,4,5,6,7,8] ?_;refine BL (e':=[(9,_)]) (by exact ⟨zb.toNat,⟨by omega,jL A1⟩,by rw [show((zb.toNat:Nat):Int)=zb by omega],rfl⟩)
   rintro _ _ ⟨m,⟨MP,ek⟩,rfl,rfl⟩;refine A0<|Zm Y<|BX (FQ (n:=3) Y Y A1)<|Zm Y ?_
   (refine BX (K6 (n:=3) Y Y ?_ ?_) ?_;(focus (omega));(focus (omega)))
   refine BX (FQ (n:=9) Y Y A1)<|Ya (m:=1) Y Y<|Zv (BK (vs:=[(0,_),(1,_)]) (cs:=#[_,_,_,_,_,_,_,_,_,_]) Y (AY (pl:=#[(0,1),(1,1),(2,1),(3,3),(6,1),(7,3)]) LI B8 (fun _=>by kernel_rfl) V))<|Ze (Al LI #[_,_,_,_,_,_,_,_,_,_])<|AD fun cb=>Xe (BM C1 Y Y (by(simp [Value.oneCell',Value.cells];done)) Wu (by exact (rfl:_=(#[I4 ((n%3:Nat):Int),I4 ((1+n/3%9:Nat):Int),.bool false,I4 0,I4 0,I4 0,.bool false,I4 0,I4 0,I4 0]:Array Value))) E7 (by exact CT _) (by exact BA _)) ?_;refine A4<|A0<|Zm Y<|Zh 0 B8 V rfl A5 Y<|Zl AE Y ?_;refine Zh 1 B8 V rfl A5 Y<|Zl AE Y ?_;refine Xr [_,_,_] Y call32 Y V (pK sp qw qz (B.length:Int) ((n%3:Nat):Int) ((1+n/3%9:Nat):Int) (Bd B) sv zn A1 zk) ?_;obtain ⟨K,ve⟩:∃K,K=Fg (Bd B) ((n%3:Nat):Int) ((1+n/3%9:Nat):Int):=⟨_,rfl⟩;rw [<-ve];refine Zm Y<|Zd Y V<|Zd Y V<|Ze (Al DP #[_,_,_,_,_])<|AD fun ob=>Xe (Xw AW #[I4 K.1.t,I4 K.1.k,I4 K.1.v.a,I4 K.1.v.b,I4 K.1.v.c]) ?_;refine AG Y<|Zn [0,3,4,5,6,7,8,9,10,11,12] ?_;refine Zx<|A0<|Zm Y<|Zh 2 B8 V rfl CD Y<|Xe (Zs CD Y Y V (hc:=by exact (V:_=(#[I4 ((n%3:Nat):Int),I4 ((1+n/3%9:Nat):Int),.bool K.2,I4 0,I4 0,I4 0,.bool false,I4 0,I4 0,I4 0]:Array Value))) (hi:=by(simp;done))) ?_;refine A4<|A0<|Zh 2 Fi V rfl DB Y<|Zo Wh (Pa #[_,_,_] HB DB Y) ?_;refine Zh 3 B8 rfl rfl DB Y<|Xe (BM DB Y Y HR Wu (by exact (rfl:_=(#[I4 ((n%3:Nat):Int),I4 ((1+n/3%9:Nat):Int),.bool K.2,I4 K.1.v.a,I4 K.1.v.b,I4 K.1.v.c,.bool false,I4 0,I4 0,I4 0]:Array Value))) E7 As (by exact BA _)) ?_;refine A4<|Zb [12,0,3,4,5,6,7,8,9,10] ?_;refine D7 (e0:=[(12,_)]) (H0:=[[(cb,.cells #[I4 ((n%3:Nat):Int),I4 ((1+n/3%9:Nat):Int),.bool K.2,I4 K.1.v.a,I4 K.1.v.b,I4 K.1.v.c,.bool false,I4 0,I4 0,I4 0] 69 (0,0))]]) (fun e H=>∃(hb:Bool),(hb=sH K.2 m)/\e=[]/\H=[[(cb,.cells #[I4 ((n%3:Nat):Int),I4 ((1+n/3%9:Nat):Int),.bool K.2,I4 K.1.v.a,I4 K.1.v.b,I4 K.1.v.c,.bool hb,I4 0,I4 0,I4 0] 69 (0,0))]]) Wp ?hx_9 ?hy_9
   case hx_9=>
    refine Zg<|Zm Y<|Zv (Br Y)<|Zm Y<|Af (t:=77) Y V (fun hh=>?_) (fun hh=>?_)
    ·
     refine A7 Y V<|A7 Y V<|A7 Y V<|Zv (AX Y Y)<|Zh 6 B8 V rfl CD Y<|Xe (Zs CD Y Y V (hi:=by(simp;done))) ?_;refine Z0<|Zn [0,3,4,5,6,7,8,9,10] ?_;refine BL (e':=[]) (H':=[[(cb,.cells #[_,_,_,_,_,_,_,_,_,_] 69 (0,0))]]) ?_;exact ⟨_,by unfold sH;(rw [hh];rfl),V,V⟩
    refine Zf Y Y ?_
    (refine Gp Y (FQ (n:=4) Y Y ?_) rfl rfl ?_;(focus (omega)))
    refine Yg (DF (n:=0) Y Y)<|Zv (AL Y Y)<|Zh 6 B8 V rfl CD Y<|Xe (Zs CD Y Y V (hi:=by(simp;done))) ?_;refine Z0<|Zn [0,3,4,5,6,7,8,9,10] ?_;refine BL (e':=[]) (H':=[[(cb,.cells #[_,_,_,_,_,_,_,_,_,_] 69 (0,0))]]) ?_;exact ⟨_,by unfold sH;(rw [hh];rfl),V,V⟩
   rintro _ _ ⟨hb,sw,rfl,rfl⟩;refine Zb [9,0,3,4,5,6,7,8,10] ?_;refine D7 (e0:=[(9,_)]) (H0:=[[(cb,.cells #[I4 ((n%3:Nat):Int),I4 ((1+n/3%9:Nat):Int),.bool K.2,I4 K.1.v.a,I4 K.1.v.b,I4 K.1.v.c,.bool hb,I4 0,I4 0,I4 0] 69 (0,0))]]) (fun e H=>∃(c:Chg),(c=jI K n m)/\e=[]/\H=[[(cb,.cells c.A15 69 (0,0))]]) Wp ?hx_10 ?hy_10
   case hx_10=>
    refine A0<|Zh 6 B8 V rfl CD Y<|Zl E4 Y ?_;refine A4<|AV Y (fun pq=>?_) (fun pq=>?_)
    ·
     refine Zg<|Zm Y ?_
     (refine BX (K6 (n:=4) Y Y ?_ ?_) ?_;(focus (omega));(focus (omega)))
     refine BX (FQ (n:=10) Y Y A1)<|Zm Y ?_
     (refine BX (K6 (n:=40) Y Y ?_ ?_) ?_;(focus (omega));(focus (omega)))
     refine BX (FQ (n:=9) Y Y A1)<|Ya (m:=1) Y Y<|Zm Y ?_
     (refine BX (K6 (n:=400) Y Y ?_ ?_) ?_;(focus (omega));(focus (omega)))
     refine BX (FQ (n:=40) Y Y A1) ?_
     (refine BX (GG Y Y (IntWalk.i64_in _ ?_)) ?_;(focus (omega)))
     refine Zv (BK (vs:=[(0,_),(1,_),(2,_)]) (cs:=#[_,_,_]) Y (DY cA Hj A5 rfl))<|Zh 7 B8 rfl rfl DB Y<|Xe (BM DB Y Y (by(simp [Value.oneCell',Value.cells];done)) Wu AM E7 (by exact CT _) (by exact BA _)) ?_;refine Z0<|Zn [0,3,4,5,6,7,8,10] ?_;refine BL (e':=[]) (H':=[[(cb,.cells #[_,_,_,_,_,_,_,_,_,_] 69 (0,0))]]) ?_;exact ⟨⟨_,_,_,K.1.v,_,⟨_,_,_⟩⟩,by unfold jI;(rw [<-sw,AK pq];rfl),V,V⟩
    refine AC<|Zn [0,3,4,5,6,7,8,10] ?_;refine BL (e':=[]) (H':=[[(cb,.cells #[_,_,_,_,_,_,_,_,_,_] 69 (0,0))]]) ?_;exact ⟨⟨_,_,_,K.1.v,_,⟨_,_,_⟩⟩,by unfold jI;(rw [<-sw,pq];rfl),V,V⟩
   rintro _ _ ⟨c,sJ,rfl,rfl⟩;have d9:c=Qn (Bd B) n m:=by rw [sJ,ve];rfl
   refine A0<|A3 Y<|Zq<|A0<|A3 Y<|AP<|Zb [13,14,0,3,4,5,6,7,8,10] ?_;refine BB (e0:=[(13,_),(14,_)]) (fun m e H=>∃(j:Nat) (b:Bool),m=cs.length -j/\(j<=cs.length/\b=(cs.take j).any (Ru c))/\e=[(13,.bool b),(14,I4 (j:Int))]/\H=[]) (by exact ⟨0,false,V,⟨C0 _,V⟩,V,V⟩) Wp ?_;rintro _ _ _ ⟨j,b,rfl,⟨hj,I⟩,rfl,rfl⟩;refine Zq<|A0<|Zm Y<|Zm Y<|Zv (Ab G3 Y)<|Zv (Au Y Y)<|A4<|Av Y (fun vo=>?_) (fun vo=>?_)
   ·
    refine AC<|Zx<|Zq<|AP ?_;obtain ⟨y,hy⟩:∃y,cs[j]?=some y:=⟨_,B4 vo⟩;obtain ⟨gl,qx,r9,zl,qb,qa,vw,ic⟩:=Dv G A1;injection qb with hv1 hv2 hv3
    subst hv1 qa;obtain ⟨l8,qj⟩:=uG ic hy;refine Az (n:=22) (0::1::3::3::15::31::63::3::131::511::1023::2047::2047::8191::16383::32767::2047::67583::262143::524287::1048575::2097151::[]) 0 A6 A6 V<|A2 0 V (AQ Y)<|A2 1 V (AQ Y)<|Cf (t:=105) Y (fun ax=>?_) (fun ax=>?_)
    ·
     rw [ax];refine AF 2 V<|AF 3 V<|AF 4 V<|AF 5 V<|AF 6 V<|AF 7 V<|AF 8 V<|AF 9 V<|AF 10 V<|AF 11 V<|AF 12 V<|AF 13 V<|AF 14 V<|AF 15 V<|AF 16 V<|AF 17 V<|AF 18 V<|AF 19 V<|A2 20 V (AX Y Y)<|A2 21 V (Aw Y)<|Ai<|Zn [0,3,4,5,6,7,8,10,13,14] ?_;refine A8<|Zx<|Zg<|Zm Y<|Ya (n:=1) Y Y<|AG Y<|Zn [13,14,0,3,4,5,6,7,8,10] ?_;refine Aa (e':=[(13,_),(14,_)]) (by exact ⟨j+1,_,V,⟨by omega,Xi hy I (by unfold Ru;(simp_all;done))⟩,V,V⟩)
    rw [ax];refine An 2 V (AQ Y)<|An 3 V (AQ Y)<|An 4 V (Ad G3 C1 Y Y A1)<|An 5 V (Aq (off:=0) B8 V rfl A5 Y)<|DQ 6 V Wh (BO AE Y (by simpa using l8)) ?_;refine An 7 V (AB (off:=0) B8 V rfl A5 Y)<|DQ 8 V Wh (BO AE Y AM) ?_;refine An 9 V (CP Y Y)<|An 10 V (AQ Y)<|Db (t:=114) Y (fun ax=>?_) (fun ax=>?_)
    ·
     rw [DA ax];refine An 11 V (AQ Y)<|An 12 V (AQ Y)<|An 13 V (Ad G3 C1 Y Y A1)<|An 14 V (Aq (off:=1) B8 V rfl A5 Y)<|DQ 15 V Wh (BO AE Y (by simpa using qj)) ?_;refine An 16 V (AB (off:=1) B8 V rfl A5 Y)<|DQ 17 V Wh (BO AE Y AM) ?_;refine An 18 V (CP Y Y)<|An 19 V (AX Y Y)<|A2 20 V (AL Y Y)<|A2 21 V (Aw Y)<|Ai<|Zn [0,3,4,5,6,7,8,10,13,14] ?_;refine A8<|Zx<|Zg<|Zm Y<|Ya (n:=1) Y Y<|AG Y<|Zn [13,14,0,3,4,5,6,7,8,10] ?_;refine Aa (e':=[(13,_),(14,_)]) (by exact ⟨j+1,_,V,⟨by omega,Xi hy I (by unfold Ru;(simp_all;done))⟩,V,V⟩)
    rw [CI ax];refine AF 11 V<|AF 12 V<|AF 13 V<|AF 14 V<|AF 15 V<|AF 16 V<|AF 17 V<|AF 18 V<|An 19 V (AL Y Y)<|A2 20 V (AL Y Y)<|A2 21 V (Aw Y)<|Ai<|Zn [0,3,4,5,6,7,8,10,13,14] ?_;refine A8<|Zx<|Zg<|Zm Y<|Ya (n:=1) Y Y<|AG Y<|Zn [13,14,0,3,4,5,6,7,8,10] ?_;refine Aa (e':=[(13,_),(14,_)]) (by exact ⟨j+1,_,V,⟨by omega,Xi hy I (by unfold Ru;(simp_all;done))⟩,V,V⟩)
   have ej:j=cs.length:=by omega
   subst ej;rw [FF]at I;refine Ay<|Zt<|Zt<|AR<|Zx<|Zb [8,13,0,3,4,5,6,7,10] ?_;refine D7 (e0:=[(8,_),(13,_)]) (H0:=[]) (fun e H=>(¬FL cs c k n)/\e=[]/\H=[]) Wp ?hx_15 ?hy_15
   case hx_15=>
    refine A0<|Zm Y<|Zm Y<|Af (t:=126) Y V (fun O=>?_) (fun O=>?_)
    ·
     repeat refine A7 Y rfl ?_
     refine Zv (AX Y Y)<|Zm Y ?_;repeat refine A7 Y rfl ?_
     refine Zv (AX Y Y)<|Z0<|Zn [0,3,4,5,6,7,10,149] ?_;refine Zx<|Cn Y<|Ay<|Zt<|AR<|Zx<|Zg<|Zm Y<|Ya (n:=1) Y Y<|AG Y<|Zn [6,7,0,3,4,5] ?_;refine Aa (e':=[(6,_),(7,_)]) (by exact ⟨k+1,_,cs,sl,rfl,⟨by omega,by omega,G,KH af X Z gm ek d9 (by first|exact J|(unfold FL;rw [<-I];first|(simp_all;done)|(simp_all;omega)))⟩,rfl,rfl⟩)
    refine Yf 2 B8 V rfl CD Y<|Yl E4 Y ?_;refine Zf Y Y ?_;refine Af (t:=129) Y V (fun O=>?_) (fun O=>?_)
    ·
     refine Yf 6 B8 V rfl CD Y<|Yl E4 Y ?_;refine Yg (AX Y Y)<|Zf Y Y ?_;refine Af (t:=133) Y V (fun O=>?_) (fun O=>?_)
     ·
      refine Yf 3 B8 V rfl DB Y<|E5 Y Wh (AA (cs:=#[_,_,_]) HB DB Y As AM) V rfl ?_;refine Yf 7 B8 V rfl DB Y<|E5 Y Wh (Pa #[_,_,_] HB DB Y) V rfl ?_;refine Yg (KZ A6 Hj Cl AE A5 Y Y) ?_;refine Yg (AX Y Y)<|Zv (AL Y Y)<|Zm Y<|Ao (t:=141) Y V (fun O=>?_) (fun O=>?_)
      ·
       repeat refine A7 Y rfl ?_
       refine Zv (AX Y Y)<|Z0<|Zn [0,3,4,5,6,7,10,149] ?_;refine Zx<|Cn Y<|Ay<|Zt<|AR<|Zx<|Zg<|Zm Y<|Ya (n:=1) Y Y<|AG Y<|Zn [6,7,0,3,4,5] ?_;refine Aa (e':=[(6,_),(7,_)]) (by exact ⟨k+1,_,cs,sl,rfl,⟨by omega,by omega,G,KH af X Z gm ek d9 (by first|exact J|(unfold FL;rw [<-I];first|(simp_all;done)|(simp_all;omega)))⟩,rfl,rfl⟩)
      refine Zf Y Y<|Yg (DF (n:=0) Y Y)<|Zf Y Y ?_;refine Ao (t:=144) Y V (fun O=>?_) (fun O=>?_)
      ·
       refine Zf Y Y ?_
       (refine Gp Y (FQ (n:=5) Y Y ?_) rfl rfl ?_;(focus (omega)))
       refine Yg (Cb (n:=0) Y Y)<|Yg (AX Y Y)<|Zv (AL Y Y)<|Z0<|Zn [0,3,4,5,6,7,10,149] ?_;refine Zx<|Av Y (fun gy=>?_) (fun gy=>?_)
       ·
        have J:FL cs c k n:=by unfold FL;rw [<-I];(simp_all;done)
        refine Ay<|Zt<|AR<|Zx<|Zg<|Zm Y<|Ya (n:=1) Y Y<|AG Y<|Zn [6,7,0,3,4,5] ?_;refine Aa (e':=[(6,_),(7,_)]) (by exact ⟨k+1,_,cs,sl,rfl,⟨by omega,by omega,G,KH af X Z gm ek d9 (by first|exact J|(unfold FL;rw [<-I];first|(simp_all;done)|(simp_all;omega)))⟩,rfl,rfl⟩)
       have J:¬FL cs c k n:=by unfold FL;rw [<-I];(simp_all;done)
       refine AC<|Zn [0,3,4,5,6,7,10] ?_;refine BL (e':=[]) (by exact ⟨(by exact J),V,V⟩)
      refine A7 Y V<|A7 Y V<|A7 Y V<|Yg (AL Y Y)<|Zv (AL Y Y)<|Z0<|Zn [0,3,4,5,6,7,10,149] ?_;refine Zx<|D5 Y<|AC<|Zn [0,3,4,5,6,7,10] ?_;refine BL (e':=[]) (by exact ⟨(by(unfold FL;rw [<-I];first|(simp_all;done)|(simp_all;omega))),rfl,rfl⟩)
     repeat refine A7 Y rfl ?_
     refine Yg (AL Y Y)<|Zv (AL Y Y)<|Zm Y<|Zf Y Y<|Yg (DF (n:=0) Y Y)<|Zf Y Y ?_;refine Ao (t:=144) Y V (fun O=>?_) (fun O=>?_)
     ·
      refine Zf Y Y ?_
      (refine Gp Y (FQ (n:=5) Y Y ?_) rfl rfl ?_;(focus (omega)))
      refine Yg (Cb (n:=0) Y Y)<|Yg (AX Y Y)<|Zv (AL Y Y)<|Z0<|Zn [0,3,4,5,6,7,10,149] ?_;refine Zx<|Av Y (fun gy=>?_) (fun gy=>?_)
      ·
       have J:FL cs c k n:=by unfold FL;rw [<-I];(simp_all;done)
       refine Ay<|Zt<|AR<|Zx<|Zg<|Zm Y<|Ya (n:=1) Y Y<|AG Y<|Zn [6,7,0,3,4,5] ?_;refine Aa (e':=[(6,_),(7,_)]) (by exact ⟨k+1,_,cs,sl,rfl,⟨by omega,by omega,G,KH af X Z gm ek d9 (by first|exact J|(unfold FL;rw [<-I];first|(simp_all;done)|(simp_all;omega)))⟩,rfl,rfl⟩)
      have J:¬FL cs c k n:=by unfold FL;rw [<-I];(simp_all;done)
      refine AC<|Zn [0,3,4,5,6,7,10] ?_;refine BL (e':=[]) (by exact ⟨(by exact J),V,V⟩)
     refine A7 Y V<|A7 Y V<|A7 Y V<|Yg (AL Y Y)<|Zv (AL Y Y)<|Z0<|Zn [0,3,4,5,6,7,10,149] ?_;refine Zx<|D5 Y<|AC<|Zn [0,3,4,5,6,7,10] ?_;refine BL (e':=[]) (by exact ⟨(by(unfold FL;rw [<-I];first|(simp_all;done)|(simp_all;omega))),rfl,rfl⟩)
    refine A7 Y V<|A7 Y V<|Yg (AL Y Y)<|Zf Y Y ?_;repeat refine A7 Y rfl ?_
    refine Yg (AL Y Y)<|Zv (AL Y Y)<|Zm Y<|Zf Y Y<|Yg (DF (n:=0) Y Y)<|Zf Y Y ?_;refine Ao (t:=144) Y V (fun O=>?_) (fun O=>?_)
    ·
     refine Zf Y Y ?_
     (refine Gp Y (FQ (n:=5) Y Y ?_) rfl rfl ?_;(focus (omega)))
     refine Yg (Cb (n:=0) Y Y)<|Yg (AX Y Y)<|Zv (AL Y Y)<|Z0<|Zn [0,3,4,5,6,7,10,149] ?_;refine Zx<|Av Y (fun gy=>?_) (fun gy=>?_)
     ·
      have J:FL cs c k n:=by unfold FL;rw [<-I];(simp_all;done)
      refine Ay<|Zt<|AR<|Zx<|Zg<|Zm Y<|Ya (n:=1) Y Y<|AG Y<|Zn [6,7,0,3,4,5] ?_;refine Aa (e':=[(6,_),(7,_)]) (by exact ⟨k+1,_,cs,sl,rfl,⟨by omega,by omega,G,KH af X Z gm ek d9 (by first|exact J|(unfold FL;rw [<-I];first|(simp_all;done)|(simp_all;omega)))⟩,rfl,rfl⟩)
     have J:¬FL cs c k n:=by unfold FL;rw [<-I];(simp_all;done)
     refine AC<|Zn [0,3,4,5,6,7,10] ?_;refine BL (e':=[]) (by exact ⟨(by exact J),V,V⟩)
    refine A7 Y V<|A7 Y V<|A7 Y V<|Yg (AL Y Y)<|Zv (AL Y Y)<|Z0<|Zn [0,3,4,5,6,7,10,149] ?_;refine Zx<|D5 Y<|AC<|Zn [0,3,4,5,6,7,10] ?_;refine BL (e':=[]) (by exact ⟨(by(unfold FL;rw [<-I];first|(simp_all;done)|(simp_all;omega))),rfl,rfl⟩)
   rintro _ _ ⟨J,rfl,rfl⟩;refine A0<|Zm Y<|Zv (Ab G3 Y)<|A3 Y<|Zb [15,0,3,4,5,6,7,10] ?_;refine D7 (e0:=[(15,_)]) (H0:=[]) (fun e H=>∃(j:Nat),(j<=cs.length/\Pv cs c cs.length=j)/\e=[(15,I4 (j:Int))]/\H=[]) Wp ?hx_27 ?hy_27
   case hx_27=>
    refine AP<|Zb [15,0,3,4,5,6,7,10] ?_;refine BB (e0:=[(15,_)]) (fun m e H=>∃(j:Nat),m=0+j/\(j<=cs.length/\Pv cs c j=Pv cs c cs.length)/\e=[(15,I4 (j:Int))]/\H=[]) (by exact ⟨cs.length,V,⟨CT _,V⟩,V,V⟩) Wp ?_;rintro _ _ _ ⟨j,rfl,⟨hj,U⟩,rfl,rfl⟩;refine Zq<|Zq<|Az (n:=35) (0::1::3::7::7::23::63::127::255::7::519::2047::4095::8191::8191::24575::65535::131071::262143::8191::532479::2097151::4194303::8388607::8388607::25165823::67108863::134217727::268435455::8388607::545259519::2147483647::4294967295::8589934591::17179869183::[]) 0 A6 A6 V<|A2 0 V (AQ Y)<|A2 1 V (DF (n:=0) Y Y)<|A2 2 V (AQ Y)<|Db (t:=154) Y (fun j3=>?_) (fun j3=>?_)
    ·
     rw [DA j3];obtain ⟨y,hy⟩:∃y,cs[j -1]?=some y:=⟨_,B4 A1⟩;obtain ⟨gl,qx,r9,zl,qb,qa,vw,ic⟩:=Dv G A1;injection qb with hv1 hv2 hv3
     subst hv1 qa;obtain ⟨l8,qj⟩:=uG ic hy;refine An 3 V (AQ Y)<|An 4 V (AQ Y) ?_
     (refine An 5 rfl (CL (n:=1) Y Y ?_ ?_) ?_;(focus (omega));(focus (omega)))
     refine An 6 V (Ad G3 C1 Y Y A1)<|An 7 V (Aq (off:=0) B8 V rfl A5 Y)<|DQ 8 V Wh (BO AE Y (by simpa using l8)) ?_;refine An 9 V (AB (off:=0) B8 V rfl A5 Y)<|DQ 10 V Wh (BO AE Y AM) ?_;refine An 11 V (Ep Y Y)<|An 12 V (AQ Y)<|Db (t:=164) Y (fun bn=>?_) (fun bn=>?_)
     ·
      rw [DA bn];refine AF 13 V<|AF 14 V<|AF 15 V<|AF 16 V<|AF 17 V<|AF 18 V<|AF 19 V<|AF 20 V<|AF 21 V<|AF 22 V<|AF 23 V<|AF 24 V<|AF 25 V<|AF 26 V<|AF 27 V<|AF 28 V<|AF 29 V<|AF 30 V<|AF 31 V<|AF 32 V<|An 33 V (AX Y Y)<|A2 34 V (AX Y Y)<|Ai<|Zn [0,3,4,5,6,7,10,15,186] ?_;refine Zx<|Cn Y<|AC<|Zx<|AP<|Zg<|Zm Y<|Yb (n:=1) Y Y<|AG Y<|A8<|Zn [15,0,3,4,5,6,7,10] ?_;refine Aa (e':=[(15,_)]) (by exact ⟨j -1,V,⟨by omega,(YV j3 hy (by unfold M5;omega)).symm.trans U⟩,V,V⟩)
     rw [CI bn];refine An 13 V (AQ Y)<|An 14 V (AQ Y) ?_
     (refine An 15 rfl (CL (n:=1) Y Y ?_ ?_) ?_;(focus (omega));(focus (omega)))
     refine An 16 V (Ad G3 C1 Y Y A1)<|An 17 V (Aq (off:=0) B8 V rfl A5 Y)<|DQ 18 V Wh (BO AE Y (by simpa using l8)) ?_;refine An 19 V (AB (off:=0) B8 V rfl A5 Y)<|DQ 20 V Wh (BO AE Y AM) ?_;refine An 21 V (CP Y Y)<|An 22 V (AQ Y)<|Db (t:=174) Y (fun bn=>?_) (fun bn=>?_)
     ·
      rw [DA bn];refine An 23 V (AQ Y)<|An 24 V (AQ Y) ?_
      (refine An 25 rfl (CL (n:=1) Y Y ?_ ?_) ?_;(focus (omega));(focus (omega)))
      refine An 26 V (Ad G3 C1 Y Y A1)<|An 27 V (Aq (off:=1) B8 V rfl A5 Y)<|DQ 28 V Wh (BO AE Y (by simpa using qj)) ?_;refine An 29 V (AB (off:=1) B8 V rfl A5 Y)<|DQ 30 V Wh (BO AE Y AM) ?_;refine An 31 V (Ep Y Y)<|An 32 V (AX Y Y)<|An 33 V (AL Y Y)<|A2 34 V (AX Y Y)<|Ai<|Zn [0,3,4,5,6,7,10,15,186] ?_;refine Zx<|Av Y (fun zu=>?_) (fun zu=>?_)
      ·
       refine AC<|Zx<|AP<|Zg<|Zm Y<|Yb (n:=1) Y Y<|AG Y<|A8<|Zn [15,0,3,4,5,6,7,10] ?_;refine Aa (e':=[(15,_)]) (by exact ⟨j -1,V,⟨by omega,(YV j3 hy (by unfold M5;omega)).symm.trans U⟩,V,V⟩)
      refine Ay<|Zt<|Zt<|AR<|Zn [15,0,3,4,5,6,7,10] ?_;refine BL (e':=[(15,_)]) (by exact ⟨j,⟨hj,U.symm.trans (by exact YU A1 hy (by unfold M5;first|omega|(simp_all;omega)))⟩,rfl,rfl⟩)
     rw [CI bn];refine AF 23 V<|AF 24 V<|AF 25 V<|AF 26 V<|AF 27 V<|AF 28 V<|AF 29 V<|AF 30 V<|AF 31 V<|An 32 V (AL Y Y)<|An 33 V (AL Y Y)<|A2 34 V (AX Y Y)<|Ai<|Zn [0,3,4,5,6,7,10,15,186] ?_;refine Zx<|D5 Y<|Ay<|Zt<|Zt<|AR<|Zn [15,0,3,4,5,6,7,10] ?_;refine BL (e':=[(15,_)]) (by exact ⟨j,⟨hj,U.symm.trans (by exact YU A1 hy (by unfold M5;first|omega|(simp_all;omega)))⟩,rfl,rfl⟩)
    rw [CI j3];refine AF 3 V<|AF 4 V<|AF 5 V<|AF 6 V<|AF 7 V<|AF 8 V<|AF 9 V<|AF 10 V<|AF 11 V<|AF 12 V<|AF 13 V<|AF 14 V<|AF 15 V<|AF 16 V<|AF 17 V<|AF 18 V<|AF 19 V<|AF 20 V<|AF 21 V<|AF 22 V<|AF 23 V<|AF 24 V<|AF 25 V<|AF 26 V<|AF 27 V<|AF 28 V<|AF 29 V<|AF 30 V<|AF 31 V<|AF 32 V<|AF 33 V<|A2 34 V (AL Y Y)<|Ai<|Zn [0,3,4,5,6,7,10,15,186] ?_;refine Zx<|D5 Y<|Ay<|Zt<|Zt<|AR<|Zn [15,0,3,4,5,6,7,10] ?_;refine BL (e':=[(15,_)]) (by exact ⟨j,⟨hj,U.symm.trans (by exact qB A1)⟩,V,V⟩)
   rintro _ _ ⟨j,⟨hj,Gw⟩,rfl,rfl⟩;refine Az (n:=12) (0::0::0::7::0::16::0::0::192::496::1023::2047::[]) 1568 A6 A6 V<|A2 0 V (AQ Y)<|A2 1 V (AQ Y)<|A2 2 V (AQ Y)<|A2 3 V (Oe G3 C1 Y Y Y A1)<|E6 4 V Wh (Pa #[_,_,_,_,_,_,_,_,_,_] Fk C1 Y) ?_;refine A2 6 V (AQ Y)<|A2 7 V (AQ Y)<|A2 8 V (C8 G3 C1 Y Y A1)<|Yw 5 511 V (Ah (vs:=[_]) (cs:=[_,_,_,_,_,_,_,_,_,_]) G3 C1 LI Y V rfl V rfl V)<|AD fun gb=>Yw 9 1023 V (BQ (by_:=80) (sz:=10) G3 (V:Tryz.prog.info? 69=some Tryz.t69) V rfl V rfl Y (II 10 69 gb 1 (Cg [c]) V AN) Y (Js G j (cs.length -j) _ A1) Wo Wo (by exact fun u hu=>PI cs u (I0 hu)) A1 A1) ?_;rintro _ _ ⟨Ps,o8,rfl⟩;obtain ⟨MB,LD,rfl⟩:=o8.form;refine Yw 10 2047 V (Qv (by_:=80) (sz:=10) G3 (V:Tryz.prog.info? 69=some Tryz.t69) V rfl V rfl Y (Jr G j _ hj) Y (iH o8) Wo Wo A1 A1 A1) ?_;rintro _ _ ⟨Qd,o9,rfl⟩;have wz:=BR o9 (n':=(cs.take j++[c]++cs.drop j).length) (xs':=Cg (cs.take j++[c]++cs.drop j)) (by simp only [B7,C2,C3,E0];omega) (by rw [Iu,Iu,Ua,Ub,CA])
   obtain ⟨MC,Mx,rfl⟩:=o9.form;refine A2 11 V (Aw Y)<|Ai<|A8<|Zx<|Zg<|Zm Y<|Ya (n:=1) Y Y<|AG Y<|Zn [6,7,0,3,4,5] ?_;refine Aa (e':=[(6,_),(7,_)]) (by exact ⟨k+1,_,cs.take j++[c]++cs.drop j,_,V,⟨by omega,by simp only [B7,C2,C3,E0];omega,wz,uD af X Z gm ek d9 J Gw⟩,V,V⟩)
  have l9:cs=GA (Bd B) z 3:=by have e3:k=3:=A1;subst e3;exact af
  refine Ay<|Zt<|Zt<|AR<|Zx<|A0<|Zm Y<|Zp Y V<|Zh 1 Hs V rfl A5 Y<|Zl AE Y ?_;refine Ya (n:=1) Y Y<|Zm Y<|Zv (BK (vs:=[(0,_),(1,_)]) (cs:=#[_,_]) Y (AY (pl:=#[(0,1),(1,1)]) Ss GF (fun _=>by kernel_rfl) V))<|Ze (Al Ss #[_,_])<|AD fun rb=>Xe (BM F2 Y Y (by(simp [Value.oneCell',Value.cells];done)) Wu (by exact (rfl:_=(#[I4 ((B.length:Int)+1),.slice gw cs.length cw]:Array Value))) E7 (by exact CT _) (by exact BA _)) ?_;refine A4<|A0<|Zm Y<|Zo Wh (Pa #[_,_] Hc F2 Y) ?_;refine Zc [_,_] Y call33 Y V (pM sp (B.length:Int) ((B.length:Int)+1) _ (Bd B) sv sl gw cw cs l5 (QH G A1) zk Hf A1) ?_;rintro _ _ ⟨_,y9,rfl⟩;rcases y9 with⟨j5,v2,zm,rfl,zf,rfl⟩|⟨j5,rfl,rfl⟩
  ·
   refine AG Y<|Zn [0,3,4,5,16,17] ?_;refine Zx<|A0<|Zm Y<|Zv (Cb (n:=0) Y Y)<|A4<|Av Y (fun he=>?_) (fun he=>?_)
   ·
    have pz:F5 (B++[⟨(B.length:Int)+1,gw,cw,cs⟩]):=cu.snoc j5 (by show cs.length<=3;omega);have q9:(((B++[(⟨(B.length:Int)+1,gw,cw,cs⟩:BU)]).length:Nat):Int)=(B.length:Int)+1:=by rw [B7,E0];omega
    have zi:Bc 5 83 v2 (Bd (B++[⟨(B.length:Int)+1,gw,cw,cs⟩])).length (Ae (Bd (B++[⟨(B.length:Int)+1,gw,cw,cs⟩]))) zm:=by rw [Gc];exact zf
    have sj:∀r∈B++[(⟨(B.length:Int)+1,gw,cw,cs⟩:BU)],Ck (MM++sl) (.slice r.q r.cs.length r.cap) r.cs:=by
     intro r hr;rcases B9.1 hr with hr|hr
     · exact Je (pg r hr) sl
     · rw [BT.1 hr];exact Gt (QH G A1) MM
    refine CK (s1:=MM) (s2:=sl) Wo Wo ?_;refine Zg<|Zm Y<|Zo Wh (Pa #[_,_] Hc F2 Y) ?_;refine Ze (Ah (vs:=[_]) (cs:=[_,_]) GB F2 Ss Y V rfl V rfl V)<|AD fun gq=>Ze (BQ (by_:=32) (sz:=2) GB (V:Tryz.prog.info? 50=some Tryz.t50) V rfl V rfl Y (kv) Y (DJ 2 gq 1 1 50 (0,0) [I4 ((B.length:Int)+1),.slice gw cs.length cw] V) Wo Wo Fm A1 A1) ?_;rintro _ _ ⟨sO,y5,rfl⟩;have yt:=BR y5 (n':=(B++[(⟨(B.length:Int)+1,gw,cw,cs⟩:BU)]).length) (xs':=Dp (B++[⟨(B.length:Int)+1,gw,cw,cs⟩])) (by rw [B7,E0]) (by rw [KU];rfl)
    obtain ⟨gO,cO,rfl⟩:=y5.form;refine AG Y<|A8<|Zx<|Zg<|Zm Y<|Ya (n:=1) Y Y<|AG Y<|Zn [3,5,0,4] ?_;refine Aa (e':=[(3,_),(5,_)]) (by exact ⟨i+1,B++[⟨(B.length:Int)+1,gw,cw,cs⟩],_,_,zm,sO,MM++sl,rfl,⟨by omega,pz,by rw [B7,E0];omega,zi,yt,sj,wJ ql p9 l9 j5⟩,rfl,by rw [q9]⟩)
   exact absurd V he
  refine AG Y<|Zn [0,3,4,5,16,17] ?_;refine Zx<|A0<|Zm Y<|Zv (Cb (n:=0) Y Y)<|A4<|Av Y (fun he=>by cases he)<|fun he=>AC<|A8<|Zx<|Zg<|Zm Y<|Ya (n:=1) Y Y<|AG Y<|Zn [3,5,0,4] ?_;refine Aa (e':=[(3,_),(5,_)]) (by exact ⟨i+1,B,_,_,sv,so,MM,V,⟨by omega,cu,by omega,l5,kv,pg,yo ql p9 l9 j5⟩,V,V⟩)
 refine Ay<|Zt<|Zt<|AR<|Zx<|Zq<|CK (s1:=so) (s2:=MM) Wo Wo ?_;refine Zg<|Zm Y<|A3 Y<|AJ<|AO rfl results9 Y (by exact ⟨B,_,cu,by omega,by rw [p9,Hi A1],Jv kv A1 pg,rfl⟩)
theorem iK{e:TypeId}{xs:List Value}{v:Value}{s:List A9}(h:Row e v xs s):xs.length<=maxLen:=by
 rcases h with⟨_,h0,_⟩|⟨g,cap,cur,z,_,_,h1,h2,_⟩
 · rw [h0];exact C0 _
 · omega
structure QN where
 a:Int
 b:Int
 c:Int
 d:Int
 e:Int
def ZO(n:Int):Prop:=-9223372036854775808<=n/\n<=9223372036854775807
def QN.fits(z:QN):Prop:=ZO z.a/\ZO z.b/\ZO z.c/\ZO z.d/\ZO z.e
def QN.q(z:QN):QM:=GU z.a z.b z.c z.d z.e
theorem QN.ok(z:QN):BI z.q:=dH _ _ _ _ _
def Xn(M:List A9)(v:Value)(ys:List QN):Prop:=∃p cap,v= .slice p ys.length cap/\(ys.length<=maxLen/\ys.length<=cap)/\∀(i:Nat) (z:QN),ys[i]?=some z->z.fits/\∃g off cur T zz,p=some ⟨g,off,none⟩/\(g,Obj.cells cur T zz)∈M/\off+i*5+5<=cur.size/\cur.extract (off+i*5) (off+i*5+5)=#[I4 z.a,I4 z.b,I4 z.c,I4 z.d,I4 z.e]
def Xm(M:List A9)(v:Value)(ns:List Int):Prop:=∃p cap,v= .slice p ns.length cap/\(ns.length<=maxLen/\ns.length<=cap)/\∀(i:Nat) (n:Int),ns[i]?=some n->ZO n/\∃g off cur T zz,p=some ⟨g,off,none⟩/\(g,Obj.cells cur T zz)∈M/\cur[off+i]?=some (I4 n)
theorem yV{va vb:Value}{xs ys:List ByteArray}{sa sb:List A9}(K:Row 9 va (xs.map Value.string) sa)(O:Row 9 vb (ys.map Value.string) sb):BJ prog 23 #[va,vb] [sa,sb] (.bool (decide (xs=ys))):=by
 have gq:=mL;have af:=iK K
 have ax:=iK O;obtain ⟨pa,ca,rfl⟩:=K.form;obtain ⟨pb,cb,rfl⟩:=O.form;simp only [B2]at af ax K O⊢;refine Se func23 ntmps23 [0,1] ?_;intro u R;refine A0<|A3 Y<|Zq<|A0<|Zm Y<|Zv (Ab CN Y)<|Zm Y<|Zv (Ab CN Y)<|Zv (FR Y Y)<|A4<|Av Y (fun h1=>?_) (fun h1=>?_)
 ·
  refine A0<|A3 Y<|AJ<|Zt<|AO rfl results23 Y (by exact ⟨by rw [CI (fun e=>h1 (by rw [e]))],rfl⟩)
 have hl:xs.length=ys.length:=by omega
 refine AC<|Zx<|Zq<|A0<|A3 Y<|AP<|Zb [5,0,1] ?_;refine BB (e0:=[(5,_)]) (fun m e H=>∃(i:Nat),m=xs.length -i/\(i<=xs.length/\xs.take i=ys.take i)/\e=[(5,I4 (i:Int))]/\H=[]) (by exact ⟨0,V,⟨C0 _,V⟩,V,V⟩) Wp ?_;rintro _ _ _ ⟨i,rfl,⟨hi,g⟩,rfl,rfl⟩;refine Zq<|A0<|Zm Y<|Zm Y<|Zv (Ab CN Y)<|Zv (Au Y Y)<|A4<|Av Y (fun bn=>?_) (fun bn=>?_)
 ·
  obtain ⟨x,U⟩:∃x,xs[i]?=some x:=⟨_,B4 A1⟩;obtain ⟨ga,ek,B,za,cu,rfl,gy,X⟩:=OX K (n:=xs.length) (by rw [B2]) A1;injection cu with ea1 ea2 ea3
  subst ea1 ea3;have I:B[i]?=some (.string x):=by rw [X i A1,DH,U];rfl
  obtain ⟨y,hy⟩:∃y,ys[i]?=some y:=⟨_,B4 A1⟩;obtain ⟨gb,gm,G,zb,cO,rfl,ic,Z⟩:=OX O (n:=ys.length) (by rw [B2]) A1;injection cO with eb1 eb2 eb3
  subst eb1 eb3;have J:G[i]?=some (.string y):=by rw [Z i A1,DH,hy];rfl
  refine AC<|Zx<|Zq<|AP<|Zq<|Az (n:=9) (0::0::3::7::0::0::48::112::255::[]) 0 A6 A6 V<|A2 0 V (AQ Y)<|A2 1 V (AQ Y)<|A2 2 V (BS CN F0 Y Y A1)<|B3 3 V HC Y (hv:=by exact I) ?_;refine A2 4 V (AQ Y)<|A2 5 V (AQ Y)<|A2 6 V (BS CN F0 Y Y A1)<|B3 7 V HC Y (hv:=by exact J) ?_;refine A2 8 V (kR Y Y)<|Ai<|Zn [0,1,5,25] ?_;refine Zx<|Av Y (fun h2=>?_) (fun h2=>?_)
  ·
   refine A0<|A3 Y<|AJ<|Ac<|Zt<|Zt<|Ac<|Zt<|AO rfl results23 Y (by exact ⟨by rw [CI (fun e=>h2 (by rw [e,hy]at U;exact (PA U).symm))],rfl⟩)
  have d9:x=y:=HS.1 h2;refine AC<|A8<|Zx<|Zg<|Zm Y<|Ya (n:=1) Y Y<|AG Y<|Zn [5,0,1] ?_;refine Aa (e':=[(5,_)]) (by exact ⟨i+1,rfl,⟨by omega,by rw [Bh U,Bh hy,g,d9]⟩,rfl,rfl⟩)
 have ei:i=xs.length:=by omega
 refine Ay<|Zt<|Zt<|AR<|Zx<|A0<|A3 Y<|AJ<|AO V results23 Y (by
  refine ⟨?_,V⟩;rw [ei,FF,hl,FF]at g;rw [DA g])
end Go.Proofs.YteaiajghbkenoaaGreatDoor
namespace Go.Proofs.YteaiajghbkenoaaGreatDoor
open Go.Proofs.Tryz
open Go Go.RowKit Gw
set_option maxRecDepth 100000
attribute [local irreducible] Gw.At Gw.Nx Gw.Ops
open Go.ChangeShapes Go.WideShapes Go.Deep
theorem oe(g:Addr):g.add 0=g:=by simp [Addr.add]
theorem uW{w:World}{a:Addr}{v:Value}(h:w.cell? a=some v):a=⟨a.block,a.off,none⟩:=by
 cases a with|mk b o s=>
 cases s with
 |none=>rfl
 |some s=>
  simp only [World.cell?]at h;split at h<;>simp at h
theorem Vv{w:World}{g i:Nat}{v:Value}(h:w.cell? ⟨g,i,none⟩=some v):∃cur T z,w.heap[g]?=some (.cells cur T z)/\cur[i]?=some v:=by
 unfold World.cell? at h;simp only at h;split at h
 · rename_i c T z hc
   exact ⟨c,T,z,hc,by simpa using h⟩
 · cases h
section
variable{H:Type}{enc:TypeId×Value->H}{P:Program}{w:World}{base:Nat}{held:Bool}
end
def WN(w:World):List A9:=(List.range w.heap.size).filterMap fun b=>(w.heap[b]?).map fun o=>(b,o)
theorem VY{w:World}{b:Nat}{o:Obj}:(b,o)∈WN w↔w.heap[b]?=some o:=by
 unfold WN;rw [X1];constructor
 · rintro ⟨a,_,m⟩
   obtain ⟨o',g,h2⟩:=me.1 m;injection h2 with e1 e2
   subst e1 e2;exact g
 · intro h
   refine ⟨b,?_,by rw [h];rfl⟩;rw [Iv];rcases EV b w.heap.size with g|g
   · exact g
   · simp [HT g]at h
theorem bH(w:World):((WN w).map (·.1)).Nodup:=by
 have:∀l:List Nat,((l.filterMap fun b=>(w.heap[b]?).map fun o=>(b,o)).map (·.1)).Sublist l:=by
  intro l;induction l with
  |nil=>simp
  |cons a l ih=>
   rw [j8];cases h:w.heap[a]?with
   |none=>simp only [Option.map_none];exact ih.cons a
   |some o=>simp only [Mz,DO];exact ih.cons_cons a
 exact List.Nodup.sublist (this _) ft
def LY(w:World)(ks:List Nat):List A9:=(WN w).filter fun c=>!ks.contains c.1
theorem Lr{w:World}{g:List Nat}{b:Nat}{o:Obj}(h:w.heap[b]?=some o)(m:b∉g):(b,o)∈LY w g:=by
 unfold LY;rw [F1];exact ⟨VY.2 h,by simp [m]⟩
theorem lK{P:Program}{f:FuncId}{args:Array Value}{v:Value}{w:World}(L:List A9)(U:∀c∈L,w.heap[c.1]?=some c.2)(hn:(L.map (·.1)).Nodup){H:Hp}(B:H.flatten=L++LY w (L.map (·.1)))(h:BJ P f args H v):
 Calls P f args w fun e O=>e= .returned v/\Below w.heap.size w O:=by
 have K:Sat w (H++[]) w:=by
  refine ⟨V,V,V,?_,?_⟩
  · rw [Cp,B,BW,Ge]
    refine ⟨hn,?_,?_⟩
    · exact List.Nodup.sublist (SU.map _) (bH w)
    · intro a ha b hb e
      subst e;obtain ⟨c,hc,rfl⟩:=Bk.1 hb;unfold LY at hc;have:=(F1.1 hc).2
      simp only [SZ,List.contains_eq_mem,Mn]at this;exact this ha
  · intro p I
    rw [Cp,B,B9]at I;rcases I with I|I
    · exact U p I
    · exact VY.1 (F1.1 I).1
 refine Calls.mono (h w [] w K) fun e O he=>?_;rcases he with⟨v',H',rfl,⟨rfl,rfl⟩,m⟩|⟨_,_,_,hf,_⟩
 · refine ⟨rfl,m.os,m.tape,m.output,?_,?_⟩
   · rcases OS w.heap.size with h0|h0
     · omega
     · have X:w.heap.size -1<w.heap.size:=by omega
       have J:w.heap[w.heap.size -1]?=some w.heap[w.heap.size -1]:=HD X;have:O.heap[w.heap.size -1]?=some w.heap[w.heap.size -1]:=by
        by_cases G:(w.heap.size -1)∈L.map (·.1)
        · obtain ⟨c,hc,G⟩:=Bk.1 G
          have g:=m.get c (by rw [Cp,B];exact DS _ hc);have h2:=U c hc
          rw [G]at g h2;rw [g,<-h2,J]
        · exact m.get (_,_) (by rw [Cp,B];exact G1 _ (Lr J G))
       rcases EV (w.heap.size -1) O.heap.size with g|g
       · omega
       · rw [HT g]at this;cases this
   · intro k G
     have J:w.heap[k]?=some w.heap[k]:=HD G;by_cases Z:k∈L.map (·.1)
     · obtain ⟨c,hc,rfl⟩:=Bk.1 Z
       have g:=m.get c (by rw [Cp,B];exact DS _ hc);rw [g,U c hc]
     · rw [J]
       exact m.get (_,_) (by rw [Cp,B];exact G1 _ (Lr J Z))
 · exact hf.elim
theorem Xx{P:Program}{w:World}{n:String}{g:Nat}{cs:Array Value}(m:P.globalNamed n=some g)(h:w.var? P n=some cs):∃T z,w.heap[g]?=some (.cells cs T z):=by
 unfold World.var? at h;rw [m,I2]at h;split at h
 · rename_i c T z hc
   injection h with e
   subst e;exact ⟨T,z,hc⟩
 · cases h
theorem sS:Tryz.prog.globalNamed "cachetier/digest.round"=some 4:=by kernel_rfl
theorem yN:(Tryz.prog.globals[4]?).map (·.type)=some 431:=by kernel_rfl
theorem c32:Tryz.prog.cellsOf 300=1:=by kernel_rfl
theorem tA:Tryz.prog.cellsOf 431=64:=by kernel_rfl
theorem oR:Tryz.prog.globalNamed "internal/strconv.uint64pow10"=some 1:=by kernel_rfl
theorem ri:(Tryz.prog.globals[1]?).map (·.type)=some 359:=by kernel_rfl
theorem c64:Tryz.prog.cellsOf 302=1:=by kernel_rfl
theorem tD:Tryz.prog.cellsOf 359=20:=by kernel_rfl
def om:List Int:=En.map fun x=>(x.toNat:Int)
theorem dB:(Rows.laid_cachetier_digest_round:DataW Unit)=Lib.tabData .u32 om:=by kernel_rfl
theorem YK:(om.map fun z=>Value.int .u32 z).toArray=(En.map Co).toArray:=by kernel_rfl
theorem qA:(Rows.laid_internal_strconv_uint64pow10:DataW Unit)=Lib.tabData .u64 Lib.pow10Tab:=by kernel_rfl
def QK(W:World)(Tg:TypeId)(zg:Nat×Nat)(Tp:TypeId)(zp:Nat×Nat):Prop:=W.heap[4]?=some (.cells (En.map Co).toArray Tg zg)/\W.heap[1]?=some (.cells (Lib.pow10Tab.map fun z=>Value.int .u64 z).toArray Tp zp)
theorem qW{a b:String×DataW Unit}{r:List (String×DataW Unit)}{W:World}(h:laidMet prog (a::b::("internal/strconv.uint64pow10",Rows.laid_internal_strconv_uint64pow10)::("cachetier/digest.round",Rows.laid_cachetier_digest_round)::r) W):
 ∃Tg zg Tp zp,QK W Tg zg Tp zp:=by
 have h1:=h.tail.tail;have h3:=h1.tail
 rw [qA]at h1;rw [dB]at h3;have h2:=Lib.tabIs_of_head oR ri underlying359 W4 c64 tD h1
 have h5:=Lib.tabIs_of_head sS yN Th Sp c32 tA h3;unfold Lib.TabIs at h2 h5;rw [YK]at h5;obtain ⟨Tg,zg,hb⟩:=Xx sS h5;obtain ⟨Tp,zp,hc⟩:=Xx oR h2;exact ⟨Tg,zg,Tp,zp,hb,hc⟩
def rY:Value->Bool
 | .string _=>true
 | .slice _ _ _=>true
 | .bool _=>true
 | .int .i64 _=>true
 |_=>false
theorem TU{W:World}{J K:TypeId}{O U:Nat×Nat}(G:QK W J O K U)
 {g i:Nat}{cur:Array Value}{T:TypeId}{z:Nat×Nat}(B:W.heap[g]?=some (.cells cur T z)){y:Value}(hc:cur[i]?=some y)(I:rY y=true):g∉ [4,1]:=by
 intro m;simp only [D0,RM,SD]at m;rcases m with m|m
 · subst m
   rw [G.1]at B;injection B with e
   injection e with e1 _ _
   subst e1;rw [fh,DH]at hc;obtain ⟨u,_,rfl⟩:=me.1 hc;simp [Co,rY]at I
 · subst m
   rw [G.2]at B;injection B with e
   injection e with e1 _ _
   subst e1;rw [fh,DH]at hc;obtain ⟨u,_,rfl⟩:=me.1 hc;simp [rY]at I
theorem wP{f:FuncId}{args:Array Value}{v:Value}{W:World}{g m:TypeId}{B G:Nat×Nat}(I:QK W g B m G)
 (h:BJ prog f args [[(4,.cells (En.map Co).toArray g B)],[(1,.cells (Lib.pow10Tab.map fun z=>Value.int .u64 z).toArray m G)],LY W [4,1]] v):
 Calls prog f args W fun e J=>e= .returned v/\Below W.heap.size W J:=
 lK [(4,.cells (En.map Co).toArray g B),(1,.cells (Lib.pow10Tab.map fun z=>Value.int .u64 z).toArray m G)] (by
  intro c hc;simp only [D0,RM,SD]at hc;rcases hc with rfl|rfl
  · exact I.1
  · exact I.2) B0 B0 h
theorem IM{α:Type}:∀(n:Nat) (p:Nat->α->Prop),(∀i,i<n->∃o,p i o)->∃os:List α,os.length=n/\∀i o,os[i]?=some o->p i o
 |0,_,_=>⟨[],rfl,fun i o h=>by cases h⟩
 |n+1,p,h=>by
  obtain ⟨os,g,h2⟩:=IM n p (fun i hi=>h i (by omega));obtain ⟨o,m⟩:=h n (by omega);refine ⟨os++[o],by simp [g],fun i o' hi=>?_⟩;rw [mx]at hi;split at hi
  · exact h2 i o' hi
  · rename_i hlt
    have:i=n:=by
     have:=(BE.1 hi).1;simp at this;omega
    subst this;rw [g,W1]at hi;simp only [Wk,Vc]at hi;subst hi;exact m
section
variable{H:Type}{enc:TypeId×Value->H}{P:Program}{W:World}{base:Nat}{held:Bool}
theorem NZ{t e:TypeId}{s I:Nat}{cs:List Value}{x:DataW H×List MemPlace}(ht:P.underlying t=some (.slice e))(hc:P.cellsOf e=s)(hs:0<s)(h:DataW.trod enc P W base (fun _=>true) held I t cs=some x):
 ∃p len cap,cs=[.slice p len cap]/\(len<=maxLen/\len<=cap)/\∀i,i<len->∃B n z,B.length=s/\DataW.trod enc P W base (fun _=>true) held n e B=some z/\
  ∃g o cur T zz,p=some ⟨g,o,none⟩/\W.heap[g]?=some (.cells cur T zz)/\∀j,j<s->cur[o+i*s+j]?=B[j]?:=by
 rcases open_slice ht h with⟨rfl,_⟩|⟨a,len,cap,m,n,D,Pl,rfl,_,hl,hm,hmm,_,hel⟩
 · exact ⟨none,0,0,rfl,⟨C0 _,CT _⟩,fun i hi=>by omega⟩
 · simp only [Hh]at hmm
   subst hmm;refine ⟨some a,len,m,V,⟨by omega,hl⟩,fun i hi=>?_⟩;have G:a=⟨a.block,a.off,none⟩:=by
    obtain ⟨cs0,Z,_⟩:=hel 0 A1;rw [hc]at Z;obtain ⟨_,af,gg⟩:=World.cells?_some Z;have g9:=gg 0 hs
    rw [B4 (l:=cs0) (i:=0) A1,eI,oe,oe]at g9;exact uW g9
   obtain ⟨B,h1,h2⟩:=hel i A1;rw [hc]at h1;obtain ⟨_,K,hg⟩:=World.cells?_some h1;refine ⟨B,n,_,K,h2,?_⟩;have h9:=hg 0 hs
   rw [B4 (l:=B) (i:=0) A1,G,CU,CU]at h9;obtain ⟨cur,T,zz,hb,_⟩:=Vv h9;refine ⟨a.block,a.off,cur,T,zz,by rw [<-G],hb,fun j hj=>?_⟩;have O:=hg j hj
   rw [B4 (l:=B) (i:=j) A1]at O⊢;rw [G,CU,CU]at O;obtain ⟨X,T2,ax,J,U⟩:=Vv O;rw [hb]at J;injection J with e
   injection e with e1 _ _
   rw [e1];exact U
end
theorem zJ:Tryz.prog.cellsOf 3=1:=by kernel_rfl
theorem tB:Tryz.prog.cellsOf 81=6:=by kernel_rfl
theorem Yq{H:Type}{enc:TypeId×Value->H}{W:World}{base:Nat}{held:Bool}{Tg Tp:TypeId}{zg zp:Nat×Nat}(h4:QK W Tg zg Tp zp){I:Nat}{cs:List Value}{x:DataW H×List MemPlace}(h:DataW.trod enc prog W base (fun _=>true) held I 22 cs=some x):
 ∃v xs,cs=[v]/\WC (LY W [4,1]) v xs:=by
 obtain ⟨p,len,cap,rfl,hl,X⟩:=NZ cU tB AN h;obtain ⟨xs,h1,h2⟩:=IM len (fun i (z:List Int)=>z.length=6/\(∀n∈z,-9223372036854775808<=n/\n<=9223372036854775807)/\∃g o cur T zz,p=some ⟨g,o,none⟩/\(g,Obj.cells cur T zz)∈LY W [4,1]/\∀(j:Nat) (n:Int),z[j]?=some n->cur[o+i*6+j]?=some (I4 n)) (fun i hi=>by
  obtain ⟨B,n,z,cu,ht,g,o,cur,T,zz,hp,hb,hc⟩:=X i hi;obtain ⟨ys,m,_,_,_,d9,hf⟩:=DataW.trod_array underlying81 ht;obtain ⟨ns,bn,U⟩:=IM 6 (fun j (n:Int)=>(-9223372036854775808<=n/\n<=9223372036854775807)/\B[j]?=some (I4 n)) (fun j G=>by
   have f:=hf j G;rw [zJ,LS,B4 A1]at f;have K:j<B.length:=by omega
   have e:(B.drop j).take 1=[B[j]]:=by rw [R0 K];rfl
   rw [e]at f;obtain ⟨k,Z,_,af⟩:=DataW.trod_int Cl f;injection Z with Z _
   exact ⟨k,bounds_i64 af,by rw [B4 K,Z]⟩)
  have J:∀(j:Nat) (n:Int),ns[j]?=some n->cur[o+i*6+j]?=some (I4 n):=fun j n G=>by
   have cO:=(BE.1 G).1;rw [hc j A1];exact (U j n G).2
  obtain ⟨n0,ax⟩:∃n,ns[0]?=some n:=⟨_,B4 A1⟩;exact ⟨ns,bn,fun n O=>by
   obtain ⟨j,G⟩:=GW O;exact (U j n G).1,g,o,cur,T,zz,hp,Lr hb (TU h4 hb (J 0 n0 ax) V),J⟩)
 subst h1;exact ⟨_,xs,V,p,cap,V,hl,h2⟩
open Go.ChangeShapes Go.WideShapes Go.Deep
theorem qq:Tryz.prog.cellsOf 23=5:=by kernel_rfl
theorem lG{l:List Value}(h:l.length=5):∃a b c d e,l=[a,b,c,d,e]:=by
 match l,h with
 |[a,b,c,d,e],_=>exact ⟨a,b,c,d,e,rfl⟩
theorem kX{H:Type}{enc:TypeId×Value->H}{W:World}{base:Nat}{held:Bool}{B:Nat}{l:List Value}{x:DataW H×List MemPlace}(h:DataW.trod enc prog W base (fun _=>true) held B 23 l=some x)(hl:l.length=5):
 ∃a b c d e:Int,l=[I4 a,I4 b,I4 c,I4 d,I4 e]/\(-9223372036854775808<=a/\a<=9223372036854775807)/\(-9223372036854775808<=b/\b<=9223372036854775807)/\(-9223372036854775808<=c/\c<=9223372036854775807)/\(-9223372036854775808<=d/\d<=9223372036854775807)/\(-9223372036854775808<=e/\e<=9223372036854775807):=by
 obtain ⟨ys,m,_,_,_,af,hf⟩:=DataW.trod_array Lk h;have g:∀j,j<5->∃n:Int,l[j]?=some (I4 n)/\-9223372036854775808<=n/\n<=9223372036854775807:=fun j g=>by
  have f:=hf j g;rw [zJ,LS,B4 A1]at f;have G:j<l.length:=by omega
  have e:(l.drop j).take 1=[l[j]]:=by rw [R0 G];rfl
  rw [e]at f;obtain ⟨k,X,_,Z⟩:=DataW.trod_int Cl f;injection X with X _
  exact ⟨k,by rw [B4 G,X],bounds_i64 Z⟩
 obtain ⟨v0,v1,v2,v3,v4,rfl⟩:=lG hl;obtain ⟨a,ha,I⟩:=g 0 AN;obtain ⟨b,hb,J⟩:=g 1 AN;obtain ⟨c,hc,K⟩:=g 2 AN;obtain ⟨d,hd,O⟩:=g 3 AN;obtain ⟨e,he,U⟩:=g 4 AN;simp at ha hb hc hd he;subst ha hb hc hd he;exact ⟨a,b,c,d,e,V,I,J,K,O,U⟩
end Go.Proofs.YteaiajghbkenoaaGreatDoor
namespace Go.Proofs.YteaiajghbkenoaaGreatDoor
open Go.Proofs.Tryz
open Go Go.RowKit Gw
set_option maxRecDepth 100000
attribute [local irreducible] Gw.At Gw.Nx Gw.Ops
def NE(c:Chg):Prop:=(1<=c.k/\c.k<=9)/\(0<=c.t/\c.t<=2)
theorem nI(rs:List AU)(n m:Nat):NE (Qn rs n m):=by
 have g:=eK n (show 0<3 by decide);have h2:=eK (n/3) (show 0<9 by decide)
 refine ⟨⟨?_,?_⟩,?_,?_⟩
 · show(1:Int)<=((1+n/3%9:Nat):Int);omega
 · show((1+n/3%9:Nat):Int)<=9;omega
 · show(0:Int)<=((n%3:Nat):Int);omega
 · show((n%3:Nat):Int)<=2;omega
theorem Tz(rs:List AU)(z:List Int):∀k,∀c∈GA rs z k,NE c
 |0,c,hc=>by simp [GA]at hc
 |k+1,c,hc=>by
  have g:=Tz rs z k;unfold GA Us at hc;split at hc
  · exact g c hc
  · rw [B9,B9,BT]at hc
    rcases hc with(hc|rfl)|hc
    · exact g c (Nd hc)
    · exact nI _ _ _
    · exact g c (I0 hc)
theorem Vd:∀(xs:List (List Int)) (L:List (List Chg)),(∀cs∈L,∀c∈cs,NE c)->∀cs∈xs.foldl Mc L,∀c∈cs,NE c
 |[],_,h=>h
 |z::xs,L,h=>by
  rw [TO];refine Vd xs _ fun cs g=>?_;unfold Mc at g;split at g
  · rcases B9.1 g with h1|h1
    · exact h cs h1
    · rw [BT.1 h1];exact Tz _ _ 3
  · exact h cs g
theorem rF(xs:List (List Int)):∀cs∈TF xs,∀c∈cs,NE c:=Vd xs [] fun cs h=>by simp at h
def QR(r:AU):Prop:=1<=r.k/\r.k<=9
theorem pW{rs:List AU}{c:Chg}(h:∀r∈rs,QR r)(hc:NE c):∀r∈EH rs c,QR r:=fun r g=>by
 unfold EH at g;rw [B9,B9]at g;rcases g with(g|g)|g
 · exact h r (Nd g)
 · obtain ⟨_,rfl⟩:=Lm.1 g;exact hc.1
 · exact h r (I0 (I0 g))
theorem SN:∀(cs:List Chg) (rs:List AU),(∀r∈rs,QR r)->(∀c∈cs,NE c)->∀r∈DL rs cs,QR r
 |[],_,h,_=>h
 |c::cs,rs,h,hc=>SN cs (EH rs c) (pW h (hc c (Dd ..))) fun d g=>hc d (E3 _ g)
theorem V4:∀(l:List BU) (rs:List AU),(∀r∈rs,QR r)->(∀x∈l,∀c∈x.cs,NE c)->∀r∈l.foldl (fun rs r=>DL rs r.cs) rs,QR r
 |[],_,h,_=>h
 |x::l,rs,h,hc=>V4 l _ (SN x.cs rs h (hc x (Dd ..))) fun y g=>hc y (E3 _ g)
theorem oZ{l:List BU}(h:∀x∈l,∀c∈x.cs,NE c):∀r∈Bd l,QR r:=V4 l [] (fun r g=>by simp at g) h
theorem jK:∀(l:List Int) (a b:Int),l.Pairwise (·<·)->(∀x∈l,a<=x/\x<=b)->(l.length:Int)<=max (b -a+1) 0
 |[],_,_,_,_=>by simp;omega
 |x::l,a,b,hp,h=>by
  obtain ⟨m,h2⟩:=On.1 hp;have G:=h x (Dd ..)
  have B:=jK l (x+1) b h2 fun y g=>⟨by have:=m y g;omega,(h y (E3 _ g)).2⟩;rw [DE];omega
theorem vN{rs:List AU}(K:BP rs)(I:∀r∈rs,QR r)(t:Int):(rs.filter fun r=>decide (r.t=t)).length<=9:=by
 have m:((rs.filter fun r=>decide (r.t=t)).map (·.k)).Pairwise (·<·):=by
  rw [T7];refine List.Pairwise.imp_of_mem ?_ (List.Pairwise.filter _ K);intro a b B G g;have U:=HP (F1.1 B).2
  have tb:=HP (F1.1 G).2;rcases g with h|⟨_,h⟩
  · omega
  · exact h
 have h2:=jK _ 1 9 m fun x O=>by
  obtain ⟨r,J,rfl⟩:=Bk.1 O;exact I r (F1.1 J).1
 rw [B2]at h2;omega
theorem Vo{α:Type}{f g:α->Bool}(h:∀x,f x=true->g x=true):∀l:List α,(l.filter f).length<=(l.filter g).length
 |[]=>CT _
 |x::l=>by
  have m:=Vo h l;rw [ar,ar];split
  · rename_i h1
    rw [AK (h x h1),DE,DE];omega
  · split
    · rw [DE];omega
    · exact m
structure zQ(l:List BU):Prop where
 b:O1 l
 nine:∀a,a<=l.length->∀q,(CQ (Bd (l.take a)) q).length<=9
theorem wK{l:List BU}(G:F5 l)(m:l.length<=20){xs:List (List Int)}(J:l.map BU.cs=TF xs):zQ l:=by
 refine ⟨G.toB m,fun a K q=>?_⟩;have g:∀x∈l.take a,∀c∈x.cs,NE c:=fun x O c hc=>rF xs x.cs (by rw [<-J];exact DM (Nd O)) c hc
 have I:=vN (G.rows a K).1 (oZ g) q.tb;have h2:=(EO (Bd (l.take a)) q.tb q.cl.toNat q.lo q.hi).length_eq
 unfold CQ;rw [h2];refine N1 ?_ I;refine Vo (fun r B=>?_) _;unfold inR at B;simp only [G2,Fo]at B⊢;exact B.1
theorem zQ.rows{l:List BU}(h:zQ l)(q:QM):∀b,b<=l.length->(Ci (Bd (l.take b)) q).rows.length<=18:=fun b g=>by
 have m:=mY (Bd (l.take b)) q;have h2:=h.nine b g q
 omega
theorem uR{zs g:List ByteArray}(B:zs.Pairwise fun x y=>x.data.toList<=y.data.toList)(h2:g.Pairwise fun x y=>x.data.toList<=y.data.toList)(O:zs.Nodup)(U:g.Nodup)(h:∀k,k∈zs↔k∈g):zs=g:=by
 have K:zs.Perm g:=(NX O U).2 h;refine K.eq_of_pairwise (fun a b _ _ G I=>?_) B h2;have J:a.data.toList=b.data.toList:=List.le_antisymm G I
 have m:a.data=b.data:=HI.1 J;cases a;cases b;simp only at m;rw [m]
theorem nL{cur:Array Value}{a:Nat}{x y:Value}(h:cur.extract a (a+2)=#[x,y]):cur[a]?=some x/\cur[a+1]?=some y:=by
 have h0:(cur.extract a (a+2))[0]?=some x:=by rw [h];rfl
 have g:(cur.extract a (a+2))[1]?=some y:=by rw [h];rfl
 rw [ab]at h0 g;split at h0
 · split at g
   · exact ⟨h0,g⟩
   · cases g
 · cases h0
theorem xN{M:List A9}{q:Option Addr}{n cap:Nat}{cs:List Chg}(h:Ck M (.slice q n cap) cs){k:Nat}{c:Chg}(hc:cs[k]?=some c):∃g off cur T zz,q=some ⟨g,off,none⟩/\(g,Obj.cells cur T zz)∈M/\off+k*10+10<=cur.size/\cur.extract (off+k*10) (off+k*10+10)=c.A15:=by
 obtain ⟨G,m,e,_,B⟩:=h;injection e with e1 e2 e3
 subst e1;exact B k c hc
theorem aj{cs:List Chg}{f:Chg->Bool}{k:Nat}{c:Chg}(hc:cs[k]?=some c):(cs.take (k+1)).any f=((cs.take k).any f||f c):=by
 rw [Bh hc,nn];simp
noncomputable def lw(c:CZ)(cs:List Chg)(p:Int)(k:ByteArray):Bool:=@decide (∃x∈c.its,x.key=k/\QL cs x/\x.base<p) (Classical.propDecidable _)
theorem Ox{c:CZ}(B:(c.its.map ItM.key).Nodup){cs:List Chg}{p:Int}{x:ItM}(g:x∈c.its):lw c cs p x.key=true↔QL cs x/\x.base<p:=by
 unfold lw;rw [@decide_eq_true_eq _ (Classical.propDecidable _)];constructor
 · rintro ⟨y,G,m,h⟩
   rwa [G9 B G g m]at h
 · intro h;exact ⟨x,g,rfl,h⟩
theorem XH{cs:List Chg}{x:ItM}:cs.any (Ce x.q)=true↔QL cs x:=by
 unfold QL;rw [fy]
theorem sN{c d:CZ}(h:c.okb){p:Int}{cs:List Chg}{q2:Option Addr}{cap2:Nat}{zs m:List ByteArray}(G:J2 c d p cs q2 cap2 zs)(I:m.Perm (c.its.map ItM.key))(U:m.Pairwise fun x y=>x.data.toList<=y.data.toList):zs=m.filter (lw c cs p):=by
 have O:m.Nodup:=I.nodup_iff.2 h.its.keys;refine uR G.z3 (U.filter _) G.z2 (O.sublist SU) fun k=>?_;rw [G.z1,F1];constructor
 · rintro ⟨x,g,rfl,B,h2⟩
   exact ⟨I.mem_iff.2 (DM g),(Ox h.its.keys g).2 ⟨B,h2⟩⟩
 · rintro ⟨B,h2⟩
   obtain ⟨x,g,rfl⟩:=Bk.1 (I.mem_iff.1 B);obtain ⟨J,K⟩:=(Ox h.its.keys g).1 h2;exact ⟨x,g,V,J,K⟩
structure nV(l:List BU)(P i:Nat)(B cap:Int)(c:CZ):Prop where
 law:IV l P c
 len:c.its.length<=i
 next:c.next<=(i:Int)
 sz:∀e∈c.PL,e.sz<=B
 cap:c.z.cap=cap
 ns:c.ns=1
theorem nV.room{l:List BU}{P i:Nat}{B cap:Int}{c:CZ}(h:nV l P i B cap c)(m:0<=B):cap -(i:Int)*B<=c.z.fr:=by
 have g:=Wl h.law.ok.tookb h.sz;rw [h.cap]at g;have h2:(c.its.length:Int)*B<=(i:Int)*B:=Int.mul_le_mul_of_nonneg_right (by have:=h.len;omega) m
 omega
theorem nV.put{l:List BU}{P i:Nat}{B cap:Int}{c d:CZ}(h:nV l P i B cap c)(I:IV l P d)(g:c.like d)(J:d.next<=c.next+1){q:QM}{tn:Int}{a n:Nat}{b:Bool}(m:uh l P c d q tn a n b)(O:1+(n:Int)<=B):nV l P (i+1) B cap d:=by
 have K:=h.len;have h2:=h.next
 refine ⟨I,?_,by push_cast;omega,fun e G=>?_,g.cap.trans h.cap,g.ns.trans h.ns⟩
 · rcases m with⟨_,rfl,_⟩|⟨_,_,_,⟨rfl,_⟩|⟨_,y,e,_⟩⟩
   · omega
   · omega
   · rw [e,B7,E0]
     have:=Mu (fun x:ItM=>decide (x.key≠str (Cr q))) c.its;omega
 · rcases m with⟨_,rfl,_⟩|⟨_,_,h3,_⟩
   · exact h.sz e G
   · rcases h3 e G with h9|h9
     · exact h.sz e h9
     · omega
theorem uh.yes{l:List BU}{P:Nat}{c d:CZ}{q:QM}{tn:Int}{a n:Nat}{b:Bool}(m:uh l P c d q tn a n b)(h:P<=a):b=true:=by
 rcases m with⟨_,_,g⟩|⟨g,_⟩
 · exact absurd (VB h) g
 · exact g
theorem xG{M:List A9}{p:Option Addr}{cap:Nat}{ys:List QN}(h:Xn M (.slice p ys.length cap) ys){i:Nat}{z:QN}(hz:ys[i]?=some z):z.fits/\∃g off cur T zz,p=some ⟨g,off,none⟩/\(g,Obj.cells cur T zz)∈M/\off+i*5+5<=cur.size/\cur.extract (off+i*5) (off+i*5+5)=#[I4 z.a,I4 z.b,I4 z.c,I4 z.d,I4 z.e]:=by
 obtain ⟨G,m,e,_,B⟩:=h;injection e with e1 e2 e3
 subst e1;exact B i z hz
theorem zA{M:List A9}{p:Option Addr}{cap:Nat}{ns:List Int}(h:Xm M (.slice p ns.length cap) ns){i:Nat}{n:Int}(G:ns[i]?=some n):ZO n/\∃g off cur T zz,p=some ⟨g,off,none⟩/\(g,Obj.cells cur T zz)∈M/\cur[off+i]?=some (I4 n):=by
 obtain ⟨I,m,e,_,B⟩:=h;injection e with e1 e2 e3
 subst e1;exact B i n G
set_option maxHeartbeats 4000000 in
theorem jV{Mx:List A9}{vx:Value}{xs:List (List Int)}(hX:WC Mx vx xs){vy:Value}{ys:List QN}(hY:Xn Mx vy ys){va:Value}{ns:List Int}(hN:Xm Mx va ns)(Tg:TypeId)(zg:Nat×Nat)(Tp:TypeId)(zp:Nat×Nat):BJ prog 5 #[vx,vy,va] [[(4,.cells (En.map Co).toArray Tg zg)],[(1,.cells (Lib.pow10Tab.map fun z=>Value.int .u64 z).toArray Tp zp)],Mx] (.bool true):=by
 have hml:=mL;obtain ⟨px,MS,rfl,⟨hxl1,hxl2⟩,hgx⟩:=id hX;have sO:=oL hX (min xs.length 16) (Nat.min_le_left _ _)
 have hxk:(xs.take (min xs.length 16)).length<=16:=by rw [C2];omega
 obtain ⟨py,P5,rfl,⟨hyl1,hyl2⟩,hgy⟩:=id hY;obtain ⟨pa,MK,rfl,⟨Qd,Qe⟩,hga⟩:=id hN;refine Se func5 ntmps5 [0,1,2] ?_;intro u R;refine A0<|A3 Y<|A0<|Xr [] Y call8 Y V (yU Tg zg Tp zp) ?_;refine A3 Y<|A0<|Zm Y<|Zm Y<|Zv (Ab cU Y)<|Zv (Q0 (n:=16) Y Y)<|BX (Bq cU sizeOf81 Y Y A1)<|Zc [_] Y call9 Y V (vX sO A1) ?_;rintro _ _ ⟨_,⟨l,sl,bn,hll,wo,d9,rfl⟩,rfl⟩;have Ta:l.length<=16:=by omega
 have hK:=wK bn A1 wo;have hB:=hK.b
 obtain ⟨pl,cl,rfl,hlc,hgl⟩:=id d9;refine A3 Y<|A0<|Ze (Ah (vs:=[_]) (cs:=[_]) Cd A5 Gk Y V rfl V rfl V)<|AD fun gs=>Zc [_,_,_] Y call13 Y V (oE (sh:=[500]) (YI gs (I4 500)) 0 1000 AN AN AN AN AN) ?_;rintro _ _ ⟨_,⟨c0,rfl,ve,⟨ax,o9,Hf⟩,zf,qz,qx,ic,rfl⟩,rfl⟩;have L0:IV l 0 c0:=⟨ve,zf,C0 _,by rw [Hf];exact RV l 0,fun x r9=>by rw [ax]at r9;cases r9⟩
 refine Zm Y<|Zd Y V<|Zd Y V<|Za Y<|AG Y<|Zn [1,2,7,8,9,10] ?_;refine Zx<|Zq<|A0<|Zm Y<|Zv (FR (n:=0) Y Y)<|A4<|Av Y (fun k1=>?_) (fun k1=>?_)
 ·
  exact absurd V k1
 refine AC<|Zx<|Zb [1,2,7,8,9] ?_;refine D7 (e0:=[(1,_),(2,_)]) (H0:=[c0.mem]) (fun e H=>∃(c:CZ),(IV l 0 c/\c.cp=c0.cp)/\e=[]/\H=[c.mem]) Wp ?hx_1 ?hy_1
 case hx_1=>
  refine A0<|A3 Y<|AP<|Zb [11,1,2,7,8,9] ?_;refine BB (e0:=[(11,_)]) (fun m e H=>∃(i:Nat) (c:CZ),m=ys.length -i/\((i<=ys.length/\i<=12)/\nV l 0 i 19 1000 c/\c.cp=c0.cp)/\e=[(11,I4 (i:Int))]/\H=[c.mem]) (by exact ⟨0,c0,rfl,⟨⟨C0 _,C0 _⟩,⟨L0,by rw [ax];exact C0 _,by rw [qz];exact Xs _,(fun e he=>by rw [o9]at he;cases he),ic,qx⟩,rfl⟩,rfl,rfl⟩) Wp ?_;rintro _ _ _ ⟨i,c,rfl,⟨⟨hi,T9⟩,O,I⟩,rfl,rfl⟩;refine Zq<|A0<|Zm Y<|Zm Y<|Zv (Ab mA Y)<|Zv (Au Y Y)<|Zm Y<|Ao (t:=41) Y V (fun h1=>?_) (fun h1=>?_)
  ·
   refine Zf Y Y<|Yg (Au (n:=12) Y Y)<|Zv (AX Y Y)<|A4<|Av Y (fun h2=>?_) (fun h2=>?_)
   ·
    refine AC<|Zx<|Zq<|AP<|A0<|A3 Y<|Zb [12,1,2,7,8,9,11] ?_;refine D7 (e0:=[(12,_)]) (H0:=[]) (fun e H=>∃(a:Nat),(a<=l.length)/\e=[(12,I4 (a:Int))]/\H=[]) Wp ?hx_3 ?hy_3
    case hx_3=>
     refine A0<|Zm Y<|Zm Y<|Zv (Ab Cd Y)<|Zv (Au Y Y)<|A4<|Av Y (fun h3=>?_) (fun h3=>?_)
     ·
      obtain ⟨n9,za⟩:∃n,ns[i]?=some n:=⟨_,B4 A1⟩;obtain ⟨⟨qo,qw⟩,gn,offn,Pn,Tn,zn,zq,y9,vw⟩:=zA hN za;rw [zq];refine Zg<|Zm Y<|Zm Y<|BX (CW Cd A5 Y Y (by first|omega|decide|exact CT _|(simp;done)|(simp;omega)))<|CO (Gf Wo (y9)) (BO AE Y (by exact vw)) rfl rfl ?_;refine Zm Y<|Zv (Ab GB Y)<|Ya (n:=1) Y Y<|Xr [_,_] Y T5 Y V (IY n9 (l.length+1) A1 A1 qo qw) ?_;have hpk:=EE n9 (l.length+1) A1
      refine AG Y<|Zn [12,1,2,7,8,9,11] ?_;refine BL (e':=[(12,_)]) (by exact ⟨_,by omega,V,V⟩)
     refine AC<|Zn [12,1,2,7,8,9,11] ?_;refine BL (e':=[(12,_)]) (by exact ⟨_,by omega,V,V⟩)
    rintro _ _ ⟨a,ha,rfl,rfl⟩;obtain ⟨B,HZ⟩:∃z,ys[i]?=some z:=⟨_,B4 A1⟩;obtain ⟨⟨⟨f1,f2⟩,⟨f3,f4⟩,⟨f5,f6⟩,⟨f7,f8⟩,f9,sj⟩,gy,offy,Ps,Ty,zy,zt,yt,hszy,qa⟩:=xG hY HZ;rw [zt,<-I];refine A0<|Zm Y<|Zm Y<|Zm Y<|Zm Y<|Zm Y<|BX (Ad mA sizeOf23 Y Y A1)<|CO (Gf Wo (yt)) (AA (cs:=#[I4 B.a,I4 B.b,I4 B.c,I4 B.d,I4 B.e]) isAgg23 sizeOf23 Y A1 (by exact qa)) V rfl ?_;refine Xr [_] Y call10 Y V (pO B.a B.b B.c B.d B.e f1 f2 f3 f4 f5 f6 f7 f8 f9 sj) ?_;refine Zc [_,_,_,_] Y call15 Y V (XM d9 bn A1 (a) (ha) (B.ok) (hB.scan (a) (ha) _) 0 Tg zg) ?_;rintro _ _ ⟨_,⟨E1,pg1,cg1,p8,rfl,rfl⟩,rfl⟩;have l5:1+((18:Nat):Int)<=c.z.fr:=by have:=O.room AN;omega
    refine Zc [_,_] Y call14 Y rfl (yn hB O.law B.ok (k:=0) (by rw [O.ns];decide) AN ha p8 (by have:=O.next;omega) (by have:=O.len;omega) (n:=18) (hK.rows _) l5 Tp zp) ?_;rintro _ _ ⟨_,⟨b,d,rfl,LD,qb,zb,hP,rfl⟩,rfl⟩;obtain rfl:b=true:=hP.yes (C0 _);have sM:=O.put LD qb zb.2 hP AN
    rw [<-qb.cp];refine Zv (Br Y)<|A4<|AV Y (fun k2=>by cases k2)<|fun k2=>AC<|A8<|Zx<|Zg<|Zm Y<|Ya (n:=1) Y Y<|AG Y<|Zn [11,1,2,7,8,9] ?_;refine Aa (e':=[(11,_)]) (by exact ⟨i+1,d,V,⟨⟨by omega,by omega⟩,sM,by rfl⟩,V,V⟩)
   refine Ay<|Zt<|Zt<|AR<|Zn [7,8,9] ?_;refine BL (e':=[]) (by exact ⟨c,⟨O.law,I⟩,V,V⟩)
  refine A7 Y V<|A7 Y V<|Zv (AL Y Y)<|A4<|D5 Y<|Ay<|Zt<|Zt<|AR<|Zn [7,8,9] ?_;refine BL (e':=[]) (by exact ⟨c,⟨O.law,I⟩,V,V⟩)
 rintro _ _ ⟨c1,⟨L1,pg⟩,rfl,rfl⟩;refine Zq<|A0<|A3 Y<|AP<|Zb [13,7,8,9] ?_;refine BB (e0:=[(13,_)]) (fun m e H=>∃(j:Nat) (c:CZ),m=l.length -j/\(j<=l.length/\IV l j c/\c.cp=c0.cp)/\e=[(13,I4 (j:Int))]/\H=[c.mem]) (by exact ⟨0,c1,V,⟨C0 _,L1,pg⟩,V,V⟩) Wp ?_;rintro _ _ _ ⟨j,c,rfl,⟨hj,g,I⟩,rfl,rfl⟩;refine Zq<|A0<|Zm Y<|Zm Y<|Zv (Ab GB Y)<|Zv (Au Y Y)<|A4<|Av Y (fun wz=>?_) (fun wz=>?_)
 ·
  obtain ⟨r,hr⟩:∃r,l[j]?=some r:=⟨_,B4 A1⟩;obtain ⟨U,gm,offm,P7,Tm,zm,zl,kv,hszm,af⟩:=pG d9 hr;obtain ⟨Rl,X⟩:=nL af;have FT:=(g.next hB hr).2
  have cu:=(g.next hB hr).1;have hrl:=cu.len
  rw [g.pos]at FT;rw [zl,<-I];refine AC<|Zx<|Zq<|AP<|A0<|Zm Y<|Zc [_] Y call19 Y V (y8 g.ok.tookb) ?_;rintro _ _ ⟨_,⟨zs,sk,l8,ME,l9,rfl⟩,rfl⟩;have MC:=l8.length_eq
  rw [B2]at MC;have MB:=g.ok.its.len
  obtain ⟨pk,ck,rfl⟩:=l9.form;simp only [B2];rw [B2]at l9;refine A3 Y<|A0<|A3 Y<|Zq<|A0<|A3 Y<|AP<|BV<|Zb [15,16,7,8,9,13,14] ?_;refine BB (e0:=[(15,_),(16,_)]) (fun m e H=>∃(i:Nat) (wv:Value) (sw:List A9),m=zs.length -i/\(i<=zs.length/\Row 9 wv (((zs.take i).filter (lw c r.cs r.p)).map Value.string) sw)/\e=[(15,wv),(16,I4 (i:Int))]/\H=[sw]) (by exact ⟨0,.slice none 0 0,[],rfl,⟨C0 _,by rw [HX];exact Fu _⟩,rfl,rfl⟩) Wp ?_;rintro _ _ _ ⟨i,wv,sw,rfl,⟨hi,hW⟩,rfl,rfl⟩;refine Zq<|A0<|Zm Y<|Zm Y<|Zv (Ab CN Y)<|Zv (Au Y Y)<|A4<|Av Y (fun qj=>?_) (fun qj=>?_)
  ·
   obtain ⟨k9,j5⟩:∃k,zs[i]?=some k:=⟨_,B4 A1⟩;obtain ⟨x,hx,rfl⟩:=Bk.1 (l8.mem_iff.1 (DG j5));have j3:=(Qk (f:=lw c r.cs r.p) j5).1
   obtain ⟨gk,MP,o8,zk,Gw,rfl,hsk,vo⟩:=OX l9 (n:=zs.length) (by rw [B2]) A1;injection Gw with hv1 hv2 hv3
   subst hv1 hv3;have pq:o8[i]?=some (.string x.key):=by rw [vo i A1,DH,j5];rfl
   obtain ⟨wp,wc,rfl⟩:=hW.form;have hfl:((zs.take i).filter (lw c r.cs r.p)).length<=500:=N1 (Mu _ _) (by rw [C2];omega)
   refine AC<|Zx<|Zq<|AP<|A0<|Zm Y<|Zm Y<|Zm Y<|BX (BS CN F0 Y Y (by first|omega|decide|exact CT _|(simp;done)|(simp;omega)))<|Zl HC Y (hv:=by exact pq) ?_;refine Zc [_,_] Y call21 Y V (lQ g.ok hx) ?_;rintro _ _ ⟨_,⟨pz,cz,sz,rfl,hRZ,rfl⟩,rfl⟩;refine Zm Y<|Zd Y V<|Zd Y V<|Ze (Al cW #[_,_,_,_,_,_,_,_,_,_])<|AD fun bz=>Xe (Xw H4 #[I4 x.q.kd,I4 x.q.tb,I4 x.q.cl,I4 x.q.lo,I4 x.q.hi,I4 x.q.bq,I4 x.q.ot,I4 x.tn,I4 x.base,.slice pz x.L.length cz]) ?_;refine AG Y<|Zn [7,8,9,13,14,15,16,17] ?_;refine Zx<|A0<|A3 Y<|Zq<|A0<|A3 Y<|AP<|Zb [19,20,7,8,9,13,14,15,16,17] ?_;refine BB (e0:=[(19,_),(20,_)]) (fun m e H=>∃(k:Nat) (b:Bool),m=r.cs.length -k/\(k<=r.cs.length/\b=(r.cs.take k).any (Ce x.q))/\e=[(19,.bool b),(20,I4 (k:Int))]/\H=[]) (by exact ⟨0,false,rfl,⟨C0 _,by rw [HX];rfl⟩,rfl,rfl⟩) Wp ?_;rintro _ _ _ ⟨k,b,rfl,⟨hk,hb⟩,rfl,rfl⟩;refine Zq<|A0<|Zm Y<|Zm Y<|Zm Y<|BX (Ad GB F2 Y Y A1)<|Zv (Aq (off:=1) GF V rfl Ks Y)<|CO (Gf Wo (kv)) (BO Lq Y (by exact X)) V rfl ?_;refine Zv (Ab G3 Y)<|Zv (Au Y Y)<|A4<|Av Y (fun ql=>?_) (fun ql=>?_)
   ·
    obtain ⟨c9,J⟩:∃c,r.cs[k]?=some c:=⟨_,B4 A1⟩;obtain ⟨gc,offc,P6,Tc,zc,zi,y5,Y2,q9⟩:=xN U J;have Z:=X
    rw [zi]at Z;have p9:=cu.all k c9 J
    have zu:=g.ok.its.q x hx;refine AC<|Zx<|Zq<|AP<|Az (n:=15) (0::1::3::7::3::3::51::115::243::3::1011::2035::4095::8191::16383::[]) 4096 A6 A6 V<|A2 0 V (AQ Y)<|A2 1 V (AQ Y)<|Cf (t:=104) Y (fun G=>?_) (fun G=>?_)
    ·
     rw [G];refine AF 2 V<|AF 3 V<|AF 4 V<|AF 5 V<|AF 6 V<|AF 7 V<|AF 8 V<|AF 9 V<|AF 10 V<|AF 11 V<|AF 12 V<|A2 13 V (AX Y Y)<|A2 14 V (Aw Y)<|Ai<|Zn [7,8,9,13,14,15,16,17,19,20] ?_;refine A8<|Zx<|Zg<|Zm Y<|Ya (n:=1) Y Y<|AG Y<|Zn [19,20,7,8,9,13,14,15,16,17] ?_;refine Aa (e':=[(19,_),(20,_)]) (by exact ⟨k+1,true,rfl,⟨by omega,by rw [aj J,<-hb,G];rfl⟩,rfl,rfl⟩)
    rw [G];refine An 2 V (AB (off:=0) FG V rfl C7 Y)<|DQ 3 V Wh (AA (cs:=#[_,_,_,_,_,_,_]) Dg C7 Y As (by exact (by apply HI.1;rfl))) ?_;refine An 4 V (AQ Y)<|An 5 V (AQ Y)<|An 6 V (Ad GB F2 Y Y A1)<|An 7 V (Aq (off:=1) GF V rfl Ks Y)<|Ot (D':=511) 8 Y V rfl V (F8 Wo (kv)) (BO Lq Y (by exact Z)) ?_;refine An 9 V (AQ Y)<|An 10 V (Ad G3 C1 Y Y A1)<|Ot (D':=4095) 11 Y V rfl V (F8 Wo (y5)) (AA (cs:=c9.A15) Fk C1 Y A1 (by exact q9)) ?_;refine Yw 12 8191 V (Zu [_,_] Y call22 Y V (Im x.q c9)) ?_;rintro _ _ ⟨rfl,rfl⟩;rw [DA zu,DA p9,Rg,Rg];refine A2 13 V (AL Y Y)<|A2 14 V (Aw Y)<|Ai<|Zn [7,8,9,13,14,15,16,17,19,20] ?_;refine A8<|Zx<|Zg<|Zm Y<|Ya (n:=1) Y Y<|AG Y<|Zn [19,20,7,8,9,13,14,15,16,17] ?_;refine Aa (e':=[(19,_),(20,_)]) (by exact ⟨k+1,Ce x.q c9,rfl,⟨by omega,by rw [aj J,<-hb,G];rfl⟩,rfl,rfl⟩)
   have ek:k=r.cs.length:=by omega
   rw [ek,FF]at hb;refine Ay<|Zt<|Zt<|AR<|Zx<|Zq ?_;have gq:=hb.symm
   refine Zg<|Zm Y<|Zm Y<|Af (t:=118) Y V (fun K=>?_) (fun K=>?_)
   ·
    refine Yf 8 FG V rfl A5 Y<|Yl AE Y ?_;refine Zf Y Y<|Yg (Le Y Y)<|Zv (AX Y Y)<|Z0<|Zn [7,8,9,13,14,15,16,123] ?_;refine Zx<|Av Y (fun sJ=>?_) (fun sJ=>?_)
    ·
     refine Zg<|Zm Y<|Zm Y<|Zm Y<|BX (BS CN F0 Y Y (by first|omega|decide|exact CT _|(simp;done)|(simp;omega)))<|Zl HC Y (hv:=by exact pq) ?_;refine Ze (Ah (vs:=[_]) (cs:=[_]) CN F0 HM Y V rfl V rfl V)<|AD fun gw=>Ze (EQ (by_:=16) (news:=[_]) CN (V:Tryz.prog.info? 9=some Tryz.t9) V rfl V rfl Y hW Y Wo Wh AM V Fm AN (by(simp only [B2];omega)) (by(simp only [B2];omega))) ?_;rintro _ _ ⟨MJ,cO,rfl⟩;obtain ⟨gw9,cw9,rfl⟩:=cO.form;refine AG Y<|A8<|Zx<|Zg<|Zm Y<|Ya (n:=1) Y Y<|AG Y<|Zn [15,16,7,8,9,13,14] ?_;refine Aa (e':=[(15,_),(16,_)]) (by exact ⟨i+1,_,MJ,rfl,⟨by omega,by rw [j3,AK ((Ox g.ok.its.keys hx).2 ⟨XH.1 (gq.trans K),by omega⟩),BW];exact cO⟩,rfl,rfl⟩)
    refine AC<|A8<|Zx<|Zg<|Zm Y<|Ya (n:=1) Y Y<|AG Y<|Zn [15,16,7,8,9,13,14] ?_;refine Aa (e':=[(15,_),(16,_)]) (by exact ⟨i+1,_,sw,rfl,⟨by omega,by rw [j3,AH (fun h9=>by have h8:=(Ox g.ok.its.keys hx).1 h9;first|(have G:=XH.2 h8.1;rw [gq,K]at G;exact absurd G AN)|omega),Cp];exact hW⟩,rfl,rfl⟩)
   refine A7 Y V<|A7 Y V<|A7 Y V<|A7 Y V<|Zv (AL Y Y)<|Z0<|Zn [7,8,9,13,14,15,16,123] ?_;refine Zx<|D5 Y<|AC<|A8<|Zx<|Zg<|Zm Y<|Ya (n:=1) Y Y<|AG Y<|Zn [15,16,7,8,9,13,14] ?_;refine Aa (e':=[(15,_),(16,_)]) (by exact ⟨i+1,_,sw,rfl,⟨by omega,by rw [j3,AH (fun h9=>by have h8:=(Ox g.ok.its.keys hx).1 h9;first|(have G:=XH.2 h8.1;rw [gq,K]at G;exact absurd G AN)|omega),Cp];exact hW⟩,rfl,rfl⟩)
  obtain rfl:i=zs.length:=by omega
  rw [FF]at hW;refine Ay<|Zt<|Zt<|AR<|Zx<|A0<|Zm Y<|Zm Y<|Zm Y<|BX (Ad GB F2 Y Y A1)<|CO (Gf Wo (kv)) (AA (cs:=#[I4 r.p,.slice r.q r.cs.length r.cap]) Hc F2 Y A1 (by exact af)) V rfl ?_;refine Zc [_,_] Y call16 Y V (eZ hB g hr U) ?_;rintro _ _ ⟨_,⟨d,q2,cap2,gs9,tv,sT,rfl,LD,hA,Gl,rfl⟩,rfl⟩;have vz:=sN g.ok.tookb hA l8 ME
  rw [<-hA.cp];refine Zm Y<|Zd Y V<|Zd Y V<|Za Y<|AG Y<|Zn [7,8,9,13,15,21,22] ?_;refine Zx<|A0<|Zm Y<|Zv (FR (n:=0) Y Y)<|Zm Y<|Ao (t:=142) Y V (fun k4=>?_) (fun k4=>?_)
  ·
   exact absurd V k4
  refine Zf Y Y<|Zf Y Y<|Xr [_,_] Y call23 Y V (yV Gl hW) ?_;rw [DA vz];refine Yg (Br Y)<|Zv (AL Y Y)<|A4<|AV Y (fun k5=>by cases k5)<|fun k5=>AC<|A8<|Zx<|Zg<|Zm Y<|Ya (n:=1) Y Y<|AG Y<|Zn [13,7,8,9] ?_;refine Aa (e':=[(13,_)]) (by exact ⟨j+1,d,V,⟨by omega,LD,by rfl⟩,V,V⟩)
 refine Ay<|Zt<|Zt<|AR<|Zx<|A0<|Zm Y<|A3 Y<|AJ<|AO V results5 Y (by exact ⟨V,V⟩)
theorem WU(p:Option Addr)(cap:Nat)(xs:List (List Int))(M:List A9)(U:WC M (.slice p xs.length cap) xs)(G:Option Addr)(cap2:Nat)(ys:List QN)(X:Xn M (.slice G ys.length cap2) ys)(I:Option Addr)(g:Nat)(ns:List Int)(O:Xm M (.slice I ns.length g) ns)(m:TypeId)(J:Nat×Nat)(B:TypeId)(K:Nat×Nat):BJ prog 5 #[.slice p xs.length cap,.slice G ys.length cap2,.slice I ns.length g] [[(4,.cells (En.map Co).toArray m J)],[(1,.cells (Lib.pow10Tab.map fun z=>Value.int .u64 z).toArray B K)],M] (.bool true):=jV U X O m J B K
end Go.Proofs.YteaiajghbkenoaaGreatDoor
namespace Go.Proofs.YteaiajghbkenoaaGreatDoor
open Go.Proofs.Tryz
open Go Go.RowKit Gw
set_option maxRecDepth 100000
attribute [local irreducible] Gw.At Gw.Nx Gw.Ops
open Go.ChangeShapes Go.WideShapes Go.ChangeAt
theorem XC{P:Program}{f:FuncId}{g:Func}{s:ChangeSpec}{c:OpenClaim}(h0:c.wf (OpenSpec.ofChange s)=true)(h1:laidOutB P=true)(h2:mapsRowed P=true)(h3:g.params.all (P.readableRec ·)=true)(h4:namedTie P c.named s.vars=true)(h5:(c.stops== [])=true)(h6:(P.stops== [])=true)(h7:(c.knobs== [])=true)(h8:(P.stopKnobs== [])=true)(h9:(c.inPlace==P.inPlace f)=true)(m:(c.unfollowed==P.unfollowed f)=true)(B:(c.recurses==P.recurses f)=true)(G:(c.named==P.varsNamed f)=true)(I:(c.maps==(g.params.toList++s.plain.varTypes P).any (P.mapsRec ·))=true)(J:(c.ifaces==(g.params.toList++s.plain.varTypes P).any (P.ifacesRec ·))=true)(K:(c.mapsOut==P.mapsAmong g.resultTypes.toList)=true)(O:(c.loops==(g.params.toList++s.plain.varTypes P).any (P.loopsFrom ·))=true)(U:(c.wideKeys==(g.params.toList++s.plain.varTypes P++g.resultTypes.toList).any (P.wideKeysFrom ·))=true)(X:s.vars.all (P.varReadable ·)=true)(Z:g.resultTypes.all (fun t=>P.readableRec t&&decide (t<P.types.size))=true)(af:(c.ifacesOut==g.resultTypes.toList.any (P.ifacesRec ·))=true)(ax:(c.loopsOut==g.resultTypes.toList.any (P.loopsFrom ·))=true)(bn:(c.plainKeys==P.plainKeys)=true)(cu:c.shortTexts.isNone=true)(cO:P.stopsHeard=true)(d9:P.mayEnter=true)(ek:(c.lifted==P.liftsFinal)=true)(gm:(P.make==some c.make)=true)(gq:(c.kinds==(if c.domain.isEmpty then []else g.params.toList.map fun t=>match P.underlying t with|some (.int k)=>some k|_=>none))=true)(gy:(c.pinned==c.pinnedBy)=true)(ic:(c.veiled==(g.params.toList++s.plain.varTypes P++g.resultTypes.toList).any (P.veiledRec ·))=true)(j3:c.veiledFits P g.params.toList (g.params.toList++s.plain.varTypes P++g.resultTypes.toList)=true):joinedFacts P f g s c=true:=by
 unfold joinedFacts;simp only [Fo];exact ⟨⟨⟨⟨⟨⟨⟨⟨⟨⟨⟨⟨⟨⟨⟨⟨⟨⟨⟨⟨⟨⟨⟨⟨⟨⟨⟨⟨⟨⟨⟨h0,h1⟩,h2⟩,h3⟩,h4⟩,h5⟩,h6⟩,h7⟩,h8⟩,h9⟩,m⟩,B⟩,G⟩,I⟩,J⟩,K⟩,O⟩,U⟩,X⟩,Z⟩,af⟩,ax⟩,bn⟩,cu⟩,cO⟩,d9⟩,ek⟩,gm⟩,gq⟩,gy⟩,ic⟩,j3⟩
end Go.Proofs.YteaiajghbkenoaaGreatDoor
namespace Go.Proofs.YteaiajghbkenoaaGreatDoor
open Go.Proofs.Tryz
open Go Go.RowKit Gw
set_option maxRecDepth 100000
attribute [local irreducible] Gw.At Gw.Nx Gw.Ops
open Go.ChangeShapes Go.WideShapes Go.Deep
theorem tO{cur:Array Value}{o:Nat}{a b c d e:Int}(h:∀(j:Nat) (n:Int),[a,b,c,d,e][j]?=some n->cur[o+j]?=some (I4 n)):o+5<=cur.size/\cur.extract o (o+5)=#[I4 a,I4 b,I4 c,I4 d,I4 e]:=by
 have g:=h 4 e rfl;have m:=(HG.1 g).1
 refine ⟨by omega,Array.ext_getElem? fun i=>?_⟩;rw [ab];by_cases hi:i<5
 · rw [AK A1]
   rcases (by omega:i=0\/i=1\/i=2\/i=3\/i=4)with rfl|rfl|rfl|rfl|rfl
   · exact h 0 a rfl
   · exact h 1 b rfl
   · exact h 2 c rfl
   · exact h 3 d rfl
   · exact h 4 e rfl
 · rw [AH A1]
   exact (HT HQ).symm
theorem Yr{H:Type}{enc:TypeId×Value->H}{W:World}{base:Nat}{held:Bool}{Z Tp:TypeId}{zg zp:Nat×Nat}(h4:QK W Z zg Tp zp){m:Nat}{cs:List Value}{x:DataW H×List MemPlace}(h:DataW.trod enc prog W base (fun _=>true) held m 60 cs=some x):
 ∃v xs,cs=[v]/\Xn (LY W [4,1]) v xs:=by
 obtain ⟨p,len,cap,rfl,hl,K⟩:=NZ mA qq AN h;obtain ⟨xs,h1,h2⟩:=IM len (fun i (z:QN)=>z.fits/\∃g o cur T zz,p=some ⟨g,o,none⟩/\(g,Obj.cells cur T zz)∈LY W [4,1]/\o+i*5+5<=cur.size/\cur.extract (o+i*5) (o+i*5+5)=#[I4 z.a,I4 z.b,I4 z.c,I4 z.d,I4 z.e]) (fun i hi=>by
  obtain ⟨af,n,z,G,ht,g,o,cur,T,zz,hp,U,hc⟩:=K i hi;obtain ⟨a,b,c,d,e,rfl,ha,I,J,hd,he⟩:=kX ht G;have B:∀(j:Nat) (n:Int),[a,b,c,d,e][j]?=some n->cur[o+i*5+j]?=some (I4 n):=fun j n X=>by
   have O:=(BE.1 X).1;rw [hc j (by simpa using O)];have h9:([a,b,c,d,e].map (Value.int .i64))[j]?=some (I4 n):=by rw [DH,X];rfl
   exact h9
  obtain ⟨e1,e2⟩:=tO B;exact ⟨⟨a,b,c,d,e⟩,⟨ha,I,J,hd,he⟩,g,o,cur,T,zz,hp,Lr U (TU h4 U (B 0 a V) V),e1,e2⟩)
 subst h1;exact ⟨_,xs,V,p,cap,V,hl,h2⟩
theorem dz{H:Type}{enc:TypeId×Value->H}{W:World}{base:Nat}{held:Bool}{O U:TypeId}{zg zp:Nat×Nat}(h4:QK W O zg U zp){m:Nat}{cs:List Value}{x:DataW H×List MemPlace}(h:DataW.trod enc prog W base (fun _=>true) held m 36 cs=some x):
 ∃v xs,cs=[v]/\Xm (LY W [4,1]) v xs:=by
 obtain ⟨p,len,cap,rfl,hl,B⟩:=NZ Cd zJ AN h;obtain ⟨xs,Z,h2⟩:=IM len (fun i (n:Int)=>ZO n/\∃g o cur T zz,p=some ⟨g,o,none⟩/\(g,Obj.cells cur T zz)∈LY W [4,1]/\cur[o+i]?=some (I4 n)) (fun i hi=>by
  obtain ⟨X,n,z,K,ht,g,o,cur,T,zz,hp,J,hc⟩:=B i hi;obtain ⟨k,rfl,_,G⟩:=DataW.trod_int Cl ht;have h0:cur[o+i]?=some (I4 k):=by have I:=hc 0 B0;rw [LS,N0]at I;exact I
  exact ⟨k,bounds_i64 G,g,o,cur,T,zz,hp,Lr J (TU h4 J h0 V),h0⟩)
 subst Z;exact ⟨_,xs,V,p,cap,V,hl,h2⟩
end Go.Proofs.YteaiajghbkenoaaGreatDoor
