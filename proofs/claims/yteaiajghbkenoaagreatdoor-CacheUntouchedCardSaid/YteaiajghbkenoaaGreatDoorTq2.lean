/- The reference of layer 4: Log, as a function. -/
/- Lists of strings; rows of five integers. -/
/- What the rows list and what the arguments read as, in chunks. -/
/- Logs that integers determine: few rows in a table. -/
/- The law of what Apply returns, in plain words. -/
/- Results that are the same; the law of what Apply leaves, in plain words. -/
/- The law of what Apply leaves. -/
/- CacheUntouched as its card wants it. -/
/- The facts that a card wants, one by one. -/
/- Arguments: rows of five integers, of integers. -/
import Derived.Test.YteaiajghbkenoaaGreatDoorEz
import Derived.Test.YteaiajghbkenoaaGreatDoorLd1
import Derived.ProofKit
import Derived.OpenShut
import Derived.ChangeOld
import Derived.Deep.Slices
import Derived.SliceStrings
import Derived.Lib.LaidTab
import Derived.Stop.LaidErr
import Derived.Test.YteaiajghbkenoaaGreatDoorRows
import Derived.JoinedOf
set_option linter.unusedVariables false
set_option linter.unusedSimpArgs false
namespace Go.Proofs.YteaiajghbkenoaaGreatDoor
open Go.Proofs.Tryz
open Go Go.RowKit Gw
set_option maxRecDepth 100000
attribute [local irreducible] Gw.At Gw.Nx Gw.Ops
set_option maxHeartbeats 4000000 in
theorem wB{M:List A9}{v:Value}{xs:List (List Int)}(hX:WK M v xs)(hx:xs.length<=1000):BZ prog 9 #[v] [M] (fun r H'=>∃(l:List BU) (s:List A9),F6 l/\l.length<=xs.length/\l.map BU.cs=TL xs/\EU s r l/\H'=[s,M]):=by
 have MP:=mL;obtain ⟨px,HZ,rfl,P7,zu⟩:=id hX;refine Se func9 ntmps9 [0] ?_;intro u R;refine A0<|A3 Y<|A0<|A3 Y<|A0<|Zc [] Y call31 Y V (yz) ?_;rintro _ _ ⟨_,⟨sp,rfl,rfl⟩,rfl⟩;refine A3 Y<|Zq<|A0<|A3 Y<|AQ<|BV<|BV<|BV<|Zb [3,5,0,4] ?_;refine BB (e0:=[(3,_),(5,_)]) (fun m e H=>∃(i:Nat) (B:List BU) (w wo:Value) (sv so MM:List A9),m=xs.length -i/\(i<=xs.length/\F6 B/\B.length<=i/\Bb 5 83 w (Bd B).length (Af (Bd B)) sv/\Bb 2 50 wo B.length (Dr B) so/\(∀r∈B,Cr MM (.slice r.q r.cs.length r.cap) r.cs)/\B.map BU.cs=TL (xs.take i))/\e=[(3,wo),(5,I4 (i:Int))]/\H=[[(sp,.cells #[w,I4 (B.length:Int)] 87 (0,0))],sv,so,MM]) (by exact ⟨0,[],.slice none 0 0,.slice none 0 0,[],[],[],V,⟨C0 _,(by intro i r h;cases h),CD _,Bf 5 _,Bf 2 _,by simp,V⟩,V,V⟩) Wp ?_;rintro _ _ _ ⟨i,B,w,wo,sv,so,MM,rfl,⟨hi,cu,P6,kv,j5,p9,p8⟩,rfl,rfl⟩;obtain ⟨qw,qx,rfl⟩:=kv.form;obtain ⟨qo,Hf,rfl⟩:=j5.form;obtain ⟨zf,Gw⟩:=cu.all;have zk:=Pq kv A1
 refine Zq<|A0<|Zm Y<|Zm Y<|Zv (Aa cX Y)<|Zv (Av Y Y)<|A4<|Au Y (fun vw=>?_) (fun vw=>?_)
 ·
  obtain ⟨z,qj⟩:∃z,xs[i]?=some z:=⟨_,B4 vw⟩;obtain ⟨h6,o9,g,off,cur,T,zz,rfl,hm,sJ⟩:=zu i z qj;refine AC<|Zx<|Zq<|AQ<|A0<|A3 Y<|Zq<|A0<|A3 Y<|AQ<|BV<|Zb [6,7,0,3,4,5] ?_;refine BB (e0:=[(6,_),(7,_)]) (fun m e H=>∃(k:Nat) (w2:Value) (cs:List Chg) (sl:List A9),m=3 -k/\(k<=3/\cs.length<=k/\Bb 10 69 w2 cs.length (Cg cs) sl/\cs=GA (Bd B) z k)/\e=[(6,w2),(7,I4 (k:Int))]/\H=[sl]) (by exact ⟨0,.slice none 0 0,[],[],V,⟨C0 _,CD _,Bf 10 _,V⟩,V,V⟩) Wp ?_;rintro _ _ _ ⟨k,w2,cs,sl,rfl,⟨MJ,MC,G,af⟩,rfl,rfl⟩;obtain ⟨gw,cw,rfl⟩:=G.form;have ME:=Et G
  refine Zq<|A0<|Zm Y<|Zv (Av (n:=3) Y Y)<|A4<|Au Y (fun hk=>?_) (fun hk=>?_)
  ·
   obtain ⟨za,X⟩:∃n,z[2*k]?=some n:=⟨_,B4 A1⟩;obtain ⟨zb,Z⟩:∃n,z[2*k+1]?=some n:=⟨_,B4 A1⟩;have MS:=o9 za (DE X)
   have P5:=o9 zb (DE Z);have zm:=sJ _ _ X
   have zq:=sJ _ _ Z;refine AC<|Zx<|Zq<|AQ<|A0<|Zm Y<|Zm Y<|Zm Y<|BX (Ez (m:=2) Y Y A1)<|BX (Ac cX sizeOf81 Y Y A1)<|BX (Cq underlying81 A5 Y Y A1)<|CQ (cs:=[(g,.cells cur T zz)]) (by simp [hm]) (BO AE Y (by(rw [Mn];exact zm))) V rfl ?_;refine A3 Y<|Zb [8,0,3,4,5,6,7] ?_;refine DK (e0:=[(8,_)]) (H0:=[]) (fun e H=>∃(n:Nat),(n<=9223372036854775807/\n=M9 za)/\e=[(8,I4 (n:Int))]/\H=[]) Wp ?hx_3 ?hy_3
   case hx_3=>
    refine A0<|Zm Y<|Zv (Dt Y Y)<|A4<|Au Y (fun zy=>?_) (fun zy=>?_)
    ·
     refine Zg<|Zm Y<|Yi Y Y ?_
     (refine BX (iY Y (IntWalk.i64_in _ ?_)) ?_;(focus (omega)))
     refine AG Y<|Zn [8,0,3,4,5,6,7] ?_;refine BN (e':=[(8,_)]) (by exact ⟨(-(za+1)).toNat,⟨by omega,jT A1⟩,by rw [show(((-(za+1)).toNat:Nat):Int)=0 -(za+1) by omega],rfl⟩)
    refine AC<|Zn [8,0,3,4,5,6,7] ?_;refine BN (e':=[(8,_)]) (by exact ⟨za.toNat,⟨by omega,jS A1⟩,by rw [show((za.toNat:Nat):Int)=za by omega],rfl⟩)
   rintro _ _ ⟨n,⟨hn,gm⟩,rfl,rfl⟩;refine A0<|Zm Y<|Zm Y<|Zm Y<|BX (Ez (m:=2) Y Y A1)<|Ya (n:=1) Y Y ?_;refine BX (Ac cX sizeOf81 Y Y A1)<|BX (Cq underlying81 A5 Y Y A1)<|CQ (cs:=[(g,.cells cur T zz)]) (by simp [hm]) (BO AE Y (by(rw [Mn];exact zq))) V rfl ?_;refine A3 Y<|Zb [9,0,3,4,5,6,7,8] ?_;refine DK (e0:=[(9,_)]) (H0:=[]) (fun e H=>∃(m:Nat),(m<=9223372036854775807/\m=M9 zb)/\e=[(9,I4 (m:Int))]/\H=[]) Wp ?hx_6 ?hy_6
   case hx_6=>
    refine A0<|Zm Y<|Zv (Dt Y Y)<|A4<|Au Y (fun FT=>?_) (fun FT=>?_)
    ·
     refine Zg<|Zm Y<|Yi Y Y ?_
     (refine BX (iY Y (IntWalk.i64_in _ ?_)) ?_;(focus (omega)))
     refine AG Y<|Zn [9,0,3,4,5,6,7,8] ?_;refine BN (e':=[(9,_)]) (by exact ⟨(-(zb+1)).toNat,⟨by omega,jT A1⟩,by rw [show(((-(zb+1)).toNat:Nat):Int)=0 -(zb+1) by omega],rfl⟩)
    refine AC<|Zn [9,0,3,4,5,6,7,8] ?_;refine BN (e':=[(9,_)]) (by exact ⟨zb.toNat,⟨by omega,jS A1⟩,by rw [show((zb.toNat:Nat):Int)=zb by omega],rfl⟩)
   rintro _ _ ⟨m,⟨MK,ek⟩,rfl,rfl⟩;refine A0<|Zm Y<|BX (FQ (n:=3) Y Y A1)<|Zm Y ?_
   (refine BX (K9 (n:=3) Y Y ?_ ?_) ?_;(focus (omega));(focus (omega)))
   refine BX (FQ (n:=9) Y Y A1)<|Ya (m:=1) Y Y<|Zv (BL (vs:=[(0,_),(1,_)]) (cs:=#[_,_,_,_,_,_,_,_,_,_]) Y (AY (pl:=#[(0,1),(1,1),(2,1),(3,3),(6,1),(7,3)]) LN B8 (fun _=>by kernel_rfl) V))<|Ze (Al LN #[_,_,_,_,_,_,_,_,_,_])<|AD fun cb=>Xe (BK C3 Y Y (by(simp [Value.oneCell',Value.cells];done)) Wu (by exact (rfl:_=(#[I4 ((n%3:Nat):Int),I4 ((1+n/3%9:Nat):Int),.bool false,I4 0,I4 0,I4 0,.bool false,I4 0,I4 0,I4 0]:Array Value))) E3 (by exact CD _) (by exact BA _)) ?_;refine A4<|A0<|Zm Y<|Zh 0 B8 V rfl A5 Y<|Zl AE Y ?_;refine Zh 1 B8 V rfl A5 Y<|Zl AE Y ?_;refine Xr [_,_,_] Y call32 Y V (pR sp qw qx (B.length:Int) ((n%3:Nat):Int) ((1+n/3%9:Nat):Int) (Bd B) sv zk A1 zf) ?_;obtain ⟨K,sM⟩:∃K,K=Fh (Bd B) ((n%3:Nat):Int) ((1+n/3%9:Nat):Int):=⟨_,rfl⟩;rw [<-sM];refine Zm Y<|Zd Y V<|Zd Y V<|Ze (Al DS #[_,_,_,_,_])<|AD fun ob=>Xe (Xw An #[I4 K.1.t,I4 K.1.k,I4 K.1.v.a,I4 K.1.v.b,I4 K.1.v.c]) ?_;refine AG Y<|Zn [0,3,4,5,6,7,8,9,10,11,12] ?_;refine Zx<|A0<|Zm Y<|Zh 2 B8 V rfl CH Y<|Xe (Zs CH Y Y V (hc:=by exact (V:_=(#[I4 ((n%3:Nat):Int),I4 ((1+n/3%9:Nat):Int),.bool K.2,I4 0,I4 0,I4 0,.bool false,I4 0,I4 0,I4 0]:Array Value))) (hi:=by(simp;done))) ?_;refine A4<|A0<|Zh 2 FG V rfl DG Y<|Zo Wh (Pa #[_,_,_] HE DG Y) ?_;refine Zh 3 B8 rfl rfl DG Y<|Xe (BK DG Y Y HJ Wu (by exact (rfl:_=(#[I4 ((n%3:Nat):Int),I4 ((1+n/3%9:Nat):Int),.bool K.2,I4 K.1.v.a,I4 K.1.v.b,I4 K.1.v.c,.bool false,I4 0,I4 0,I4 0]:Array Value))) E3 Ax (by exact BA _)) ?_;refine A4<|Zb [12,0,3,4,5,6,7,8,9,10] ?_;refine DK (e0:=[(12,_)]) (H0:=[[(cb,.cells #[I4 ((n%3:Nat):Int),I4 ((1+n/3%9:Nat):Int),.bool K.2,I4 K.1.v.a,I4 K.1.v.b,I4 K.1.v.c,.bool false,I4 0,I4 0,I4 0] 69 (0,0))]]) (fun e H=>∃(hb:Bool),(hb=sQ K.2 m)/\e=[]/\H=[[(cb,.cells #[I4 ((n%3:Nat):Int),I4 ((1+n/3%9:Nat):Int),.bool K.2,I4 K.1.v.a,I4 K.1.v.b,I4 K.1.v.c,.bool hb,I4 0,I4 0,I4 0] 69 (0,0))]]) Wp ?hx_9 ?hy_9
   case hx_9=>
    refine Zg<|Zm Y<|Zv (Bo Y)<|Zm Y<|Ag (t:=77) Y V (fun hh=>?_) (fun hh=>?_)
    ·
     refine A7 Y V<|A7 Y V<|A7 Y V<|Zv (AV Y Y)<|Zh 6 B8 V rfl CH Y<|Xe (Zs CH Y Y V (hi:=by(simp;done))) ?_;refine Z0<|Zn [0,3,4,5,6,7,8,9,10] ?_;refine BN (e':=[]) (H':=[[(cb,.cells #[_,_,_,_,_,_,_,_,_,_] 69 (0,0))]]) ?_;exact ⟨_,by unfold sQ;(rw [hh];rfl),V,V⟩
    refine Zf Y Y ?_
    (refine Gr Y (FQ (n:=4) Y Y ?_) rfl rfl ?_;(focus (omega)))
    refine Yg (DJ (n:=0) Y Y)<|Zv (AL Y Y)<|Zh 6 B8 V rfl CH Y<|Xe (Zs CH Y Y V (hi:=by(simp;done))) ?_;refine Z0<|Zn [0,3,4,5,6,7,8,9,10] ?_;refine BN (e':=[]) (H':=[[(cb,.cells #[_,_,_,_,_,_,_,_,_,_] 69 (0,0))]]) ?_;exact ⟨_,by unfold sQ;(rw [hh];rfl),V,V⟩
   rintro _ _ ⟨hb,sj,rfl,rfl⟩;refine Zb [9,0,3,4,5,6,7,8,10] ?_;refine DK (e0:=[(9,_)]) (H0:=[[(cb,.cells #[I4 ((n%3:Nat):Int),I4 ((1+n/3%9:Nat):Int),.bool K.2,I4 K.1.v.a,I4 K.1.v.b,I4 K.1.v.c,.bool hb,I4 0,I4 0,I4 0] 69 (0,0))]]) (fun e H=>∃(c:Chg),(c=jO K n m)/\e=[]/\H=[[(cb,.cells c.A28 69 (0,0))]]) Wp ?hx_10 ?hy_10
   case hx_10=>
    refine A0<|Zh 6 B8 V rfl CH Y<|Zl E0 Y ?_;refine A4<|AX Y (fun pg=>?_) (fun pg=>?_)
    ·
     refine Zg<|Zm Y ?_
     (refine BX (K9 (n:=4) Y Y ?_ ?_) ?_;(focus (omega));(focus (omega)))
     refine BX (FQ (n:=10) Y Y A1)<|Zm Y ?_
     (refine BX (K9 (n:=40) Y Y ?_ ?_) ?_;(focus (omega));(focus (omega)))
     refine BX (FQ (n:=9) Y Y A1)<|Ya (m:=1) Y Y<|Zm Y ?_
     (refine BX (K9 (n:=400) Y Y ?_ ?_) ?_;(focus (omega));(focus (omega)))
     refine BX (FQ (n:=40) Y Y A1) ?_
     (refine BX (GG Y Y (IntWalk.i64_in _ ?_)) ?_;(focus (omega)))
     refine Zv (BL (vs:=[(0,_),(1,_),(2,_)]) (cs:=#[_,_,_]) Y (DZ cD Hj A5 rfl))<|Zh 7 B8 rfl rfl DG Y<|Xe (BK DG Y Y (by(simp [Value.oneCell',Value.cells];done)) Wu AN E3 (by exact CD _) (by exact BA _)) ?_;refine Z0<|Zn [0,3,4,5,6,7,8,10] ?_;refine BN (e':=[]) (H':=[[(cb,.cells #[_,_,_,_,_,_,_,_,_,_] 69 (0,0))]]) ?_;exact ⟨⟨_,_,_,K.1.v,_,⟨_,_,_⟩⟩,by unfold jO;(rw [<-sj,AM pg];rfl),V,V⟩
    refine AC<|Zn [0,3,4,5,6,7,8,10] ?_;refine BN (e':=[]) (H':=[[(cb,.cells #[_,_,_,_,_,_,_,_,_,_] 69 (0,0))]]) ?_;exact ⟨⟨_,_,_,K.1.v,_,⟨_,_,_⟩⟩,by unfold jO;(rw [<-sj,pg];rfl),V,V⟩
   rintro _ _ ⟨c,sw,rfl,rfl⟩;have d9:c=Qq (Bd B) n m:=by rw [sw,sM];rfl
   refine A0<|A3 Y<|Zq<|A0<|A3 Y<|AQ<|Zb [13,14,0,3,4,5,6,7,8,10] ?_;refine BB (e0:=[(13,_),(14,_)]) (fun m e H=>∃(j:Nat) (b:Bool),m=cs.length -j/\(j<=cs.length/\b=(cs.take j).any (Rz c))/\e=[(13,.bool b),(14,I4 (j:Int))]/\H=[]) (by exact ⟨0,false,V,⟨C0 _,V⟩,V,V⟩) Wp ?_;rintro _ _ _ ⟨j,b,rfl,⟨hj,I⟩,rfl,rfl⟩;refine Zq<|A0<|Zm Y<|Zm Y<|Zv (Aa G4 Y)<|Zv (Av Y Y)<|A4<|Au Y (fun ve=>?_) (fun ve=>?_)
   ·
    refine AC<|Zx<|Zq<|AQ ?_;obtain ⟨y,hy⟩:∃y,cs[j]?=some y:=⟨_,B4 ve⟩;obtain ⟨gl,ql,qz,zl,qa,q9,vo,gB⟩:=Dz G A1;injection qa with hv1 hv2 hv3
    subst hv1 q9;obtain ⟨l5,qb⟩:=uN gB hy;refine Az (n:=22) (0::1::3::3::15::31::63::3::131::511::1023::2047::2047::8191::16383::32767::2047::67583::262143::524287::1048575::2097151::[]) 0 A6 A6 V<|A2 0 V (AO Y)<|A2 1 V (AO Y)<|Bu (t:=105) Y (fun ax=>?_) (fun ax=>?_)
    ·
     rw [ax];refine AF 2 V<|AF 3 V<|AF 4 V<|AF 5 V<|AF 6 V<|AF 7 V<|AF 8 V<|AF 9 V<|AF 10 V<|AF 11 V<|AF 12 V<|AF 13 V<|AF 14 V<|AF 15 V<|AF 16 V<|AF 17 V<|AF 18 V<|AF 19 V<|A2 20 V (AV Y Y)<|A2 21 V (Aw Y)<|Ah<|Zn [0,3,4,5,6,7,8,10,13,14] ?_;refine A8<|Zx<|Zg<|Zm Y<|Ya (n:=1) Y Y<|AG Y<|Zn [13,14,0,3,4,5,6,7,8,10] ?_;refine Ab (e':=[(13,_),(14,_)]) (by exact ⟨j+1,_,V,⟨by omega,Xo hy I (by unfold Rz;(simp_all;done))⟩,V,V⟩)
    rw [ax];refine AH 2 V (AO Y)<|AH 3 V (AO Y)<|AH 4 V (Ac G4 C3 Y Y A1)<|AH 5 V (Ap (off:=0) B8 V rfl A5 Y)<|DA 6 V Wh (BO AE Y (by simpa using l5)) ?_;refine AH 7 V (AB (off:=0) B8 V rfl A5 Y)<|DA 8 V Wh (BO AE Y AN) ?_;refine AH 9 V (CP Y Y)<|AH 10 V (AO Y)<|CW (t:=114) Y (fun ax=>?_) (fun ax=>?_)
    ·
     rw [CM ax];refine AH 11 V (AO Y)<|AH 12 V (AO Y)<|AH 13 V (Ac G4 C3 Y Y A1)<|AH 14 V (Ap (off:=1) B8 V rfl A5 Y)<|DA 15 V Wh (BO AE Y (by simpa using qb)) ?_;refine AH 16 V (AB (off:=1) B8 V rfl A5 Y)<|DA 17 V Wh (BO AE Y AN) ?_;refine AH 18 V (CP Y Y)<|AH 19 V (AV Y Y)<|A2 20 V (AL Y Y)<|A2 21 V (Aw Y)<|Ah<|Zn [0,3,4,5,6,7,8,10,13,14] ?_;refine A8<|Zx<|Zg<|Zm Y<|Ya (n:=1) Y Y<|AG Y<|Zn [13,14,0,3,4,5,6,7,8,10] ?_;refine Ab (e':=[(13,_),(14,_)]) (by exact ⟨j+1,_,V,⟨by omega,Xo hy I (by unfold Rz;(simp_all;done))⟩,V,V⟩)
    rw [C4 ax];refine AF 11 V<|AF 12 V<|AF 13 V<|AF 14 V<|AF 15 V<|AF 16 V<|AF 17 V<|AF 18 V<|AH 19 V (AL Y Y)<|A2 20 V (AL Y Y)<|A2 21 V (Aw Y)<|Ah<|Zn [0,3,4,5,6,7,8,10,13,14] ?_;refine A8<|Zx<|Zg<|Zm Y<|Ya (n:=1) Y Y<|AG Y<|Zn [13,14,0,3,4,5,6,7,8,10] ?_;refine Ab (e':=[(13,_),(14,_)]) (by exact ⟨j+1,_,V,⟨by omega,Xo hy I (by unfold Rz;(simp_all;done))⟩,V,V⟩)
   have ej:j=cs.length:=by omega
   subst ej;rw [G0]at I;refine Ay<|Zt<|Zt<|AR<|Zx<|Zb [8,13,0,3,4,5,6,7,10] ?_;refine DK (e0:=[(8,_),(13,_)]) (H0:=[]) (fun e H=>(¬FK cs c k n)/\e=[]/\H=[]) Wp ?hx_15 ?hy_15
   case hx_15=>
    refine A0<|Zm Y<|Zm Y<|Ag (t:=126) Y V (fun O=>?_) (fun O=>?_)
    ·
     repeat refine A7 Y rfl ?_
     refine Zv (AV Y Y)<|Zm Y ?_;repeat refine A7 Y rfl ?_
     refine Zv (AV Y Y)<|Z0<|Zn [0,3,4,5,6,7,10,149] ?_;refine Zx<|Cn Y<|Ay<|Zt<|AR<|Zx<|Zg<|Zm Y<|Ya (n:=1) Y Y<|AG Y<|Zn [6,7,0,3,4,5] ?_;refine Ab (e':=[(6,_),(7,_)]) (by exact ⟨k+1,_,cs,sl,rfl,⟨by omega,by omega,G,KL af X Z gm ek d9 (by first|exact J|(unfold FK;rw [<-I];first|(simp_all;done)|(simp_all;omega)))⟩,rfl,rfl⟩)
    refine Yf 2 B8 V rfl CH Y<|Yl E0 Y ?_;refine Zf Y Y ?_;refine Ag (t:=129) Y V (fun O=>?_) (fun O=>?_)
    ·
     refine Yf 6 B8 V rfl CH Y<|Yl E0 Y ?_;refine Yg (AV Y Y)<|Zf Y Y ?_;refine Ag (t:=133) Y V (fun O=>?_) (fun O=>?_)
     ·
      refine Yf 3 B8 V rfl DG Y<|Dv Y Wh (AA (cs:=#[_,_,_]) HE DG Y Ax AN) V rfl ?_;refine Yf 7 B8 V rfl DG Y<|Dv Y Wh (Pa #[_,_,_] HE DG Y) V rfl ?_;refine Yg (Kg A6 Hj Cp AE A5 Y Y) ?_;refine Yg (AV Y Y)<|Zv (AL Y Y)<|Zm Y<|Am (t:=141) Y V (fun O=>?_) (fun O=>?_)
      ·
       repeat refine A7 Y rfl ?_
       refine Zv (AV Y Y)<|Z0<|Zn [0,3,4,5,6,7,10,149] ?_;refine Zx<|Cn Y<|Ay<|Zt<|AR<|Zx<|Zg<|Zm Y<|Ya (n:=1) Y Y<|AG Y<|Zn [6,7,0,3,4,5] ?_;refine Ab (e':=[(6,_),(7,_)]) (by exact ⟨k+1,_,cs,sl,rfl,⟨by omega,by omega,G,KL af X Z gm ek d9 (by first|exact J|(unfold FK;rw [<-I];first|(simp_all;done)|(simp_all;omega)))⟩,rfl,rfl⟩)
      refine Zf Y Y<|Yg (DJ (n:=0) Y Y)<|Zf Y Y ?_;refine Am (t:=144) Y V (fun O=>?_) (fun O=>?_)
      ·
       refine Zf Y Y ?_
       (refine Gr Y (FQ (n:=5) Y Y ?_) rfl rfl ?_;(focus (omega)))
       refine Yg (CR (n:=0) Y Y)<|Yg (AV Y Y)<|Zv (AL Y Y)<|Z0<|Zn [0,3,4,5,6,7,10,149] ?_;refine Zx<|Au Y (fun gy=>?_) (fun gy=>?_)
       ·
        have J:FK cs c k n:=by unfold FK;rw [<-I];(simp_all;done)
        refine Ay<|Zt<|AR<|Zx<|Zg<|Zm Y<|Ya (n:=1) Y Y<|AG Y<|Zn [6,7,0,3,4,5] ?_;refine Ab (e':=[(6,_),(7,_)]) (by exact ⟨k+1,_,cs,sl,rfl,⟨by omega,by omega,G,KL af X Z gm ek d9 (by first|exact J|(unfold FK;rw [<-I];first|(simp_all;done)|(simp_all;omega)))⟩,rfl,rfl⟩)
       have J:¬FK cs c k n:=by unfold FK;rw [<-I];(simp_all;done)
       refine AC<|Zn [0,3,4,5,6,7,10] ?_;refine BN (e':=[]) (by exact ⟨(by exact J),V,V⟩)
      refine A7 Y V<|A7 Y V<|A7 Y V<|Yg (AL Y Y)<|Zv (AL Y Y)<|Z0<|Zn [0,3,4,5,6,7,10,149] ?_;refine Zx<|Ch Y<|AC<|Zn [0,3,4,5,6,7,10] ?_;refine BN (e':=[]) (by exact ⟨(by(unfold FK;rw [<-I];first|(simp_all;done)|(simp_all;omega))),rfl,rfl⟩)
     repeat refine A7 Y rfl ?_
     refine Yg (AL Y Y)<|Zv (AL Y Y)<|Zm Y<|Zf Y Y<|Yg (DJ (n:=0) Y Y)<|Zf Y Y ?_;refine Am (t:=144) Y V (fun O=>?_) (fun O=>?_)
     ·
      refine Zf Y Y ?_
      (refine Gr Y (FQ (n:=5) Y Y ?_) rfl rfl ?_;(focus (omega)))
      refine Yg (CR (n:=0) Y Y)<|Yg (AV Y Y)<|Zv (AL Y Y)<|Z0<|Zn [0,3,4,5,6,7,10,149] ?_;refine Zx<|Au Y (fun gy=>?_) (fun gy=>?_)
      ·
       have J:FK cs c k n:=by unfold FK;rw [<-I];(simp_all;done)
       refine Ay<|Zt<|AR<|Zx<|Zg<|Zm Y<|Ya (n:=1) Y Y<|AG Y<|Zn [6,7,0,3,4,5] ?_;refine Ab (e':=[(6,_),(7,_)]) (by exact ⟨k+1,_,cs,sl,rfl,⟨by omega,by omega,G,KL af X Z gm ek d9 (by first|exact J|(unfold FK;rw [<-I];first|(simp_all;done)|(simp_all;omega)))⟩,rfl,rfl⟩)
      have J:¬FK cs c k n:=by unfold FK;rw [<-I];(simp_all;done)
      refine AC<|Zn [0,3,4,5,6,7,10] ?_;refine BN (e':=[]) (by exact ⟨(by exact J),V,V⟩)
     refine A7 Y V<|A7 Y V<|A7 Y V<|Yg (AL Y Y)<|Zv (AL Y Y)<|Z0<|Zn [0,3,4,5,6,7,10,149] ?_;refine Zx<|Ch Y<|AC<|Zn [0,3,4,5,6,7,10] ?_;refine BN (e':=[]) (by exact ⟨(by(unfold FK;rw [<-I];first|(simp_all;done)|(simp_all;omega))),rfl,rfl⟩)
    refine A7 Y V<|A7 Y V<|Yg (AL Y Y)<|Zf Y Y ?_;repeat refine A7 Y rfl ?_
    refine Yg (AL Y Y)<|Zv (AL Y Y)<|Zm Y<|Zf Y Y<|Yg (DJ (n:=0) Y Y)<|Zf Y Y ?_;refine Am (t:=144) Y V (fun O=>?_) (fun O=>?_)
    ·
     refine Zf Y Y ?_
     (refine Gr Y (FQ (n:=5) Y Y ?_) rfl rfl ?_;(focus (omega)))
     refine Yg (CR (n:=0) Y Y)<|Yg (AV Y Y)<|Zv (AL Y Y)<|Z0<|Zn [0,3,4,5,6,7,10,149] ?_;refine Zx<|Au Y (fun gy=>?_) (fun gy=>?_)
     ·
      have J:FK cs c k n:=by unfold FK;rw [<-I];(simp_all;done)
      refine Ay<|Zt<|AR<|Zx<|Zg<|Zm Y<|Ya (n:=1) Y Y<|AG Y<|Zn [6,7,0,3,4,5] ?_;refine Ab (e':=[(6,_),(7,_)]) (by exact ⟨k+1,_,cs,sl,rfl,⟨by omega,by omega,G,KL af X Z gm ek d9 (by first|exact J|(unfold FK;rw [<-I];first|(simp_all;done)|(simp_all;omega)))⟩,rfl,rfl⟩)
     have J:¬FK cs c k n:=by unfold FK;rw [<-I];(simp_all;done)
     refine AC<|Zn [0,3,4,5,6,7,10] ?_;refine BN (e':=[]) (by exact ⟨(by exact J),V,V⟩)
    refine A7 Y V<|A7 Y V<|A7 Y V<|Yg (AL Y Y)<|Zv (AL Y Y)<|Z0<|Zn [0,3,4,5,6,7,10,149] ?_;refine Zx<|Ch Y<|AC<|Zn [0,3,4,5,6,7,10] ?_;refine BN (e':=[]) (by exact ⟨(by(unfold FK;rw [<-I];first|(simp_all;done)|(simp_all;omega))),rfl,rfl⟩)
   rintro _ _ ⟨J,rfl,rfl⟩;refine A0<|Zm Y<|Zv (Aa G4 Y)<|A3 Y<|Zb [15,0,3,4,5,6,7,10] ?_;refine DK (e0:=[(15,_)]) (H0:=[]) (fun e H=>∃(j:Nat),(j<=cs.length/\Q3 cs c cs.length=j)/\e=[(15,I4 (j:Int))]/\H=[]) Wp ?hx_27 ?hy_27
   case hx_27=>
    refine AQ<|Zb [15,0,3,4,5,6,7,10] ?_;refine BB (e0:=[(15,_)]) (fun m e H=>∃(j:Nat),m=0+j/\(j<=cs.length/\Q3 cs c j=Q3 cs c cs.length)/\e=[(15,I4 (j:Int))]/\H=[]) (by exact ⟨cs.length,V,⟨CD _,V⟩,V,V⟩) Wp ?_;rintro _ _ _ ⟨j,rfl,⟨hj,U⟩,rfl,rfl⟩;refine Zq<|Zq<|Az (n:=35) (0::1::3::7::7::23::63::127::255::7::519::2047::4095::8191::8191::24575::65535::131071::262143::8191::532479::2097151::4194303::8388607::8388607::25165823::67108863::134217727::268435455::8388607::545259519::2147483647::4294967295::8589934591::17179869183::[]) 0 A6 A6 V<|A2 0 V (AO Y)<|A2 1 V (DJ (n:=0) Y Y)<|A2 2 V (AO Y)<|CW (t:=154) Y (fun ic=>?_) (fun ic=>?_)
    ·
     rw [CM ic];obtain ⟨y,hy⟩:∃y,cs[j -1]?=some y:=⟨_,B4 A1⟩;obtain ⟨gl,ql,qz,zl,qa,q9,vo,gB⟩:=Dz G A1;injection qa with hv1 hv2 hv3
     subst hv1 q9;obtain ⟨l5,qb⟩:=uN gB hy;refine AH 3 V (AO Y)<|AH 4 V (AO Y) ?_
     (refine AH 5 rfl (CO (n:=1) Y Y ?_ ?_) ?_;(focus (omega));(focus (omega)))
     refine AH 6 V (Ac G4 C3 Y Y A1)<|AH 7 V (Ap (off:=0) B8 V rfl A5 Y)<|DA 8 V Wh (BO AE Y (by simpa using l5)) ?_;refine AH 9 V (AB (off:=0) B8 V rfl A5 Y)<|DA 10 V Wh (BO AE Y AN) ?_;refine AH 11 V (Er Y Y)<|AH 12 V (AO Y)<|CW (t:=164) Y (fun bn=>?_) (fun bn=>?_)
     ·
      rw [CM bn];refine AF 13 V<|AF 14 V<|AF 15 V<|AF 16 V<|AF 17 V<|AF 18 V<|AF 19 V<|AF 20 V<|AF 21 V<|AF 22 V<|AF 23 V<|AF 24 V<|AF 25 V<|AF 26 V<|AF 27 V<|AF 28 V<|AF 29 V<|AF 30 V<|AF 31 V<|AF 32 V<|AH 33 V (AV Y Y)<|A2 34 V (AV Y Y)<|Ah<|Zn [0,3,4,5,6,7,10,15,186] ?_;refine Zx<|Cn Y<|AC<|Zx<|AQ<|Zg<|Zm Y<|Yb (n:=1) Y Y<|AG Y<|A8<|Zn [15,0,3,4,5,6,7,10] ?_;refine Ab (e':=[(15,_)]) (by exact ⟨j -1,V,⟨by omega,(Yc ic hy (by unfold M6;omega)).symm.trans U⟩,V,V⟩)
     rw [C4 bn];refine AH 13 V (AO Y)<|AH 14 V (AO Y) ?_
     (refine AH 15 rfl (CO (n:=1) Y Y ?_ ?_) ?_;(focus (omega));(focus (omega)))
     refine AH 16 V (Ac G4 C3 Y Y A1)<|AH 17 V (Ap (off:=0) B8 V rfl A5 Y)<|DA 18 V Wh (BO AE Y (by simpa using l5)) ?_;refine AH 19 V (AB (off:=0) B8 V rfl A5 Y)<|DA 20 V Wh (BO AE Y AN) ?_;refine AH 21 V (CP Y Y)<|AH 22 V (AO Y)<|CW (t:=174) Y (fun bn=>?_) (fun bn=>?_)
     ·
      rw [CM bn];refine AH 23 V (AO Y)<|AH 24 V (AO Y) ?_
      (refine AH 25 rfl (CO (n:=1) Y Y ?_ ?_) ?_;(focus (omega));(focus (omega)))
      refine AH 26 V (Ac G4 C3 Y Y A1)<|AH 27 V (Ap (off:=1) B8 V rfl A5 Y)<|DA 28 V Wh (BO AE Y (by simpa using qb)) ?_;refine AH 29 V (AB (off:=1) B8 V rfl A5 Y)<|DA 30 V Wh (BO AE Y AN) ?_;refine AH 31 V (Er Y Y)<|AH 32 V (AV Y Y)<|AH 33 V (AL Y Y)<|A2 34 V (AV Y Y)<|Ah<|Zn [0,3,4,5,6,7,10,15,186] ?_;refine Zx<|Au Y (fun zt=>?_) (fun zt=>?_)
      ·
       refine AC<|Zx<|AQ<|Zg<|Zm Y<|Yb (n:=1) Y Y<|AG Y<|A8<|Zn [15,0,3,4,5,6,7,10] ?_;refine Ab (e':=[(15,_)]) (by exact ⟨j -1,V,⟨by omega,(Yc ic hy (by unfold M6;omega)).symm.trans U⟩,V,V⟩)
      refine Ay<|Zt<|Zt<|AR<|Zn [15,0,3,4,5,6,7,10] ?_;refine BN (e':=[(15,_)]) (by exact ⟨j,⟨hj,U.symm.trans (by exact YZ A1 hy (by unfold M6;first|omega|(simp_all;omega)))⟩,rfl,rfl⟩)
     rw [C4 bn];refine AF 23 V<|AF 24 V<|AF 25 V<|AF 26 V<|AF 27 V<|AF 28 V<|AF 29 V<|AF 30 V<|AF 31 V<|AH 32 V (AL Y Y)<|AH 33 V (AL Y Y)<|A2 34 V (AV Y Y)<|Ah<|Zn [0,3,4,5,6,7,10,15,186] ?_;refine Zx<|Ch Y<|Ay<|Zt<|Zt<|AR<|Zn [15,0,3,4,5,6,7,10] ?_;refine BN (e':=[(15,_)]) (by exact ⟨j,⟨hj,U.symm.trans (by exact YZ A1 hy (by unfold M6;first|omega|(simp_all;omega)))⟩,rfl,rfl⟩)
    rw [C4 ic];refine AF 3 V<|AF 4 V<|AF 5 V<|AF 6 V<|AF 7 V<|AF 8 V<|AF 9 V<|AF 10 V<|AF 11 V<|AF 12 V<|AF 13 V<|AF 14 V<|AF 15 V<|AF 16 V<|AF 17 V<|AF 18 V<|AF 19 V<|AF 20 V<|AF 21 V<|AF 22 V<|AF 23 V<|AF 24 V<|AF 25 V<|AF 26 V<|AF 27 V<|AF 28 V<|AF 29 V<|AF 30 V<|AF 31 V<|AF 32 V<|AF 33 V<|A2 34 V (AL Y Y)<|Ah<|Zn [0,3,4,5,6,7,10,15,186] ?_;refine Zx<|Ch Y<|Ay<|Zt<|Zt<|AR<|Zn [15,0,3,4,5,6,7,10] ?_;refine BN (e':=[(15,_)]) (by exact ⟨j,⟨hj,U.symm.trans (by exact qF A1)⟩,V,V⟩)
   rintro _ _ ⟨j,⟨hj,Gl⟩,rfl,rfl⟩;refine Az (n:=12) (0::0::0::7::0::16::0::0::192::496::1023::2047::[]) 1568 A6 A6 V<|A2 0 V (AO Y)<|A2 1 V (AO Y)<|A2 2 V (AO Y)<|A2 3 V (Oh G4 C3 Y Y Y A1)<|E6 4 V Wh (Pa #[_,_,_,_,_,_,_,_,_,_] Ft C3 Y) ?_;refine A2 6 V (AO Y)<|A2 7 V (AO Y)<|A2 8 V (CB G4 C3 Y Y A1)<|Yw 5 511 V (Aj (vs:=[_]) (cs:=[_,_,_,_,_,_,_,_,_,_]) G4 C3 LN Y V rfl V rfl V)<|AD fun gb=>Yw 9 1023 V (BR (by_:=80) (sz:=10) G4 (V:Tryz.prog.info? 69=some Tryz.t69) V rfl V rfl Y (IP 10 69 gb 1 (Cg [c]) V AW) Y (Jw G j (cs.length -j) _ A1) Wo Wo (by exact fun u hu=>PN cs u (ID hu)) A1 A1) ?_;rintro _ _ ⟨Pn,l9,rfl⟩;obtain ⟨Mx,LC,rfl⟩:=l9.form;refine Yw 10 2047 V (Qz (by_:=80) (sz:=10) G4 (V:Tryz.prog.info? 69=some Tryz.t69) V rfl V rfl Y (Jv G j _ hj) Y (iO l9) Wo Wo A1 A1 A1) ?_;rintro _ _ ⟨Ps,o8,rfl⟩;have vz:=BS o8 (n':=(cs.take j++[c]++cs.drop j).length) (xs':=Cg (cs.take j++[c]++cs.drop j)) (by simp only [B7,C1,C2,E7];omega) (by rw [Iu,Iu,Ug,Uh,CN])
   obtain ⟨MB,LD,rfl⟩:=o8.form;refine A2 11 V (Aw Y)<|Ah<|A8<|Zx<|Zg<|Zm Y<|Ya (n:=1) Y Y<|AG Y<|Zn [6,7,0,3,4,5] ?_;refine Ab (e':=[(6,_),(7,_)]) (by exact ⟨k+1,_,cs.take j++[c]++cs.drop j,_,V,⟨by omega,by simp only [B7,C1,C2,E7];omega,vz,uK af X Z gm ek d9 J Gl⟩,V,V⟩)
  have l8:cs=GA (Bd B) z 3:=by have e3:k=3:=A1;subst e3;exact af
  refine Ay<|Zt<|Zt<|AR<|Zx<|A0<|Zm Y<|Zp Y V<|Zh 1 I0 V rfl A5 Y<|Zl AE Y ?_;refine Ya (n:=1) Y Y<|Zm Y<|Zv (BL (vs:=[(0,_),(1,_)]) (cs:=#[_,_]) Y (AY (pl:=#[(0,1),(1,1)]) Sx GS (fun _=>by kernel_rfl) V))<|Ze (Al Sx #[_,_])<|AD fun rb=>Xe (BK F2 Y Y (by(simp [Value.oneCell',Value.cells];done)) Wu (by exact (rfl:_=(#[I4 ((B.length:Int)+1),.slice gw cs.length cw]:Array Value))) E3 (by exact CD _) (by exact BA _)) ?_;refine A4<|A0<|Zm Y<|Zo Wh (Pa #[_,_] HW F2 Y) ?_;refine Zc [_,_] Y call33 Y V (pU sp (B.length:Int) ((B.length:Int)+1) _ (Bd B) sv sl gw cw cs kv (QO G A1) zf Gw A1) ?_;rintro _ _ ⟨_,x9,rfl⟩;rcases x9 with⟨j3,v2,zi,rfl,y9,rfl⟩|⟨j3,rfl,rfl⟩
  ·
   refine AG Y<|Zn [0,3,4,5,16,17] ?_;refine Zx<|A0<|Zm Y<|Zv (CR (n:=0) Y Y)<|A4<|Au Y (fun he=>?_) (fun he=>?_)
   ·
    have pq:F6 (B++[⟨(B.length:Int)+1,gw,cw,cs⟩]):=cu.snoc j3 (by show cs.length<=3;omega);have pz:(((B++[(⟨(B.length:Int)+1,gw,cw,cs⟩:BU)]).length:Nat):Int)=(B.length:Int)+1:=by rw [B7,E7];omega
    have yt:Bb 5 83 v2 (Bd (B++[⟨(B.length:Int)+1,gw,cw,cs⟩])).length (Af (Bd (B++[⟨(B.length:Int)+1,gw,cw,cs⟩]))) zi:=by rw [Gf];exact y9
    have r9:∀r∈B++[(⟨(B.length:Int)+1,gw,cw,cs⟩:BU)],Cr (MM++sl) (.slice r.q r.cs.length r.cap) r.cs:=by
     intro r hr;rcases BE.1 hr with hr|hr
     · exact Jh (p9 r hr) sl
     · rw [BT.1 hr];exact Gy (QO G A1) MM
    refine CK (s1:=MM) (s2:=sl) Wo Wo ?_;refine Zg<|Zm Y<|Zo Wh (Pa #[_,_] HW F2 Y) ?_;refine Ze (Aj (vs:=[_]) (cs:=[_,_]) GC F2 Sx Y V rfl V rfl V)<|AD fun gq=>Ze (BR (by_:=32) (sz:=2) GC (V:Tryz.prog.info? 50=some Tryz.t50) V rfl V rfl Y (j5) Y (DC 2 gq 1 1 50 (0,0) [I4 ((B.length:Int)+1),.slice gw cs.length cw] V) Wo Wo Fl A1 A1) ?_;rintro _ _ ⟨sO,wz,rfl⟩;have y5:=BS wz (n':=(B++[(⟨(B.length:Int)+1,gw,cw,cs⟩:BU)]).length) (xs':=Dr (B++[⟨(B.length:Int)+1,gw,cw,cs⟩])) (by rw [B7,E7]) (by rw [KZ];rfl)
    obtain ⟨gO,cO,rfl⟩:=wz.form;refine AG Y<|A8<|Zx<|Zg<|Zm Y<|Ya (n:=1) Y Y<|AG Y<|Zn [3,5,0,4] ?_;refine Ab (e':=[(3,_),(5,_)]) (by exact ⟨i+1,B++[⟨(B.length:Int)+1,gw,cw,cs⟩],_,_,zi,sO,MM++sl,rfl,⟨by omega,pq,by rw [B7,E7];omega,yt,y5,r9,wR qj p8 l8 j3⟩,rfl,by rw [pz]⟩)
   exact absurd V he
  refine AG Y<|Zn [0,3,4,5,16,17] ?_;refine Zx<|A0<|Zm Y<|Zv (CR (n:=0) Y Y)<|A4<|Au Y (fun he=>by cases he)<|fun he=>AC<|A8<|Zx<|Zg<|Zm Y<|Ya (n:=1) Y Y<|AG Y<|Zn [3,5,0,4] ?_;refine Ab (e':=[(3,_),(5,_)]) (by exact ⟨i+1,B,_,_,sv,so,MM,V,⟨by omega,cu,by omega,kv,j5,p9,zD qj p8 l8 j3⟩,V,V⟩)
 refine Ay<|Zt<|Zt<|AR<|Zx<|Zq<|CK (s1:=so) (s2:=MM) Wo Wo ?_;refine Zg<|Zm Y<|A3 Y<|AJ<|AP rfl results9 Y (by exact ⟨B,_,cu,by omega,by rw [p8,Hv A1],Jz j5 A1 p9,rfl⟩)
structure QR where
 a:Int
 b:Int
 c:Int
 d:Int
 e:Int
def sG(n:Int):Prop:=-9223372036854775808<=n/\n<=9223372036854775807
def QR.fits(z:QR):Prop:=sG z.a/\sG z.b/\sG z.c/\sG z.d/\sG z.e
def QR.q(z:QR):QM:=GV z.a z.b z.c z.d z.e
theorem QR.ok(z:QR):BJ z.q:=dN _ _ _ _ _
def Xu(M:List A9)(v:Value)(ys:List QR):Prop:=∃p cap,v= .slice p ys.length cap/\(ys.length<=maxLen/\ys.length<=cap)/\∀(i:Nat) (z:QR),ys[i]?=some z->z.fits/\∃g off cur T zz,p=some ⟨g,off,none⟩/\(g,Obj.cells cur T zz)∈M/\off+i*5+5<=cur.size/\cur.extract (off+i*5) (off+i*5+5)=#[I4 z.a,I4 z.b,I4 z.c,I4 z.d,I4 z.e]
end Go.Proofs.YteaiajghbkenoaaGreatDoor
namespace Go.Proofs.YteaiajghbkenoaaGreatDoor
open Go.Proofs.Tryz
open Go Go.RowKit Gw
set_option maxRecDepth 100000
attribute [local irreducible] Gw.At Gw.Nx Gw.Ops
open Go.ChangeShapes Go.WideShapes Go.Deep
theorem oy(g:Addr):g.add 0=g:=by simp [Addr.add]
theorem uj{w:World}{a:Addr}{v:Value}(h:w.cell? a=some v):a=⟨a.block,a.off,none⟩:=by
 cases a with|mk b o s=>
 cases s with
 |none=>rfl
 |some s=>
  simp only [World.cell?]at h;split at h<;>simp at h
theorem WB{w:World}{g i:Nat}{v:Value}(h:w.cell? ⟨g,i,none⟩=some v):∃cur T z,w.heap[g]?=some (.cells cur T z)/\cur[i]?=some v:=by
 unfold World.cell? at h;simp only at h;split at h
 · rename_i c T z hc
   exact ⟨c,T,z,hc,by simpa using h⟩
 · cases h
section
variable{H:Type}{enc:TypeId×Value->H}{P:Program}{w:World}{base:Nat}{held:Bool}
end
def WU(w:World):List A9:=(List.range w.heap.size).filterMap fun b=>(w.heap[b]?).map fun o=>(b,o)
theorem Vf{w:World}{b:Nat}{o:Obj}:(b,o)∈WU w↔w.heap[b]?=some o:=by
 unfold WU;rw [XS];constructor
 · rintro ⟨a,_,m⟩
   obtain ⟨o',g,h2⟩:=ml.1 m;injection h2 with e1 e2
   subst e1 e2;exact g
 · intro h
   refine ⟨b,?_,by rw [h];rfl⟩;rw [JT];rcases Dg b w.heap.size with g|g
   · exact g
   · simp [Hc g]at h
theorem bM(w:World):((WU w).map (·.1)).Nodup:=by
 have:∀l:List Nat,((l.filterMap fun b=>(w.heap[b]?).map fun o=>(b,o)).map (·.1)).Sublist l:=by
  intro l;induction l with
  |nil=>simp
  |cons a l ih=>
   rw [jj];cases h:w.heap[a]?with
   |none=>simp only [Option.map_none];exact ih.cons a
   |some o=>simp only [N2,DQ];exact ih.cons_cons a
 exact List.Nodup.sublist (this _) gC
def Ob(w:World)(ks:List Nat):List A9:=(WU w).filter fun c=>!ks.contains c.1
theorem Ot{w:World}{g:List Nat}{b:Nat}{o:Obj}(h:w.heap[b]?=some o)(m:b∉g):(b,o)∈Ob w g:=by
 unfold Ob;rw [Ek];exact ⟨Vf.2 h,by simp [m]⟩
theorem lT{P:Program}{f:FuncId}{args:Array Value}{v:Value}{w:World}(L:List A9)(U:∀c∈L,w.heap[c.1]?=some c.2)(hn:(L.map (·.1)).Nodup){H:Hp}(B:H.flatten=L++Ob w (L.map (·.1)))(h:BI P f args H v):
 Calls P f args w fun e O=>e= .returned v/\Below w.heap.size w O:=by
 have K:Sat w (H++[]) w:=by
  refine ⟨V,V,V,?_,?_⟩
  · rw [DB,B,Bm,Ge]
    refine ⟨hn,?_,?_⟩
    · exact List.Nodup.sublist (SU.map _) (bM w)
    · intro a ha b hb e
      subst e;obtain ⟨c,hc,rfl⟩:=Bk.1 hb;unfold Ob at hc;have:=(Ek.1 hc).2
      simp only [SZ,List.contains_eq_mem,N0]at this;exact this ha
  · intro p I
    rw [DB,B,BE]at I;rcases I with I|I
    · exact U p I
    · exact Vf.1 (Ek.1 I).1
 refine Calls.mono (h w [] w K) fun e O he=>?_;rcases he with⟨v',H',rfl,⟨rfl,rfl⟩,m⟩|⟨_,_,_,hf,_⟩
 · refine ⟨rfl,m.os,m.tape,m.output,?_,?_⟩
   · rcases PB w.heap.size with h0|h0
     · omega
     · have X:w.heap.size -1<w.heap.size:=by omega
       have J:w.heap[w.heap.size -1]?=some w.heap[w.heap.size -1]:=HF X;have:O.heap[w.heap.size -1]?=some w.heap[w.heap.size -1]:=by
        by_cases G:(w.heap.size -1)∈L.map (·.1)
        · obtain ⟨c,hc,G⟩:=Bk.1 G
          have g:=m.get c (by rw [DB,B];exact DP _ hc);have h2:=U c hc
          rw [G]at g h2;rw [g,<-h2,J]
        · exact m.get (_,_) (by rw [DB,B];exact Fm _ (Ot J G))
       rcases Dg (w.heap.size -1) O.heap.size with g|g
       · omega
       · rw [Hc g]at this;cases this
   · intro k G
     have J:w.heap[k]?=some w.heap[k]:=HF G;by_cases Z:k∈L.map (·.1)
     · obtain ⟨c,hc,rfl⟩:=Bk.1 Z
       have g:=m.get c (by rw [DB,B];exact DP _ hc);rw [g,U c hc]
     · rw [J]
       exact m.get (_,_) (by rw [DB,B];exact Fm _ (Ot J Z))
 · exact hf.elim
theorem Y1{P:Program}{w:World}{n:String}{g:Nat}{cs:Array Value}(m:P.globalNamed n=some g)(h:w.var? P n=some cs):∃T z,w.heap[g]?=some (.cells cs T z):=by
 unfold World.var? at h;rw [m,IF]at h;split at h
 · rename_i c T z hc
   injection h with e
   subst e;exact ⟨T,z,hc⟩
 · cases h
theorem tC:Tryz.prog.globalNamed "cachetier/digest.round"=some 4:=by kernel_rfl
theorem yY:(Tryz.prog.globals[4]?).map (·.type)=some 431:=by kernel_rfl
theorem c32:Tryz.prog.cellsOf 300=1:=by kernel_rfl
theorem tg:Tryz.prog.cellsOf 431=64:=by kernel_rfl
theorem oT:Tryz.prog.globalNamed "internal/strconv.uint64pow10"=some 1:=by kernel_rfl
theorem sY:(Tryz.prog.globals[1]?).map (·.type)=some 359:=by kernel_rfl
theorem c64:Tryz.prog.cellsOf 302=1:=by kernel_rfl
theorem tk:Tryz.prog.cellsOf 359=20:=by kernel_rfl
def oz:List Int:=Eo.map fun x=>(x.toNat:Int)
theorem dG:(Rows.laid_cachetier_digest_round:DataW Unit)=Lib.tabData .u32 oz:=by kernel_rfl
theorem YP:(oz.map fun z=>Value.int .u32 z).toArray=(Eo.map Ct).toArray:=by kernel_rfl
theorem qE:(Rows.laid_internal_strconv_uint64pow10:DataW Unit)=Lib.tabData .u64 Lib.pow10Tab:=by kernel_rfl
def UB(W:World)(Tg:TypeId)(zg:Nat×Nat)(Tp:TypeId)(zp:Nat×Nat):Prop:=W.heap[4]?=some (.cells (Eo.map Ct).toArray Tg zg)/\W.heap[1]?=some (.cells (Lib.pow10Tab.map fun z=>Value.int .u64 z).toArray Tp zp)
theorem qc{a b:String×DataW Unit}{r:List (String×DataW Unit)}{W:World}(h:laidMet prog (a::b::("internal/strconv.uint64pow10",Rows.laid_internal_strconv_uint64pow10)::("cachetier/digest.round",Rows.laid_cachetier_digest_round)::r) W):
 ∃Tg zg Tp zp,UB W Tg zg Tp zp:=by
 have h1:=h.tail.tail;have h3:=h1.tail
 rw [qE]at h1;rw [dG]at h3;have h2:=Lib.tabIs_of_head oT sY underlying359 W5 c64 tk h1
 have h5:=Lib.tabIs_of_head tC yY To Sp c32 tg h3;unfold Lib.TabIs at h2 h5;rw [YP]at h5;obtain ⟨Tg,zg,hb⟩:=Y1 tC h5;obtain ⟨Tp,zp,hc⟩:=Y1 oT h2;exact ⟨Tg,zg,Tp,zp,hb,hc⟩
def ry:Value->Bool
 | .string _=>true
 | .slice _ _ _=>true
 | .bool _=>true
 | .int .i64 _=>true
 |_=>false
theorem aA{W:World}{J K:TypeId}{O U:Nat×Nat}(G:UB W J O K U)
 {g i:Nat}{cur:Array Value}{T:TypeId}{z:Nat×Nat}(B:W.heap[g]?=some (.cells cur T z)){y:Value}(hc:cur[i]?=some y)(I:ry y=true):g∉ [4,1]:=by
 intro m;simp only [D2,RT,RC]at m;rcases m with m|m
 · subst m
   rw [G.1]at B;injection B with e
   injection e with e1 _ _
   subst e1;rw [ft,DM]at hc;obtain ⟨u,_,rfl⟩:=ml.1 hc;simp [Ct,ry]at I
 · subst m
   rw [G.2]at B;injection B with e
   injection e with e1 _ _
   subst e1;rw [ft,DM]at hc;obtain ⟨u,_,rfl⟩:=ml.1 hc;simp [ry]at I
theorem wY{f:FuncId}{args:Array Value}{v:Value}{W:World}{g m:TypeId}{B G:Nat×Nat}(I:UB W g B m G)
 (h:BI prog f args [[(4,.cells (Eo.map Ct).toArray g B)],[(1,.cells (Lib.pow10Tab.map fun z=>Value.int .u64 z).toArray m G)],Ob W [4,1]] v):
 Calls prog f args W fun e J=>e= .returned v/\Below W.heap.size W J:=
 lT [(4,.cells (Eo.map Ct).toArray g B),(1,.cells (Lib.pow10Tab.map fun z=>Value.int .u64 z).toArray m G)] (by
  intro c hc;simp only [D2,RT,RC]at hc;rcases hc with rfl|rfl
  · exact I.1
  · exact I.2) B0 B0 h
theorem Je{α:Type}:∀(n:Nat) (p:Nat->α->Prop),(∀i,i<n->∃o,p i o)->∃os:List α,os.length=n/\∀i o,os[i]?=some o->p i o
 |0,_,_=>⟨[],rfl,fun i o h=>by cases h⟩
 |n+1,p,h=>by
  obtain ⟨os,g,h2⟩:=Je n p (fun i hi=>h i (by omega));obtain ⟨o,m⟩:=h n (by omega);refine ⟨os++[o],by simp [g],fun i o' hi=>?_⟩;rw [my]at hi;split at hi
  · exact h2 i o' hi
  · rename_i hlt
    have:i=n:=by
     have:=(B9.1 hi).1;simp at this;omega
    subst this;rw [g,Tl]at hi;simp only [X1,W1]at hi;subst hi;exact m
section
variable{H:Type}{enc:TypeId×Value->H}{P:Program}{W:World}{base:Nat}{held:Bool}
theorem TE{t e:TypeId}{s I:Nat}{cs:List Value}{x:DataW H×List MemPlace}(ht:P.underlying t=some (.slice e))(hc:P.cellsOf e=s)(hs:0<s)(h:DataW.trod enc P W base (fun _=>true) held I t cs=some x):
 ∃p len cap,cs=[.slice p len cap]/\(len<=maxLen/\len<=cap)/\∀i,i<len->∃B n z,B.length=s/\DataW.trod enc P W base (fun _=>true) held n e B=some z/\
  ∃g o cur T zz,p=some ⟨g,o,none⟩/\W.heap[g]?=some (.cells cur T zz)/\∀j,j<s->cur[o+i*s+j]?=B[j]?:=by
 rcases open_slice ht h with⟨rfl,_⟩|⟨a,len,cap,m,n,D,Pl,rfl,_,hl,hm,hmm,_,hel⟩
 · exact ⟨none,0,0,rfl,⟨C0 _,CD _⟩,fun i hi=>by omega⟩
 · simp only [Hb]at hmm
   subst hmm;refine ⟨some a,len,m,V,⟨by omega,hl⟩,fun i hi=>?_⟩;have G:a=⟨a.block,a.off,none⟩:=by
    obtain ⟨cs0,Z,_⟩:=hel 0 A1;rw [hc]at Z;obtain ⟨_,af,gg⟩:=World.cells?_some Z;have g9:=gg 0 hs
    rw [B4 (l:=cs0) (i:=0) A1,eM,oy,oy]at g9;exact uj g9
   obtain ⟨B,h1,h2⟩:=hel i A1;rw [hc]at h1;obtain ⟨_,K,hg⟩:=World.cells?_some h1;refine ⟨B,n,_,K,h2,?_⟩;have h9:=hg 0 hs
   rw [B4 (l:=B) (i:=0) A1,G,CX,CX]at h9;obtain ⟨cur,T,zz,hb,_⟩:=WB h9;refine ⟨a.block,a.off,cur,T,zz,by rw [<-G],hb,fun j hj=>?_⟩;have O:=hg j hj
   rw [B4 (l:=B) (i:=j) A1]at O⊢;rw [G,CX,CX]at O;obtain ⟨X,T2,ax,J,U⟩:=WB O;rw [hb]at J;injection J with e
   injection e with e1 _ _
   rw [e1];exact U
end
theorem ox:Tryz.prog.cellsOf 3=1:=by kernel_rfl
theorem tj:Tryz.prog.cellsOf 81=6:=by kernel_rfl
theorem Yx{H:Type}{enc:TypeId×Value->H}{W:World}{base:Nat}{held:Bool}{Tg Tp:TypeId}{zg zp:Nat×Nat}(h4:UB W Tg zg Tp zp){I:Nat}{cs:List Value}{x:DataW H×List MemPlace}(h:DataW.trod enc prog W base (fun _=>true) held I 22 cs=some x):
 ∃v xs,cs=[v]/\WK (Ob W [4,1]) v xs:=by
 obtain ⟨p,len,cap,rfl,hl,X⟩:=TE cX tj AW h;obtain ⟨xs,h1,h2⟩:=Je len (fun i (z:List Int)=>z.length=6/\(∀n∈z,-9223372036854775808<=n/\n<=9223372036854775807)/\∃g o cur T zz,p=some ⟨g,o,none⟩/\(g,Obj.cells cur T zz)∈Ob W [4,1]/\∀(j:Nat) (n:Int),z[j]?=some n->cur[o+i*6+j]?=some (I4 n)) (fun i hi=>by
  obtain ⟨B,n,z,cu,ht,g,o,cur,T,zz,hp,hb,hc⟩:=X i hi;obtain ⟨ys,m,_,_,_,d9,hf⟩:=DataW.trod_array underlying81 ht;obtain ⟨ns,bn,U⟩:=Je 6 (fun j (n:Int)=>(-9223372036854775808<=n/\n<=9223372036854775807)/\B[j]?=some (I4 n)) (fun j G=>by
   have f:=hf j G;rw [ox,Mn,B4 A1]at f;have K:j<B.length:=by omega
   have e:(B.drop j).take 1=[B[j]]:=by rw [RE K];rfl
   rw [e]at f;obtain ⟨k,Z,_,af⟩:=DataW.trod_int Cp f;injection Z with Z _
   exact ⟨k,bounds_i64 af,by rw [B4 K,Z]⟩)
  have J:∀(j:Nat) (n:Int),ns[j]?=some n->cur[o+i*6+j]?=some (I4 n):=fun j n G=>by
   have cO:=(B9.1 G).1;rw [hc j A1];exact (U j n G).2
  obtain ⟨n0,ax⟩:∃n,ns[0]?=some n:=⟨_,B4 A1⟩;exact ⟨ns,bn,fun n O=>by
   obtain ⟨j,G⟩:=GW O;exact (U j n G).1,g,o,cur,T,zz,hp,Ot hb (aA h4 hb (J 0 n0 ax) V),J⟩)
 subst h1;exact ⟨_,xs,V,p,cap,V,hl,h2⟩
open Go.ChangeShapes Go.WideShapes Go.Deep
theorem ri:Tryz.prog.cellsOf 23=5:=by kernel_rfl
theorem lM{l:List Value}(h:l.length=5):∃a b c d e,l=[a,b,c,d,e]:=by
 match l,h with
 |[a,b,c,d,e],_=>exact ⟨a,b,c,d,e,rfl⟩
theorem ku{H:Type}{enc:TypeId×Value->H}{W:World}{base:Nat}{held:Bool}{B:Nat}{l:List Value}{x:DataW H×List MemPlace}(h:DataW.trod enc prog W base (fun _=>true) held B 23 l=some x)(hl:l.length=5):
 ∃a b c d e:Int,l=[I4 a,I4 b,I4 c,I4 d,I4 e]/\(-9223372036854775808<=a/\a<=9223372036854775807)/\(-9223372036854775808<=b/\b<=9223372036854775807)/\(-9223372036854775808<=c/\c<=9223372036854775807)/\(-9223372036854775808<=d/\d<=9223372036854775807)/\(-9223372036854775808<=e/\e<=9223372036854775807):=by
 obtain ⟨ys,m,_,_,_,af,hf⟩:=DataW.trod_array Lo h;have g:∀j,j<5->∃n:Int,l[j]?=some (I4 n)/\-9223372036854775808<=n/\n<=9223372036854775807:=fun j g=>by
  have f:=hf j g;rw [ox,Mn,B4 A1]at f;have G:j<l.length:=by omega
  have e:(l.drop j).take 1=[l[j]]:=by rw [RE G];rfl
  rw [e]at f;obtain ⟨k,X,_,Z⟩:=DataW.trod_int Cp f;injection X with X _
  exact ⟨k,by rw [B4 G,X],bounds_i64 Z⟩
 obtain ⟨v0,v1,v2,v3,v4,rfl⟩:=lM hl;obtain ⟨a,ha,I⟩:=g 0 AW;obtain ⟨b,hb,J⟩:=g 1 AW;obtain ⟨c,hc,K⟩:=g 2 AW;obtain ⟨d,hd,O⟩:=g 3 AW;obtain ⟨e,he,U⟩:=g 4 AW;simp at ha hb hc hd he;subst ha hb hc hd he;exact ⟨a,b,c,d,e,V,I,J,K,O,U⟩
end Go.Proofs.YteaiajghbkenoaaGreatDoor
namespace Go.Proofs.YteaiajghbkenoaaGreatDoor
open Go.Proofs.Tryz
open Go Go.RowKit Gw
set_option maxRecDepth 100000
attribute [local irreducible] Gw.At Gw.Nx Gw.Ops
def NF(c:Chg):Prop:=(1<=c.k/\c.k<=9)/\(0<=c.t/\c.t<=2)
theorem nL(rs:List AU)(n m:Nat):NF (Qq rs n m):=by
 have g:=eR n (show 0<3 by decide);have h2:=eR (n/3) (show 0<9 by decide)
 refine ⟨⟨?_,?_⟩,?_,?_⟩
 · show(1:Int)<=((1+n/3%9:Nat):Int);omega
 · show((1+n/3%9:Nat):Int)<=9;omega
 · show(0:Int)<=((n%3:Nat):Int);omega
 · show((n%3:Nat):Int)<=2;omega
theorem U1(rs:List AU)(z:List Int):∀k,∀c∈GA rs z k,NF c
 |0,c,hc=>by simp [GA]at hc
 |k+1,c,hc=>by
  have g:=U1 rs z k;unfold GA Uy at hc;split at hc
  · exact g c hc
  · rw [BE,BE,BT]at hc
    rcases hc with(hc|rfl)|hc
    · exact g c (On hc)
    · exact nL _ _ _
    · exact g c (ID hc)
theorem Vj:∀(xs:List (List Int)) (L:List (List Chg)),(∀cs∈L,∀c∈cs,NF c)->∀cs∈xs.foldl Md L,∀c∈cs,NF c
 |[],_,h=>h
 |z::xs,L,h=>by
  rw [TO];refine Vj xs _ fun cs g=>?_;unfold Md at g;split at g
  · rcases BE.1 g with h1|h1
    · exact h cs h1
    · rw [BT.1 h1];exact U1 _ _ 3
  · exact h cs g
theorem rM(xs:List (List Int)):∀cs∈TL xs,∀c∈cs,NF c:=Vj xs [] fun cs h=>by simp at h
def QV(r:AU):Prop:=1<=r.k/\r.k<=9
theorem q8{rs:List AU}{c:Chg}(h:∀r∈rs,QV r)(hc:NF c):∀r∈EI rs c,QV r:=fun r g=>by
 unfold EI at g;rw [BE,BE]at g;rcases g with(g|g)|g
 · exact h r (On g)
 · obtain ⟨_,rfl⟩:=Lr.1 g;exact hc.1
 · exact h r (ID (ID g))
theorem SY:∀(cs:List Chg) (rs:List AU),(∀r∈rs,QV r)->(∀c∈cs,NF c)->∀r∈DN rs cs,QV r
 |[],_,h,_=>h
 |c::cs,rs,h,hc=>SY cs (EI rs c) (q8 h (hc c (Dd ..))) fun d g=>hc d (EV _ g)
theorem VB:∀(l:List BU) (rs:List AU),(∀r∈rs,QV r)->(∀x∈l,∀c∈x.cs,NF c)->∀r∈l.foldl (fun rs r=>DN rs r.cs) rs,QV r
 |[],_,h,_=>h
 |x::l,rs,h,hc=>VB l _ (SY x.cs rs h (hc x (Dd ..))) fun y g=>hc y (EV _ g)
theorem om{l:List BU}(h:∀x∈l,∀c∈x.cs,NF c):∀r∈Bd l,QV r:=VB l [] (fun r g=>by simp at g) h
theorem jR:∀(l:List Int) (a b:Int),l.Pairwise (·<·)->(∀x∈l,a<=x/\x<=b)->(l.length:Int)<=max (b -a+1) 0
 |[],_,_,_,_=>by simp;omega
 |x::l,a,b,hp,h=>by
  obtain ⟨m,h2⟩:=PC.1 hp;have G:=h x (Dd ..)
  have B:=jR l (x+1) b h2 fun y g=>⟨by have:=m y g;omega,(h y (EV _ g)).2⟩;rw [DH];omega
theorem vU{rs:List AU}(K:BP rs)(I:∀r∈rs,QV r)(t:Int):(rs.filter fun r=>decide (r.t=t)).length<=9:=by
 have m:((rs.filter fun r=>decide (r.t=t)).map (·.k)).Pairwise (·<·):=by
  rw [T7];refine List.Pairwise.imp_of_mem ?_ (List.Pairwise.filter _ K);intro a b B G g;have U:=HX (Ek.1 B).2
  have tb:=HX (Ek.1 G).2;rcases g with h|⟨_,h⟩
  · omega
  · exact h
 have h2:=jR _ 1 9 m fun x O=>by
  obtain ⟨r,J,rfl⟩:=Bk.1 O;exact I r (Ek.1 J).1
 rw [B2]at h2;omega
theorem Vu{α:Type}{f g:α->Bool}(h:∀x,f x=true->g x=true):∀l:List α,(l.filter f).length<=(l.filter g).length
 |[]=>CD _
 |x::l=>by
  have m:=Vu h l;rw [bj,bj];split
  · rename_i h1
    rw [AM (h x h1),DH,DH];omega
  · split
    · rw [DH];omega
    · exact m
structure zh(l:List BU):Prop where
 b:O3 l
 nine:∀a,a<=l.length->∀q,(CS (Bd (l.take a)) q).length<=9
theorem wS{l:List BU}(G:F6 l)(m:l.length<=20){xs:List (List Int)}(J:l.map BU.cs=TL xs):zh l:=by
 refine ⟨G.toB m,fun a K q=>?_⟩;have g:∀x∈l.take a,∀c∈x.cs,NF c:=fun x O c hc=>rM xs x.cs (by rw [<-J];exact DO (On O)) c hc
 have I:=vU (G.rows a K).1 (om g) q.tb;have h2:=(EO (Bd (l.take a)) q.tb q.cl.toNat q.lo q.hi).length_eq
 unfold CS;rw [h2];refine Mb ?_ I;refine Vu (fun r B=>?_) _;unfold inR at B;simp only [G1,Fi]at B⊢;exact B.1
theorem zh.rows{l:List BU}(h:zh l)(q:QM):∀b,b<=l.length->(Cj (Bd (l.take b)) q).rows.length<=18:=fun b g=>by
 have m:=mo (Bd (l.take b)) q;have h2:=h.nine b g q
 omega
theorem uY{zs g:List ByteArray}(B:zs.Pairwise fun x y=>x.data.toList<=y.data.toList)(h2:g.Pairwise fun x y=>x.data.toList<=y.data.toList)(O:zs.Nodup)(U:g.Nodup)(h:∀k,k∈zs↔k∈g):zs=g:=by
 have K:zs.Perm g:=(OR O U).2 h;refine K.eq_of_pairwise (fun a b _ _ G I=>?_) B h2;have J:a.data.toList=b.data.toList:=List.le_antisymm G I
 have m:a.data=b.data:=HC.1 J;cases a;cases b;simp only at m;rw [m]
noncomputable def Nj(c:CZ)(cs:List Chg)(p:Int)(k:ByteArray):Bool:=@decide (∃x∈c.its,x.key=k/\UH cs x/\x.base<p) (Classical.propDecidable _)
theorem P8{c:CZ}(B:(c.its.map ItM.key).Nodup){cs:List Chg}{p:Int}{x:ItM}(g:x∈c.its):Nj c cs p x.key=true↔UH cs x/\x.base<p:=by
 unfold Nj;rw [@decide_eq_true_eq _ (Classical.propDecidable _)];constructor
 · rintro ⟨y,G,m,h⟩
   rwa [FV B G g m]at h
 · intro h;exact ⟨x,g,rfl,h⟩
theorem sV{c d:CZ}(h:c.okb){p:Int}{cs:List Chg}{q2:Option Addr}{cap2:Nat}{zs m:List ByteArray}(G:GX c d p cs q2 cap2 zs)(I:m.Perm (c.its.map ItM.key))(U:m.Pairwise fun x y=>x.data.toList<=y.data.toList):zs=m.filter (Nj c cs p):=by
 have O:m.Nodup:=I.nodup_iff.2 h.its.keys;refine uY G.z3 (U.filter _) G.z2 (O.sublist SU) fun k=>?_;rw [G.z1,Ek];constructor
 · rintro ⟨x,g,rfl,B,h2⟩
   exact ⟨I.mem_iff.2 (DO g),(P8 h.its.keys g).2 ⟨B,h2⟩⟩
 · rintro ⟨B,h2⟩
   obtain ⟨x,g,rfl⟩:=Bk.1 (I.mem_iff.1 B);obtain ⟨J,K⟩:=(P8 h.its.keys g).1 h2;exact ⟨x,g,V,J,K⟩
structure nX(l:List BU)(P i:Nat)(B cap:Int)(c:CZ):Prop where
 law:Gh l P c
 len:c.its.length<=i
 next:c.next<=(i:Int)
 sz:∀e∈c.PL,e.sz<=B
 cap:c.z.cap=cap
 ns:c.ns=1
theorem nX.room{l:List BU}{P i:Nat}{B cap:Int}{c:CZ}(h:nX l P i B cap c)(m:0<=B):cap -(i:Int)*B<=c.z.fr:=by
 have g:=Ww h.law.ok.tookb h.sz;rw [h.cap]at g;have h2:(c.its.length:Int)*B<=(i:Int)*B:=Int.mul_le_mul_of_nonneg_right (by have:=h.len;omega) m
 omega
theorem nX.put{l:List BU}{P i:Nat}{B cap:Int}{c d:CZ}(h:nX l P i B cap c)(I:Gh l P d)(g:c.like d)(J:d.next<=c.next+1){q:QM}{tn:Int}{a n:Nat}{b:Bool}(m:ng l P c d q tn a n b)(O:1+(n:Int)<=B):nX l P (i+1) B cap d:=by
 have K:=h.len;have h2:=h.next
 refine ⟨I,?_,by push_cast;omega,fun e G=>?_,g.cap.trans h.cap,g.ns.trans h.ns⟩
 · rcases m with⟨_,rfl,_⟩|⟨_,_,_,⟨rfl,_⟩|⟨_,y,e,_⟩⟩
   · omega
   · omega
   · rw [e,B7,E7]
     have:=MD (fun x:ItM=>decide (x.key≠str (Cv q))) c.its;omega
 · rcases m with⟨_,rfl,_⟩|⟨_,_,h3,_⟩
   · exact h.sz e G
   · rcases h3 e G with h9|h9
     · exact h.sz e h9
     · omega
theorem ng.yes{l:List BU}{P:Nat}{c d:CZ}{q:QM}{tn:Int}{a n:Nat}{b:Bool}(m:ng l P c d q tn a n b)(h:P<=a):b=true:=by
 rcases m with⟨_,_,g⟩|⟨g,_⟩
 · exact absurd (VH h) g
 · exact g
theorem xR{M:List A9}{p:Option Addr}{cap:Nat}{ys:List QR}(h:Xu M (.slice p ys.length cap) ys){i:Nat}{z:QR}(hz:ys[i]?=some z):z.fits/\∃g off cur T zz,p=some ⟨g,off,none⟩/\(g,Obj.cells cur T zz)∈M/\off+i*5+5<=cur.size/\cur.extract (off+i*5) (off+i*5+5)=#[I4 z.a,I4 z.b,I4 z.c,I4 z.d,I4 z.e]:=by
 obtain ⟨G,m,e,_,B⟩:=h;injection e with e1 e2 e3
 subst e1;exact B i z hz
theorem X0(x y:CE):decide (x=y)=(decide (x.rows=y.rows)&&decide (x.val=y.val)&&decide (x.fnd=y.fnd)):=by
 obtain ⟨a,b,c⟩:=x;obtain ⟨B,G,c'⟩:=y;rw [Bool.eq_iff_iff];simp only [G1,CE.mk.injEq,Fi];exact ⟨fun⟨g,h2,m⟩=>⟨⟨g,h2⟩,m⟩,fun⟨⟨g,h2⟩,m⟩=>⟨g,h2,m⟩⟩
def zY(z:KR):List Value:=[I4 z.a.q.kd,I4 z.a.q.tb,I4 z.a.q.cl,I4 z.a.q.lo,I4 z.a.q.hi,I4 z.a.q.bq,I4 z.a.q.ot,.slice z.rp z.a.res.rows.length z.rc,I4 z.a.res.val,.bool z.a.res.fnd,I4 z.a.since,I4 z.a.until_,I4 z.a.base,.slice z.gp z.a.ranges.length z.gc,.slice z.cp z.a.recs.length z.cc]
theorem xU{cur:Array Value}{a n k m:Nat}{A:Array Value}(h:cur.extract a (a+n)=A)(g:k+m<=n):cur.extract (a+k) (a+k+m)=A.extract k (k+m):=by
 rw [<-h,Array.extract_extract,N3 A1,eK]
theorem zX{v:Value}{zs:List KR}{s:List A9}(h:Bb 15 55 v zs.length (zs.flatMap zY) s){i:Nat}{z:KR}(hz:zs[i]?=some z):∃g cap cur zz,v=I6 g zs.length cap/\s=[(g,.cells cur 55 zz)]/\i*15+15<=cur.size/\cur.extract (i*15) (i*15+15)=z.A31:=by
 obtain ⟨g,cap,cur,zz,m,h2,B,G⟩:=J7 h i (B9.1 hz).1;refine ⟨g,cap,cur,zz,m,h2,B,?_⟩;apply HC.1;rw [G];exact IG zY 15 (fun _=>rfl) zs i z hz
theorem Pg{zs:List ByteArray}{f:ByteArray->Bool}{i:Nat}{k:ByteArray}(B:zs[i]?=some k):(f k=true->(zs.filter f)[((zs.take i).filter f).length]?=some k)/\(f k=false->∀t,(zs.filter f)[((zs.take i).filter f).length]?=some t->t≠k):=by
 constructor
 · intro h
   obtain ⟨_,m,G⟩:=M0 (f:=f) B;rw [G,AM h,CN,OS (CD _),Tl];rfl
 · rintro h t I rfl
   have g:=(Ek.1 (DE I)).2;rw [h]at g;cases g
theorem Kn{zs:List ByteArray}{f:ByteArray->Bool}{i:Nat}{k:ByteArray}(g:zs[i]?=some k):((zs.take (i+1)).filter f).length=((zs.take i).filter f).length+(if f k=true then 1 else 0):=by
 rw [(M0 (f:=f) g).1,B7];split<;>rfl
def UA(c:CZ):Prop:=∀x∈c.its,x.base=0
theorem UA.put{l:List BU}{P:Nat}{c d:CZ}(h:UA c){q:QM}{tn:Int}{n:Nat}{b:Bool}(m:ng l P c d q tn 0 n b):UA d:=fun x g=>by
 rcases m with⟨_,rfl,_⟩|⟨_,_,_,⟨rfl,_⟩|⟨_,y,e,_,e2,_⟩⟩
 · exact h x g
 · exact h x g
 · rw [e]at g
   rcases BE.1 g with g|g
   · exact h x (Ek.1 g).1
   · rw [BT.1 g,e2];rfl
theorem UA.apply{c d:CZ}(h:UA c){p:Int}{cs:List Chg}{q2:Option Addr}{cap2:Nat}{zs:List ByteArray}(g:GX c d p cs q2 cap2 zs):UA d:=fun y B=>by
 obtain ⟨_,x,m,hc,_⟩:=g.i1 y B;rw [(Gx hc).2.2.2.2.1];exact h x m
theorem oG{l:List BU}{P:Nat}{c d:CZ}(hL:Gh l P c)(Z:Gh l (P+1) d){r:BU}{q2:Option Addr}{cap2:Nat}{zs:List ByteArray}(hA:GX c d r.p r.cs q2 cap2 zs)(hz:UA c){x:ItM}(X:x∈c.its)(hP:r.p<=64):BZ prog 17 #[.pointer (some ⟨d.cp,0,none⟩),.string x.key] [d.mem] (fun w H'=>∃s,((∃z:KR,z.ok s/\(Nj c r.cs r.p x.key=false->z.a.res=x.res/\z.a.since=x.since)/\(Nj c r.cs r.p x.key=true->z.a.since=r.p)/\w= .tuple #[.agg z.A31,.bool true])\/(Nj c r.cs r.p x.key=true/\w= .tuple #[.agg #[I4 0,I4 0,I4 0,I4 0,I4 0,I4 0,I4 0,.slice none 0 0,I4 0,.bool false,I4 0,I4 0,I4 0,.slice none 0 0,.slice none 0 0],.bool false]))/\H'=[d.mem,s]):=by
 have U:=hL.ok.its.keys;by_cases G:∃y∈d.its,y.key=x.key
 · obtain ⟨y,G,I⟩:=G
   obtain ⟨_,x2,m,hc,g⟩:=hA.i1 y G;have e:x2=x:=FV U m X ((JH hc).symm.trans I)
   subst e;have hb:y.base=0:=(Gx hc).2.2.2.2.1.trans (hz x2 m)
   have hg:=Oy Z.ok G (by rw [hb,Z.pos];omega);rw [I]at hg;refine hg.mono ?_;rintro w H' ⟨z,l9,s,J,_,af,rfl,rfl⟩;refine ⟨s,.inl ⟨z,af,fun O=>?_,fun O=>?_,V⟩,V⟩
   · rcases g with⟨_,e1,e2⟩|⟨h8,_⟩
     · rw [J];exact ⟨e1,e2⟩
     · rw [(P8 U m).2 h8]at O;cases O
   · rcases g with⟨h8,_⟩|⟨_,_,e2⟩
     · exact absurd ((P8 U m).1 O) h8
     · rw [J];exact e2
 · refine EY (wh Z.ok (K:=x.key) (fun y B he=>G ⟨y,B,he⟩)) [] B0 ?_
   rintro w H' ⟨rfl,rfl⟩;refine ⟨_,⟨[],.inr ⟨?_,V⟩,V⟩,by simp⟩;cases hh:Nj c r.cs r.p x.key with
   |true=>rfl
   |false=>
    exfalso;obtain ⟨y,B,hc⟩:=hA.i2 x X (by rw [hz x X];omega) fun h1 h2=>by
     rw [(P8 U X).2 ⟨h1,h2⟩]at hh;cases hh
    exact G ⟨y,B,JH hc⟩
theorem wC{M:List A9}{va vb:Value}{a b:List AU}(ha:De M va a)(hb:De M vb b):BI prog 65 #[va,vb] [M] (.bool (decide (a=b))):=by
 have j5:=mL;obtain ⟨pa,ca,rfl,ic,Z⟩:=ha;obtain ⟨pb,cb,rfl,j3,af⟩:=hb;refine Se func65 ntmps65 [0,1] ?_;intro u R;refine A0<|A3 Y<|Zq<|A0<|Zm Y<|Zv (Aa B6 Y)<|Zm Y<|Zv (Aa B6 Y)<|Zv (FR Y Y)<|A4<|Au Y (fun O=>?_) (fun O=>?_)
 ·
  refine A0<|A3 Y<|AJ<|Zt<|AP rfl results65 Y (by exact ⟨aR (fun e=>O (by rw [e])),rfl⟩)
 have ax:a.length=b.length:=by omega
 refine AC<|Zx<|Zq<|A0<|A3 Y<|AQ<|Zb [5,0,1] ?_;refine BB (e0:=[(5,_)]) (fun m e H=>∃(i:Nat),m=a.length -i/\(i<=a.length/\∀j,j<i->a[j]?=b[j]?)/\e=[(5,I4 (i:Int))]/\H=[]) (by exact ⟨0,V,⟨C0 _,by intro j hj;omega⟩,V,V⟩) Wp ?_;rintro _ _ _ ⟨i,rfl,⟨hi,g⟩,rfl,rfl⟩;refine Zq<|A0<|Zm Y<|Zm Y<|Zv (Aa B6 Y)<|Zv (Av Y Y)<|A4<|Au Y (fun bn=>?_) (fun bn=>?_)
 ·
  obtain ⟨x,B⟩:∃x,a[i]?=some x:=⟨_,B4 A1⟩;obtain ⟨y,hy⟩:∃y,b[i]?=some y:=⟨_,B4 A1⟩;obtain ⟨g1,gy,G,T1,d9,rfl,cu,gm,J⟩:=Z i x B;obtain ⟨g2,gB,I,T2,ek,rfl,cO,gq,K⟩:=af i y hy;refine AC<|Zx<|Zq<|AQ<|Zq<|Az (n:=9) (0::0::3::7::0::0::48::112::255::[]) 0 A6 A6 V<|A2 0 V (AO Y)<|A2 1 V (AO Y)<|A2 2 V (Ac B6 An Y Y A1)<|D8 (b:=g1) (x:= .cells G T1 d9) (D':=15) 3 V rfl V (by simp [cu]) (AA (cs:=x.A29) CI An Y A1 J) ?_;refine A2 4 V (AO Y)<|A2 5 V (AO Y)<|A2 6 V (Ac B6 An Y Y A1)<|D8 (b:=g2) (x:= .cells I T2 ek) (D':=255) 7 V rfl V (by simp [cO]) (AA (cs:=y.A29) CI An Y A1 K) ?_;refine A2 8 V (kX A6 FG A6 AW AW AW Cp Hj AE A5 HE DG Y Y)<|Ah<|Zn [0,1,5,25] ?_;refine Zx<|Au Y (fun U=>?_) (fun U=>?_)
  ·
   refine A0<|A3 Y<|AJ<|Ae<|Zt<|Zt<|Ae<|Zt<|AP rfl results65 Y (by exact ⟨aR (fun e=>by rw [e,hy]at B;injection B with B;exact U (ow.2 B.symm)),rfl⟩)
  have X:x=y:=ow.1 (HT.1 U);refine AC<|A8<|Zx<|Zg<|Zm Y<|Ya (n:=1) Y Y<|AG Y<|Zn [5,0,1] ?_;refine Ab (e':=[(5,_)]) (by exact ⟨i+1,rfl,⟨by omega,fun j hj=>by rcases Dg j i with h9|h9;exact g j h9;obtain rfl:j=i:=A1;rw [B,hy];exact congrArg some X⟩,rfl,rfl⟩)
 refine Ay<|Zt<|Zt<|AR<|Zx<|A0<|A3 Y<|AJ<|AP V results65 Y (by exact ⟨u6 (wT ax (fun j hj=>g j A1)),V⟩)
theorem iU{A B:List A9}{G I:Value}{x y:CE}(g:De A G x.rows)(m:De B I y.rows):BI prog 20 #[.agg #[G,I4 x.val,.bool x.fnd],.agg #[I,I4 y.val,.bool y.fnd]] [A,B] (.bool (decide (x=y))):=by
 obtain ⟨U,J,rfl,_⟩:=id g;obtain ⟨X,K,rfl,_⟩:=id m;refine Se func20 ntmps20 [0,1] ?_;intro u R;refine A0<|Ze (Bx #[.slice U x.rows.length J,I4 x.val,.bool x.fnd])<|AD fun Z=>Ze (Bx #[.slice X y.rows.length K,I4 y.val,.bool y.fnd])<|AD fun b2=>A3 Y<|A0<|Zh 0 C7 V rfl C6 Y<|Zl FA Y ?_;refine Zh 0 C7 V rfl C6 Y<|Zl FA Y ?_;refine Xr [_,_] Y call65 Y V (W9 (wC (g.mono (fun c hc=>DP B hc)) (m.mono (fun c hc=>Fm A hc)))) ?_;refine Zm Y<|Am (t:=10) Y V (fun O=>?_) (fun O=>?_)
 ·
  refine Yf 1 C7 V rfl A5 Y<|Yl AE Y ?_;refine Yf 1 C7 V rfl A5 Y<|Yl AE Y ?_;refine Yg (CP Y Y)<|Zv (AV Y Y)<|Zm Y<|Am (t:=17) Y V (fun h2=>?_) (fun h2=>?_)
  ·
   refine Yf 2 C7 V rfl CH Y<|Yl E0 Y ?_;refine Yf 2 C7 V rfl CH Y<|Yl E0 Y ?_;refine Yg (eG NO Y Y)<|Zv (AV Y Y)<|AG Y<|Zn [4] ?_;refine Zx<|AJ<|AP rfl results20 Y (by exact ⟨by rw [X0];simp [*],rfl⟩)
  repeat refine A7 Y rfl ?_
  refine Zv (AL Y Y)<|AG Y<|Zn [4] ?_;refine Zx<|AJ<|AP rfl results20 Y (by exact ⟨by rw [X0];simp [*],rfl⟩)
 repeat first|refine A7 Y rfl ?_|refine Zv (AL Y Y)<|Zm Y ?_
 refine Zv (AL Y Y)<|AG Y<|Zn [4] ?_;refine Zx<|AJ<|AP rfl results20 Y (by exact ⟨by rw [X0];simp [*],rfl⟩)
theorem ui{c:CZ}{B:List KR}{zs:List ByteArray}{i:Nat}{z:KR}{x:ItM}(h:∀(j:Nat) (z:KR) (k:ByteArray),B[j]?=some z->zs[j]?=some k->∃x∈c.its,x.key=k/\z.a.res=x.res/\z.a.since=x.since)(K:B.length=i)(I:zs[i]?=some x.key)(J:x∈c.its)(e1:z.a.res=x.res)(e2:z.a.since=x.since):∀(j:Nat) (G:KR) (k:ByteArray),(B++[z])[j]?=some G->zs[j]?=some k->∃x∈c.its,x.key=k/\G.a.res=x.res/\G.a.since=x.since:=fun j G k m g=>by
 rcases Dg j B.length with h1|h1
 · rw [Wr h1]at m;exact h j G k m g
 · rw [OS h1]at m
   have h2:j -B.length=0:=by
    have:=(B9.1 m).1;simp at this;omega
   rw [h2]at m;injection m with m
   subst m;obtain rfl:j=i:=by omega
   rw [I]at g;injection g with g
   exact ⟨x,J,g,e1,e2⟩
theorem iF{l:List BU}{P:Nat}{c d:CZ}(I:Gh l P c)(B:Gh l (P+1) d){r:BU}{q2:Option Addr}{cap2:Nat}{zs:List ByteArray}(G:GX c d r.p r.cs q2 cap2 zs)(hz:UA c){x:ItM}(K:x∈c.its)(J:r.p<=64)(m:Nj c r.cs r.p x.key=false):BZ prog 17 #[.pointer (some ⟨d.cp,0,none⟩),.string x.key] [d.mem] (fun w H'=>∃s z,KR.ok s z/\(z.a.res=x.res/\z.a.since=x.since)/\w= .tuple #[.agg z.A31,.bool true]/\H'=[d.mem,s]):=(oG I B G hz K J).mono (by
 rintro w H' ⟨s,⟨z,g,h2,_,rfl⟩|⟨g,_⟩,rfl⟩
 · exact ⟨s,z,g,h2 m,rfl,rfl⟩
 · rw [m]at g;cases g)
set_option maxHeartbeats 4000000 in
theorem Y3{Mx:List A9}{vx:Value}{xs:List (List Int)}(hX:WK Mx vx xs){vy:Value}{ys:List QR}(hY:Xu Mx vy ys)(aw:Int)(sM:-9223372036854775808<=aw)(sO:aw<=9223372036854775807)(Tg:TypeId)(zg:Nat×Nat)(Tp:TypeId)(zp:Nat×Nat):BI prog 4 #[vx,vy,I4 aw] [[(4,.cells (Eo.map Ct).toArray Tg zg)],[(1,.cells (Lib.pow10Tab.map fun z=>Value.int .u64 z).toArray Tp zp)],Mx] (.bool true):=by
 have hml:=mL;obtain ⟨px,capx,rfl,⟨hxl1,hxl2⟩,hgx⟩:=id hX;have MB:=oP hX (min xs.length 16) (Nat.min_le_left _ _)
 have zl:(xs.take (min xs.length 16)).length<=16:=by rw [C1];omega
 obtain ⟨py,capy,rfl,⟨hyl1,hyl2⟩,hgy⟩:=id hY;refine Se func4 ntmps4 [0,1,2] ?_;intro u R;refine A0<|A3 Y<|A0<|Xr [] Y call8 Y V (yl Tg zg Tp zp) ?_;refine A3 Y<|A0<|Zm Y<|Zm Y<|Zv (Aa cX Y)<|Zv (Q8 (n:=16) Y Y)<|BX (Bt cX sizeOf81 Y Y A1)<|Zc [_] Y call9 Y V (wB MB A1) ?_;rintro _ _ ⟨_,⟨l,sl,p9,hll,P6,j3,rfl⟩,rfl⟩;have hl16:l.length<=16:=by omega
 have hK:=wS p9 A1 P6;have hB:=hK.b
 obtain ⟨pl,cl,rfl,hlc,MP⟩:=id j3;refine A3 Y<|A0<|Ze (Aj (vs:=[_]) (cs:=[_]) D0 A5 H3 Y V rfl V rfl V)<|AD fun gs=>Zc [_,_,_] Y call13 Y V (oS (sh:=[50]) (YN gs (I4 50)) 0 500 AW AW AW AW AW) ?_;rintro _ _ ⟨_,⟨c0,rfl,MJ,⟨d9,sj,hw0⟩,Ps,zf,za,pz,rfl⟩,rfl⟩;have L0:Gh l 0 c0:=⟨MJ,Ps,C0 _,by rw [hw0];exact Ra l 0,fun x G=>by rw [d9]at G;cases G⟩
 refine Zm Y<|Zd Y V<|Zd Y V<|Za Y<|AG Y<|Zn [1,2,7,8,9,10] ?_;refine Zx<|Zq<|A0<|Zm Y<|Zv (FR (n:=0) Y Y)<|Zm Y<|Am (t:=39) Y V (fun k1=>?_) (fun k1=>?_)
 ·
  exact absurd V k1
 refine Zf Y Y<|Yg (Aa GC Y)<|Yg (CR (n:=0) Y Y)<|Zv (AL Y Y)<|A4<|Au Y (fun P5=>?_) (fun P5=>?_)
 ·
  refine A0<|Zm Y<|Zm Y<|Ag (t:=45) Y V (fun k0=>?_) (fun k0=>?_)
  ·
   refine Zf Y Y<|Yg (CR (n:=0) Y Y)<|Zv (AV Y Y)<|AG Y<|Zn [6] ?_;refine Zx<|AJ<|Zt<|AP V results4 Y (by exact ⟨V,V⟩)
  cases k0
 refine AC<|Zx<|Zb [1,2,7,8,9] ?_;refine DK (e0:=[(1,_)]) (H0:=[c0.mem]) (fun e H=>∃(c:CZ),(Gh l 0 c/\UA c/\c.cp=c0.cp)/\e=[]/\H=[c.mem]) Wp ?hx_2 ?hy_2
 case hx_2=>
  refine A0<|A3 Y<|AQ<|Zb [11,1,2,7,8,9] ?_;refine BB (e0:=[(11,_)]) (fun m e H=>∃(i:Nat) (c:CZ),m=ys.length -i/\((i<=ys.length/\i<=10)/\nX l 0 i 19 500 c/\UA c/\c.cp=c0.cp)/\e=[(11,I4 (i:Int))]/\H=[c.mem]) (by exact ⟨0,c0,rfl,⟨⟨C0 _,C0 _⟩,⟨L0,by rw [d9];exact C0 _,by rw [zf];exact Z1 _,(fun e he=>by rw [sj]at he;cases he),pz,za⟩,(fun x G=>by rw [d9]at G;cases G),rfl⟩,rfl,rfl⟩) Wp ?_;rintro _ _ _ ⟨i,c,rfl,⟨⟨hi,hi12⟩,hT,hZ,J⟩,rfl,rfl⟩;refine Zq<|A0<|Zm Y<|Zm Y<|Zv (Aa mB Y)<|Zv (Av Y Y)<|Zm Y<|Am (t:=53) Y V (fun h1=>?_) (fun h1=>?_)
  ·
   refine Zf Y Y<|Yg (Av (n:=10) Y Y)<|Zv (AV Y Y)<|A4<|Au Y (fun h2=>?_) (fun h2=>?_)
   ·
    obtain ⟨X,hz5⟩:∃z,ys[i]?=some z:=⟨_,B4 A1⟩;obtain ⟨⟨⟨f1,f2⟩,⟨f3,f4⟩,⟨f5,f6⟩,⟨f7,f8⟩,f9,Hf⟩,gy,offy,cury,Ty,zy,Qe,Pn,hszy,vw⟩:=xR hY hz5;rw [Qe,<-J];refine AC<|Zx<|Zq<|AQ<|Zg<|Zm Y<|Zm Y<|Zm Y<|Zm Y<|BX (Ac mB sizeOf23 Y Y A1)<|CQ (Gs Wo (Pn)) (AA (cs:=#[I4 X.a,I4 X.b,I4 X.c,I4 X.d,I4 X.e]) isAgg23 sizeOf23 Y A1 (by exact vw)) V rfl ?_;refine Xr [_] Y call10 Y V (pW X.a X.b X.c X.d X.e f1 f2 f3 f4 f5 f6 f7 f8 f9 Hf) ?_;refine Zc [_,_,_,_] Y call15 Y V (XW j3 p9 A1 (0) (C0 _) (X.ok) (hB.scan (0) (C0 _) _) 0 Tg zg) ?_;rintro _ _ ⟨_,⟨E1,pg1,cg1,sw,rfl,rfl⟩,rfl⟩;have qj:1+((18:Nat):Int)<=c.z.fr:=by have:=hT.room AW;omega
    refine Zc [_,_] Y call14 Y rfl (zC hB hT.law X.ok (k:=0) (by rw [hT.ns];decide) AW (a:=0) (C0 _) sw (by have:=hT.next;omega) (by have:=hT.len;omega) (n:=18) (hK.rows _) qj Tp zp) ?_;rintro _ _ ⟨_,⟨b,d,rfl,LD,wz,B,hP,rfl⟩,rfl⟩;have HZ:=hT.put LD wz B.2 hP AW
    rw [<-wz.cp];refine Z0<|Zn [1,2,7,8,9,11] ?_;refine A8<|Zx<|Zg<|Zm Y<|Ya (n:=1) Y Y<|AG Y<|Zn [11,1,2,7,8,9] ?_;refine Ab (e':=[(11,_)]) (by exact ⟨i+1,d,V,⟨⟨by omega,by omega⟩,HZ,hZ.put hP,by rfl⟩,V,V⟩)
   refine Ay<|Zt<|Zt<|AR<|Zn [2,7,8,9] ?_;refine BN (e':=[]) (by exact ⟨c,⟨hT.law,hZ,J⟩,V,V⟩)
  refine A7 Y V<|A7 Y V<|Zv (AL Y Y)<|A4<|Ch Y<|Ay<|Zt<|Zt<|AR<|Zn [2,7,8,9] ?_;refine BN (e':=[]) (by exact ⟨c,⟨hT.law,hZ,J⟩,V,V⟩)
 rintro _ _ ⟨c1,⟨L1,MC,ve⟩,rfl,rfl⟩;refine A0<|Zm Y<|Zm Y<|Zv (Aa GC Y)<|Xr [_,_] Y T5 Y V (Ib aw l.length A1 A1 sM sO) ?_;have Qd:=EF aw l.length A1
 refine A3 Y<|Zq<|Zq ?_;obtain ⟨a,ME⟩:∃a,a=CG aw l.length:=⟨_,rfl⟩;rw [<-ME]at Qd⊢;refine Zg<|A3 Y<|AQ<|Zb [12,2,7,8,9] ?_;refine BB (e0:=[(12,_)]) (fun m e H=>∃(j:Nat) (c:CZ),m=a -j/\(j<=a/\Gh l j c/\UA c/\c.cp=c0.cp)/\e=[(12,I4 (j:Int))]/\H=[c.mem]) (by exact ⟨0,c1,V,⟨C0 _,L1,MC,ve⟩,V,V⟩) Wp ?_;rintro _ _ _ ⟨j,c,rfl,⟨hj,I,hZ,J⟩,rfl,rfl⟩;refine Zq<|A0<|Zm Y<|Zm Y<|Zv (Av Y Y)<|A4<|Au Y (fun P7=>?_) (fun P7=>?_)
 ·
  obtain ⟨r,hr⟩:∃r,l[j]?=some r:=⟨_,B4 A1⟩;obtain ⟨bn,gm,FT,qz,Tm,zm,qb,qa,zi,cu⟩:=dM j3 hr;rw [qb,<-J];refine AC<|Zx<|Zq<|AQ<|Zg<|Zm Y<|Zm Y<|Zm Y<|BX (Ac GC F2 Y Y A1)<|CQ (Gs Wo (qa)) (AA (cs:=#[I4 r.p,.slice r.q r.cs.length r.cap]) HW F2 Y A1 (by exact cu)) V rfl ?_;refine Zc [_,_] Y call16 Y V (XI hB I hr bn) ?_;rintro _ _ ⟨_,⟨d,q2,cap2,ax,tv,sT,rfl,LD,hA,j5,rfl⟩,rfl⟩;rw [<-hA.cp];refine Z0<|A8<|Zx<|Zg<|Zm Y<|Ya (n:=1) Y Y<|AG Y<|Zn [12,2,7,8,9] ?_;refine Ab (e':=[(12,_)]) (by exact ⟨j+1,d,V,⟨by omega,LD,hZ.apply hA,by rfl⟩,V,V⟩)
 have MS:j=a:=by omega
 rw [MS]at I;refine Ay<|Zt<|Zt<|AR<|Zx<|Zq ?_;rw [<-J];refine Zg<|Zm Y<|Zc [_] Y call19 Y V (yJ I.ok.tookb) ?_;rintro _ _ ⟨_,⟨zs,sk,l5,hzs,l8,rfl⟩,rfl⟩;have hzl:=l5.length_eq
 rw [B2]at hzl;have hz500:=I.ok.its.len
 obtain ⟨pk,ck,rfl⟩:=l8.form;simp only [B2];rw [B2]at l8;refine A3 Y<|A0<|A3 Y<|Zq<|A0<|A3 Y<|AQ<|BV<|BV<|Zb [14,15,2,7,8,9,13] ?_;refine BB (e0:=[(14,_),(15,_)]) (fun m e H=>∃(i:Nat) (an:List KR) (vb:Value) (sB MM:List A9),m=zs.length -i/\((i<=zs.length/\an.length=i)/\Bb 15 55 vb an.length (an.flatMap zY) sB/\(∀z∈an,z.ok MM)/\∀(j:Nat) (z:KR) (k:ByteArray),an[j]?=some z->zs[j]?=some k->∃x∈c.its,x.key=k/\z.a.res=x.res/\z.a.since=x.since)/\e=[(14,vb),(15,I4 (i:Int))]/\H=[sB,MM]) (by exact ⟨0,[],.slice none 0 0,[],[],V,⟨⟨C0 _,V⟩,Bf 15 _,(fun z hz=>by simp at hz),fun j z k hj=>by simp at hj⟩,V,V⟩) Wp ?_;rintro _ _ _ ⟨i,an,vb,sB,MM,rfl,⟨⟨hi,sJ⟩,hV,zu,vz⟩,rfl,rfl⟩;obtain ⟨vp,vc,rfl⟩:=hV.form;refine Zq<|A0<|Zm Y<|Zm Y<|Zv (Aa Cd Y)<|Zv (Av Y Y)<|A4<|Au Y (fun y5=>?_) (fun y5=>?_)
 ·
  obtain ⟨k9,g⟩:∃k,zs[i]?=some k:=⟨_,B4 A1⟩;obtain ⟨x,hx,rfl⟩:=Bk.1 (l5.mem_iff.1 (DE g));obtain ⟨gk,qx,af,zk,qo,rfl,T9,q9⟩:=OY l8 (n:=zs.length) (by rw [B2]) A1;injection qo with hv1 hv2 hv3
  subst hv1 hv3;have K:af[i]?=some (.string x.key):=by rw [q9 i A1,DM,g];rfl
  refine AC<|Zx<|Zq<|AQ<|A0<|Zm Y<|Zm Y<|Zm Y<|BX (BQ Cd F1 Y Y (by first|omega|decide|exact CD _|(simp;done)|(simp;omega)))<|Zl HB Y (hv:=by exact K) ?_;refine Zc [_,_] Y call17 Y rfl (Oy I.ok hx (by rw [hZ x hx,I.pos];omega)) ?_;rintro _ _ ⟨_,⟨z,l9,s9,zq,hpc,O,rfl,rfl⟩,rfl⟩;refine Zm Y<|Zd Y V<|Zd Y V<|Ze (Al HU #[_,_,_,_,_,_,_,_,_,_,_,_,_,_,_])<|AD fun ba=>Xe (Xw H4 z.A31) ?_;refine AG Y<|Zn [2,7,8,9,13,14,15,16,17] ?_;refine Zx<|Zq<|A0<|Zm Y<|Zv (Bo Y)<|A4<|AX Y (fun k2=>by cases k2)<|fun k2=>AC<|Zx<|Zg<|Zm Y<|Zo Wh (AA (cs:=z.A31) cJ H4 Y (by exact CD _) (by exact BM V)) ?_;refine Ze (Aj (vs:=[_]) (cs:=[_,_,_,_,_,_,_,_,_,_,_,_,_,_,_]) er H4 HU Y V rfl V rfl V)<|AD fun gb=>Ze (BR (by_:=168) (sz:=15) er (V:Tryz.prog.info? 55=some Tryz.t55) V rfl V rfl Y (hV) Y (DC 15 gb 1 1 55 (0,0) [I4 z.a.q.kd,I4 z.a.q.tb,I4 z.a.q.cl,I4 z.a.q.lo,I4 z.a.q.hi,I4 z.a.q.bq,I4 z.a.q.ot,.slice z.rp z.a.res.rows.length z.rc,I4 z.a.res.val,.bool z.a.res.fnd,I4 z.a.since,I4 z.a.until_,I4 z.a.base,.slice z.gp z.a.ranges.length z.gc,.slice z.cp z.a.recs.length z.cc] V) Wo Wo Fl A1 A1) ?_;rintro _ _ ⟨sa9,pg,rfl⟩;obtain ⟨ga9,ca9,rfl⟩:=pg.form;refine AG Y<|A8<|Zx<|CK (s1:=s9) (s2:=MM) Wo Wo ?_;refine Zg<|Zm Y<|Ya (n:=1) Y Y<|AG Y<|Zn [14,15,2,7,8,9,13] ?_;refine Ab (e':=[(14,_),(15,_)]) (by
   exact ⟨i+1,an++[z],_,sa9,s9++MM,rfl,⟨⟨by omega,by rw [B7,sJ];rfl⟩,BS pg (by rw [B7];rfl) (by rw [N1];rfl),(fun y hy=>by
    rcases BE.1 hy with hy|hy
    · exact (zu y hy).mono fun q hq=>Fm _ hq
    · rw [BT.1 hy];exact O.mono fun q hq=>DP _ hq),ui vz sJ g hx (by rw [zq]) (by rw [zq])⟩,rfl,rfl⟩)
 have eiz:i=zs.length:=by omega
 refine Ay<|Zt<|Zt<|AR<|Zx<|Zq ?_;obtain ⟨r,hr⟩:∃r,l[a]?=some r:=⟨_,B4 A1⟩;obtain ⟨bn,gm,FT,qz,Tm,zm,qb,qa,zi,cu⟩:=dM j3 hr;rw [qb];refine Zg<|Zm Y<|Zm Y<|Zm Y<|BX (Ac GC F2 Y Y A1)<|CQ (Gs Wo (qa)) (AA (cs:=#[I4 r.p,.slice r.q r.cs.length r.cap]) HW F2 Y A1 (by exact cu)) V rfl ?_;refine Zc [_,_] Y call16 Y V (XI hB I hr bn) ?_;rintro _ _ ⟨_,⟨d,q2,cap2,ax,tv,sT,rfl,LD,hA,j5,rfl⟩,rfl⟩;have cO:=sV I.ok.tookb hA l5 hzs
 rw [<-hA.cp];have Rl:=(I.next hB hr).2
 rw [I.pos]at Rl;have MP:ax.length<=500:=by rw [cO];exact Mb (MD _ _) A1
 obtain ⟨tp,tc,rfl⟩:=j5.form;simp only [B2];rw [B2]at j5;refine Zm Y<|Zd Y V<|Zd Y V<|Za Y<|AG Y<|Zn [2,7,9,13,14,18,19] ?_;refine Zx<|Zq<|A0<|Zm Y<|Zv (FR (n:=0) Y Y)<|A4<|Au Y (fun k3=>?_) (fun k3=>?_)
 ·
  exact absurd V k3
 refine AC<|Zx<|A0<|A3 Y<|Zq<|A0<|A3 Y<|AQ<|Zb [20,21,2,7,9,13,14,18] ?_;refine BB (e0:=[(20,_),(21,_)]) (fun m e H=>∃(i U:Nat),m=zs.length -i/\(i<=zs.length/\U=((zs.take i).filter (Nj c r.cs r.p)).length)/\e=[(20,I4 (U:Int)),(21,I4 (i:Int))]/\H=[]) (by exact ⟨0,0,rfl,⟨C0 _,by rw [Hx];rfl⟩,rfl,rfl⟩) Wp ?_;rintro _ _ _ ⟨i,U,rfl,⟨hi9,B⟩,rfl,rfl⟩;refine Zq<|A0<|Zm Y<|Zm Y<|Zv (Aa Cd Y)<|Zv (Av Y Y)<|A4<|Au Y (fun y9=>?_) (fun y9=>?_)
 ·
  obtain ⟨k9,g⟩:∃k,zs[i]?=some k:=⟨_,B4 A1⟩;obtain ⟨x,hx,rfl⟩:=Bk.1 (l5.mem_iff.1 (DE g));obtain ⟨gk,qx,af,zk,qo,rfl,T9,q9⟩:=OY l8 (n:=zs.length) (by rw [B2]) A1;injection qo with hv1 hv2 hv3
  subst hv1 hv3;have K:af[i]?=some (.string x.key):=by rw [q9 i A1,DM,g];rfl
  have hnl:U<=500:=by rw [B];exact Mb (MD _ _) (by rw [C1];omega)
  obtain ⟨zb,qw⟩:∃z,an[i]?=some z:=⟨_,B4 A1⟩;obtain ⟨gB,capB,Z,zzB,Ta,rfl,hszB,p8⟩:=zX hV qw;injection Ta with hB1 hB2 hB3
  subst hB1 hB3;have o9:Z.extract (i*15+7) (i*15+7+3)=#[.slice zb.rp zb.a.res.rows.length zb.rc,I4 zb.a.res.val,.bool zb.a.res.fnd]:=(xU (k:=7) (m:=3) p8 AW).trans (by apply HC.1;rfl)
  have o8:Z[i*15+10]?=some (I4 zb.a.since):=by
   have h0:(Z.extract (i*15) (i*15+15))[10]?=some (I4 zb.a.since):=by rw [p8];rfl
   rw [al]at h0;split at h0
   · exact h0
   · cases h0
  obtain ⟨x9,G,zl,gq,ic⟩:=vz i zb x.key qw g;have Gw:x9=x:=FV I.ok.its.keys G hx zl
  rw [Gw]at gq ic;have pq:=zu zb (DE qw)
  refine AC<|Zx<|Zq<|AQ<|Zq<|Az (n:=16) (0::0::2::7::15::31::31::127::255::31::31::1567::3615::8191::16383::32767::[]) 0 A6 A6 V<|A2 0 V (AO Y)<|A2 1 V (AO Y)<|A2 2 V (Aa Cd Y)<|A2 3 V (Av Y Y)<|A2 4 V (AO Y)<|CW (t:=127) Y (fun h1=>?_) (fun h1=>?_)
  ·
   rw [CM h1];obtain ⟨t9,ql⟩:∃t,ax[U]?=some t:=⟨_,B4 A1⟩;obtain ⟨gt,capt,r9,zt,Y2,rfl,hst,MK⟩:=OY j5 (n:=ax.length) (by rw [B2]) A1;injection Y2 with ht1 ht2 ht3
   subst ht1 ht3;have vo:r9[U]?=some (.string t9):=by rw [MK U A1,DM,ql];rfl
   refine AH 5 rfl (AO Y)<|AH 6 rfl (AO Y)<|AH 7 rfl (BQ Cd F1 Y Y (by first|omega|decide|exact CD _|(simp;done)|(simp;omega)))<|DA 8 rfl Wh (BO HB Y (by exact vo)) ?_;refine AH 9 rfl (AO Y)<|AH 10 rfl (AO Y)<|AH 11 rfl (BQ Cd F1 Y Y (by first|omega|decide|exact CD _|(simp;done)|(simp;omega)))<|DA 12 rfl Wh (BO HB Y (by exact K)) ?_;refine AH 13 V (Va Y Y)<|A2 14 V (AV Y Y)<|A2 15 V (Aw Y)<|Ah<|Zn [2,7,9,13,14,18,20,21,22] ?_;refine Zx<|Zq<|A0<|Zm Y<|A4<|Au Y (fun h2=>?_) (fun h2=>?_)
   ·
    have hf:Nj c r.cs r.p x.key=true:=by
     cases hh:Nj c r.cs r.p x.key with
     |true=>rfl
     |false=>exact absurd h2 ((Pg g).2 hh t9 (by rw [<-cO,<-B];exact ql))
    refine Zg<|Zm Y<|Ya (n:=1) Y Y<|A3 Y<|A0<|Zm Y<|Zm Y<|Zm Y<|BX (BQ Cd F1 Y Y (by first|omega|decide|exact CD _|(simp;done)|(simp;omega)))<|Zl HB Y (hv:=by exact K) ?_;refine Zc [_,_] Y call17 Y V (oG I LD hA hZ hx A1) ?_;rintro _ _ ⟨_,⟨s9,wo,rfl⟩,rfl⟩;rcases wo with⟨z,O,kv,ek,rfl⟩|⟨hf2,rfl⟩
    ·
     refine Zm Y<|Zd Y V<|Zd Y V<|Ze (Al HU #[_,_,_,_,_,_,_,_,_,_,_,_,_,_,_])<|AD fun bd=>Xe (Xw H4 z.A31) ?_;refine AG Y<|Zn [2,7,9,13,14,18,20,21,22,23,24] ?_;refine Zx<|Zq<|Az (n:=40) (0::1::3::7::15::31::63::127::63::63::831::1855::3903::8191::16383::32767::65535::131071::262143::131071::131071::1703935::3801087::7995391::16777215::33554431::67108863::134217727::268435455::536870911::1073741823::2147483647::4294967295::8589934591::17179869183::8589934591::42949672959::137438953471::274877906943::549755813887::[]) 8192 A6 A6 V<|A2 0 V (AO Y)<|A2 1 V (Cm Y)<|A2 2 V (AO Y)<|CW (t:=152) Y (fun a1=>?_) (fun a1=>?_)
     ·
      rw [CM a1];exact absurd h2 a1
     rw [C4 a1];refine AF 3 V<|AF 4 V<|AF 5 V<|AF 6 V<|AF 7 V<|AF 8 V<|AF 9 V<|AF 10 V<|AF 11 V<|AF 12 V<|AF 13 V<|AF 14 V<|AF 15 V<|AF 16 V<|AF 17 V<|AF 18 V<|AF 19 V<|AF 20 V<|AF 21 V<|AF 22 V<|AF 23 V<|AF 24 V<|AF 25 V<|A2 26 V (AL Y Y)<|A2 27 V (AO Y)<|AH 28 V (AO Y)<|AH 29 V (AO Y)<|CW (t:=179) Y (fun a2=>?_) (fun a2=>?_)
     ·
      rw [CM a2];refine AH 30 V (AO Y)<|AH 31 V (AV Y Y)<|AH 32 V (AO Y)<|Bu (t:=182) Y (fun a3=>?_) (fun a3=>?_)
      ·
       skip
       refine AH 33 V (AB (off:=10) HP V rfl A5 Y)<|DA 34 V Wh (BO AE Y AN) ?_;refine AH 35 V (AO Y)<|AH 36 V (Dm (n:=1) Y Y A1)<|AH 37 V (J9 Y Y)<|AH 38 V (AV Y Y)<|A2 39 V (AL Y Y)<|Ah<|Zn [2,7,9,13,14,18,20,21,189] ?_;refine Zx<|Au Y (fun a4=>?_) (fun a4=>?_)
       ·
        exact absurd (by have h9:=ek hf;omega) a4
       refine AC<|A8<|Zx<|Zg<|Zm Y<|Ya (n:=1) Y Y<|AG Y<|Zn [20,21,2,7,9,13,14,18] ?_;refine Ab (e':=[(20,_),(21,_)]) (by exact ⟨i+1,U+1,rfl,⟨by omega,by rw [Kn g,<-B,hf];rfl⟩,rfl,rfl⟩)
      skip
      cases a3
     rw [C4 a2];exact absurd h2 a2
    refine Zm Y<|Zd Y V<|Zd Y V<|Ze (Al HU #[_,_,_,_,_,_,_,_,_,_,_,_,_,_,_])<|AD fun bd=>Xe (Xw H4 #[I4 0,I4 0,I4 0,I4 0,I4 0,I4 0,I4 0,.slice none 0 0,I4 0,.bool false,I4 0,I4 0,I4 0,.slice none 0 0,.slice none 0 0]) ?_;refine AG Y<|Zn [2,7,9,13,14,18,20,21,22,23,24] ?_;refine Zx<|Zq<|Az (n:=40) (0::1::3::7::15::31::63::127::63::63::831::1855::3903::8191::16383::32767::65535::131071::262143::131071::131071::1703935::3801087::7995391::16777215::33554431::67108863::134217727::268435455::536870911::1073741823::2147483647::4294967295::8589934591::17179869183::8589934591::42949672959::137438953471::274877906943::549755813887::[]) 8192 A6 A6 V<|A2 0 V (AO Y)<|A2 1 V (Cm Y)<|A2 2 V (AO Y)<|CW (t:=152) Y (fun b1=>?_) (fun b1=>?_)
    ·
     rw [CM b1];exact absurd h2 b1
    rw [C4 b1];refine AF 3 V<|AF 4 V<|AF 5 V<|AF 6 V<|AF 7 V<|AF 8 V<|AF 9 V<|AF 10 V<|AF 11 V<|AF 12 V<|AF 13 V<|AF 14 V<|AF 15 V<|AF 16 V<|AF 17 V<|AF 18 V<|AF 19 V<|AF 20 V<|AF 21 V<|AF 22 V<|AF 23 V<|AF 24 V<|AF 25 V<|A2 26 V (AL Y Y)<|A2 27 V (AO Y)<|AH 28 V (AO Y)<|AH 29 V (AO Y)<|CW (t:=179) Y (fun b2=>?_) (fun b2=>?_)
    ·
     rw [CM b2];refine AH 30 V (AO Y)<|AH 31 V (AV Y Y)<|AH 32 V (AO Y)<|Bu (t:=182) Y (fun b3=>?_) (fun b3=>?_)
     ·
      rw [b3];cases b3
     rw [b3];refine AF 33 V<|AF 34 V<|AF 35 V<|AF 36 V<|AF 37 V<|AH 38 V (AL Y Y)<|A2 39 V (AL Y Y)<|Ah<|Zn [2,7,9,13,14,18,20,21,189] ?_;refine Zx<|Ch Y<|AC<|A8<|Zx<|Zg<|Zm Y<|Ya (n:=1) Y Y<|AG Y<|Zn [20,21,2,7,9,13,14,18] ?_;refine Ab (e':=[(20,_),(21,_)]) (by exact ⟨i+1,U+1,rfl,⟨by omega,by rw [Kn g,<-B,hf];rfl⟩,rfl,rfl⟩)
    rw [C4 b2];exact absurd h2 b2
   have hf:Nj c r.cs r.p x.key=false:=by
    cases hh:Nj c r.cs r.p x.key with
    |false=>rfl
    |true=>
     have h9:=(Pg g).1 hh;rw [<-cO,<-B,ql]at h9;exact absurd (Pc h9) h2
   refine AC<|Zx<|A0<|Zm Y<|Zm Y<|Zm Y<|BX (BQ Cd F1 Y Y (by first|omega|decide|exact CD _|(simp;done)|(simp;omega)))<|Zl HB Y (hv:=by exact K) ?_;refine Zc [_,_] Y call17 Y V (iF I LD hA hZ hx A1 hf) ?_;rintro _ _ ⟨_,⟨s9,z,O,⟨kv,ek⟩,rfl,rfl⟩,rfl⟩;refine Zm Y<|Zd Y V<|Zd Y V<|Ze (Al HU #[_,_,_,_,_,_,_,_,_,_,_,_,_,_,_])<|AD fun bd=>Xe (Xw H4 z.A31) ?_;refine AG Y<|Zn [2,7,9,13,14,18,20,21,22,23,24] ?_;refine Zx<|Zq<|Az (n:=40) (0::1::3::7::15::31::63::127::63::63::831::1855::3903::8191::16383::32767::65535::131071::262143::131071::131071::1703935::3801087::7995391::16777215::33554431::67108863::134217727::268435455::536870911::1073741823::2147483647::4294967295::8589934591::17179869183::8589934591::42949672959::137438953471::274877906943::549755813887::[]) 8192 A6 A6 V<|A2 0 V (AO Y)<|A2 1 V (Cm Y)<|A2 2 V (AO Y)<|CW (t:=152) Y (fun c1=>?_) (fun c1=>?_)
   ·
    rw [CM c1];refine AH 3 V (AO Y)<|AH 4 V (Bo Y)<|AH 5 V (AO Y)<|Bu (t:=155) Y (fun c2=>?_) (fun c2=>?_)
    ·
     rw [c2];cases c2
    rw [c2];refine AH 6 V (AB (off:=7) HP V rfl As Y)<|DA 7 V Wh (AA (cs:=#[_,_,_]) BW As Y Ax (by exact (by apply HC.1;rfl))) ?_;refine AH 8 V (AO Y)<|AH 9 V (AO Y)<|AH 10 V (Ac er H4 Y Y A1)<|AH 11 V (Ap (off:=7) HP V rfl As Y)<|DA 12 V Wh (AA (cs:=#[_,_,_]) BW As Y A1 (by exact (by(rw [Cl];exact o9)))) ?_;refine Yw 13 16383 V (Zu [_,_] Y call20 Y V (iU O.1 pq.1)) ?_;rintro _ _ ⟨rfl,rfl⟩;rw [CM (kv.trans gq.symm)];refine AH 14 V (Bo Y)<|AH 15 V (AL Y Y)<|AH 16 V (AO Y)<|Bu (t:=166) Y (fun c3=>?_) (fun c3=>?_)
    ·
     rw [c3];cases c3
    rw [c3];refine AH 17 V (AB (off:=10) HP V rfl A5 Y)<|DA 18 V Wh (BO AE Y AN) ?_;refine AH 19 V (AO Y)<|AH 20 V (AO Y)<|AH 21 V (Ac er H4 Y Y A1)<|AH 22 V (Ap (off:=10) HP V rfl A5 Y)<|DA 23 V Wh (BO AE Y (by exact (by(rw [Cl];exact o8)))) ?_;refine AH 24 V (J9 Y Y)<|AH 25 V (AL Y Y)<|A2 26 V (AV Y Y)<|A2 27 V (AO Y)<|CW (t:=177) Y (fun c4=>?_) (fun c4=>?_)
    ·
     rw [CM c4];exact absurd (ek.trans ic.symm) c4
    rw [C4 c4];refine AH 28 V (AO Y)<|AH 29 V (AO Y)<|CW (t:=179) Y (fun c5=>?_) (fun c5=>?_)
    ·
     rw [CM c5];exact absurd c5 h2
    rw [C4 c5];refine AF 30 V<|AH 31 V (AL Y Y)<|AH 32 V (AO Y)<|AF 33 V<|AF 34 V<|AF 35 V<|AF 36 V<|AF 37 V<|AH 38 V (AL Y Y)<|A2 39 V (AL Y Y)<|Ah<|Zn [2,7,9,13,14,18,20,21,189] ?_;refine Zx<|Ch Y<|AC<|A8<|Zx<|Zg<|Zm Y<|Ya (n:=1) Y Y<|AG Y<|Zn [20,21,2,7,9,13,14,18] ?_;refine Ab (e':=[(20,_),(21,_)]) (by exact ⟨i+1,U,rfl,⟨by omega,by rw [Kn g,<-B,hf];rfl⟩,rfl,rfl⟩)
   rw [C4 c1];exact absurd h2 c1
  rw [C4 h1];have hf:Nj c r.cs r.p x.key=false:=by
   cases hh:Nj c r.cs r.p x.key with
   |false=>rfl
   |true=>
    have h9:=(Pg g).1 hh;rw [<-cO,<-B]at h9;exact absurd (B9.1 h9).1 h1
  refine AF 5 V<|AF 6 V<|AF 7 V<|AF 8 V<|AF 9 V<|AF 10 V<|AF 11 V<|AF 12 V<|AF 13 V<|A2 14 V (AL Y Y)<|A2 15 V (Aw Y)<|Ah<|Zn [2,7,9,13,14,18,20,21,22] ?_;refine Zx<|Zq<|A0<|Zm Y<|A4<|Ch Y<|AC<|Zx<|A0<|Zm Y<|Zm Y<|Zm Y<|BX (BQ Cd F1 Y Y (by first|omega|decide|exact CD _|(simp;done)|(simp;omega)))<|Zl HB Y (hv:=by exact K) ?_;refine Zc [_,_] Y call17 Y V (iF I LD hA hZ hx A1 hf) ?_;rintro _ _ ⟨_,⟨s9,z,O,⟨kv,ek⟩,rfl,rfl⟩,rfl⟩;refine Zm Y<|Zd Y V<|Zd Y V<|Ze (Al HU #[_,_,_,_,_,_,_,_,_,_,_,_,_,_,_])<|AD fun bd=>Xe (Xw H4 z.A31) ?_;refine AG Y<|Zn [2,7,9,13,14,18,20,21,22,23,24] ?_;refine Zx<|Zq<|Az (n:=40) (0::1::3::7::15::31::63::127::63::63::831::1855::3903::8191::16383::32767::65535::131071::262143::131071::131071::1703935::3801087::7995391::16777215::33554431::67108863::134217727::268435455::536870911::1073741823::2147483647::4294967295::8589934591::17179869183::8589934591::42949672959::137438953471::274877906943::549755813887::[]) 8192 A6 A6 V<|A2 0 V (AO Y)<|A2 1 V (Bo Y)<|A2 2 V (AO Y)<|Bu (t:=152) Y (fun e1=>?_) (fun e1=>?_)
  ·
   rw [e1];refine AH 3 V (AO Y)<|AH 4 V (Bo Y)<|AH 5 V (AO Y)<|Bu (t:=155) Y (fun e2=>?_) (fun e2=>?_)
   ·
    rw [e2];cases e2
   rw [e2];refine AH 6 V (AB (off:=7) HP V rfl As Y)<|DA 7 V Wh (AA (cs:=#[_,_,_]) BW As Y Ax (by exact (by apply HC.1;rfl))) ?_;refine AH 8 V (AO Y)<|AH 9 V (AO Y)<|AH 10 V (Ac er H4 Y Y A1)<|AH 11 V (Ap (off:=7) HP V rfl As Y)<|DA 12 V Wh (AA (cs:=#[_,_,_]) BW As Y A1 (by exact (by(rw [Cl];exact o9)))) ?_;refine Yw 13 16383 V (Zu [_,_] Y call20 Y V (iU O.1 pq.1)) ?_;rintro _ _ ⟨rfl,rfl⟩;rw [CM (kv.trans gq.symm)];refine AH 14 V (Bo Y)<|AH 15 V (AL Y Y)<|AH 16 V (AO Y)<|Bu (t:=166) Y (fun e3=>?_) (fun e3=>?_)
   ·
    rw [e3];cases e3
   rw [e3];refine AH 17 V (AB (off:=10) HP V rfl A5 Y)<|DA 18 V Wh (BO AE Y AN) ?_;refine AH 19 V (AO Y)<|AH 20 V (AO Y)<|AH 21 V (Ac er H4 Y Y A1)<|AH 22 V (Ap (off:=10) HP V rfl A5 Y)<|DA 23 V Wh (BO AE Y (by exact (by(rw [Cl];exact o8)))) ?_;refine AH 24 V (J9 Y Y)<|AH 25 V (AL Y Y)<|A2 26 V (AV Y Y)<|A2 27 V (AO Y)<|CW (t:=177) Y (fun e4=>?_) (fun e4=>?_)
   ·
    rw [CM e4];exact absurd (ek.trans ic.symm) e4
   rw [C4 e4];refine AH 28 V (AO Y)<|AH 29 V (AO Y)<|AF 30 V<|AH 31 V (AL Y Y)<|AH 32 V (AO Y)<|AF 33 V<|AF 34 V<|AF 35 V<|AF 36 V<|AF 37 V<|AH 38 V (AL Y Y)<|A2 39 V (AL Y Y)<|Ah<|Zn [2,7,9,13,14,18,20,21,189] ?_;refine Zx<|Ch Y<|AC<|A8<|Zx<|Zg<|Zm Y<|Ya (n:=1) Y Y<|AG Y<|Zn [20,21,2,7,9,13,14,18] ?_;refine Ab (e':=[(20,_),(21,_)]) (by exact ⟨i+1,U,rfl,⟨by omega,by rw [Kn g,<-B,hf];rfl⟩,rfl,rfl⟩)
  rw [e1];cases e1
 have Gl:i=zs.length:=by omega
 have yt:U=ax.length:=by rw [cO,B,Gl,G0]
 refine Ay<|Zt<|Zt<|AR<|Zx<|A0<|Zm Y<|Zm Y<|Ag (t:=191) Y V (fun f1=>?_) (fun f1=>?_)
 ·
  refine Zf Y Y<|Zf Y Y<|Yg (Aa Cd Y)<|Yg (CR Y Y)<|Zv (AV Y Y)<|A3 Y<|AJ<|AP V results4 Y (by exact ⟨congrArg Value.bool (CM yt),V⟩)
 cases f1
theorem Re(p:Option Addr)(cap:Nat)(xs:List (List Int))(M:List A9)(J:WK M (.slice p xs.length cap) xs)(B:Option Addr)(cap2:Nat)(ys:List QR)(K:Xu M (.slice B ys.length cap2) ys)(w:Int)(O:-9223372036854775808<=w)(U:w<=9223372036854775807)(g:TypeId)(G:Nat×Nat)(m:TypeId)(I:Nat×Nat):BI prog 4 #[.slice p xs.length cap,.slice B ys.length cap2,I4 w] [[(4,.cells (Eo.map Ct).toArray g G)],[(1,.cells (Lib.pow10Tab.map fun z=>Value.int .u64 z).toArray m I)],M] (.bool true):=Y3 J K w O U g G m I
end Go.Proofs.YteaiajghbkenoaaGreatDoor
namespace Go.Proofs.YteaiajghbkenoaaGreatDoor
open Go.Proofs.Tryz
open Go Go.RowKit Gw
set_option maxRecDepth 100000
attribute [local irreducible] Gw.At Gw.Nx Gw.Ops
open Go.ChangeShapes Go.WideShapes Go.ChangeAt
theorem XK{P:Program}{f:FuncId}{g:Func}{s:ChangeSpec}{c:OpenClaim}(h0:c.wf (OpenSpec.ofChange s)=true)(h1:laidOutB P=true)(h2:mapsRowed P=true)(h3:g.params.all (P.readableRec ·)=true)(h4:namedTie P c.named s.vars=true)(h5:(c.stops== [])=true)(h6:(P.stops== [])=true)(h7:(c.knobs== [])=true)(h8:(P.stopKnobs== [])=true)(h9:(c.inPlace==P.inPlace f)=true)(m:(c.unfollowed==P.unfollowed f)=true)(B:(c.recurses==P.recurses f)=true)(G:(c.named==P.varsNamed f)=true)(I:(c.maps==(g.params.toList++s.plain.varTypes P).any (P.mapsRec ·))=true)(J:(c.ifaces==(g.params.toList++s.plain.varTypes P).any (P.ifacesRec ·))=true)(K:(c.mapsOut==P.mapsAmong g.resultTypes.toList)=true)(O:(c.loops==(g.params.toList++s.plain.varTypes P).any (P.loopsFrom ·))=true)(U:(c.wideKeys==(g.params.toList++s.plain.varTypes P++g.resultTypes.toList).any (P.wideKeysFrom ·))=true)(X:s.vars.all (P.varReadable ·)=true)(Z:g.resultTypes.all (fun t=>P.readableRec t&&decide (t<P.types.size))=true)(af:(c.ifacesOut==g.resultTypes.toList.any (P.ifacesRec ·))=true)(ax:(c.loopsOut==g.resultTypes.toList.any (P.loopsFrom ·))=true)(bn:(c.plainKeys==P.plainKeys)=true)(cu:c.shortTexts.isNone=true)(cO:P.stopsHeard=true)(d9:P.mayEnter=true)(ek:(c.lifted==P.liftsFinal)=true)(gm:(P.make==some c.make)=true)(gq:(c.kinds==(if c.domain.isEmpty then []else g.params.toList.map fun t=>match P.underlying t with|some (.int k)=>some k|_=>none))=true)(gy:(c.pinned==c.pinnedBy)=true)(gB:(c.veiled==(g.params.toList++s.plain.varTypes P++g.resultTypes.toList).any (P.veiledRec ·))=true)(ic:c.veiledFits P g.params.toList (g.params.toList++s.plain.varTypes P++g.resultTypes.toList)=true):joinedFacts P f g s c=true:=by
 unfold joinedFacts;simp only [Fi];exact ⟨⟨⟨⟨⟨⟨⟨⟨⟨⟨⟨⟨⟨⟨⟨⟨⟨⟨⟨⟨⟨⟨⟨⟨⟨⟨⟨⟨⟨⟨⟨h0,h1⟩,h2⟩,h3⟩,h4⟩,h5⟩,h6⟩,h7⟩,h8⟩,h9⟩,m⟩,B⟩,G⟩,I⟩,J⟩,K⟩,O⟩,U⟩,X⟩,Z⟩,af⟩,ax⟩,bn⟩,cu⟩,cO⟩,d9⟩,ek⟩,gm⟩,gq⟩,gy⟩,gB⟩,ic⟩
end Go.Proofs.YteaiajghbkenoaaGreatDoor
namespace Go.Proofs.YteaiajghbkenoaaGreatDoor
open Go.Proofs.Tryz
open Go Go.RowKit Gw
set_option maxRecDepth 100000
attribute [local irreducible] Gw.At Gw.Nx Gw.Ops
open Go.ChangeShapes Go.WideShapes Go.Deep
theorem tY{cur:Array Value}{o:Nat}{a b c d e:Int}(h:∀(j:Nat) (n:Int),[a,b,c,d,e][j]?=some n->cur[o+j]?=some (I4 n)):o+5<=cur.size/\cur.extract o (o+5)=#[I4 a,I4 b,I4 c,I4 d,I4 e]:=by
 have g:=h 4 e rfl;have m:=(HK.1 g).1
 refine ⟨by omega,Array.ext_getElem? fun i=>?_⟩;rw [al];by_cases hi:i<5
 · rw [AM A1]
   rcases (by omega:i=0\/i=1\/i=2\/i=3\/i=4)with rfl|rfl|rfl|rfl|rfl
   · exact h 0 a rfl
   · exact h 1 b rfl
   · exact h 2 c rfl
   · exact h 3 d rfl
   · exact h 4 e rfl
 · rw [AK A1]
   exact (Hc HS).symm
theorem Yy{H:Type}{enc:TypeId×Value->H}{W:World}{base:Nat}{held:Bool}{Z Tp:TypeId}{zg zp:Nat×Nat}(h4:UB W Z zg Tp zp){m:Nat}{cs:List Value}{x:DataW H×List MemPlace}(h:DataW.trod enc prog W base (fun _=>true) held m 60 cs=some x):
 ∃v xs,cs=[v]/\Xu (Ob W [4,1]) v xs:=by
 obtain ⟨p,len,cap,rfl,hl,K⟩:=TE mB ri AW h;obtain ⟨xs,h1,h2⟩:=Je len (fun i (z:QR)=>z.fits/\∃g o cur T zz,p=some ⟨g,o,none⟩/\(g,Obj.cells cur T zz)∈Ob W [4,1]/\o+i*5+5<=cur.size/\cur.extract (o+i*5) (o+i*5+5)=#[I4 z.a,I4 z.b,I4 z.c,I4 z.d,I4 z.e]) (fun i hi=>by
  obtain ⟨af,n,z,G,ht,g,o,cur,T,zz,hp,U,hc⟩:=K i hi;obtain ⟨a,b,c,d,e,rfl,ha,I,J,hd,he⟩:=ku ht G;have B:∀(j:Nat) (n:Int),[a,b,c,d,e][j]?=some n->cur[o+i*5+j]?=some (I4 n):=fun j n X=>by
   have O:=(B9.1 X).1;rw [hc j (by simpa using O)];have h9:([a,b,c,d,e].map (Value.int .i64))[j]?=some (I4 n):=by rw [DM,X];rfl
   exact h9
  obtain ⟨e1,e2⟩:=tY B;exact ⟨⟨a,b,c,d,e⟩,⟨ha,I,J,hd,he⟩,g,o,cur,T,zz,hp,Ot U (aA h4 U (B 0 a V) V),e1,e2⟩)
 subst h1;exact ⟨_,xs,V,p,cap,V,hl,h2⟩
end Go.Proofs.YteaiajghbkenoaaGreatDoor
