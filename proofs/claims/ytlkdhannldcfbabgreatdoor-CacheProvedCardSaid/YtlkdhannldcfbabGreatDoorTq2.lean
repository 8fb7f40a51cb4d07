/- The reference of layer 4: Log, as a function. -/
import Derived.Test.YtlkdhannldcfbabGreatDoorLd1
import Derived.ProofKit
import Derived.OpenShut
import Derived.Stop.LaidErr
import Derived.Test.YtlkdhannldcfbabGreatDoorRows
set_option linter.unusedVariables false
set_option linter.unusedSimpArgs false
namespace Go.Proofs.YtlkdhannldcfbabGreatDoor
open Go.Proofs.Tryz
open Go Go.RowKit Gw
set_option maxRecDepth 100000
attribute [local irreducible] Gw.At Gw.Nx Gw.Ops
set_option maxHeartbeats 4000000 in
theorem vB{M:List A8}{v:A2}{xs:List (List Int)}(hX:XX M v xs)(hx:xs.length<=1000):BS prog 5 #[v] [M] (fun r H'=>∃(l:List BF) (s:List A8),EY l/\l.length<=xs.length/\l.map BF.cs=UM xs/\Dx s r l/\H'=[s,M]):=by
 have ME:=mL;obtain ⟨px,FT,rfl,MS,zm⟩:=id hX;refine Se func5 ntmps5 [0] ?_;intro u R;refine A3<|AH Y<|A3<|AH Y<|A3<|Zc [] Y call25 Y V (xT) ?_;rintro _ _ ⟨_,⟨sp,rfl,rfl⟩,rfl⟩;refine CT Y<|A3<|AH Y<|AQ<|Bc<|Bc<|Bc<|Zb [3,5,0,4] ?_;refine Aw (e0:=[(3,_),(5,_)]) (fun m e H=>∃(i:Nat) (B:List BF) (w wo:A2) (sv so MM:List A8),m=xs.length -i/\(i<=xs.length/\EY B/\B.length<=i/\BU 5 83 w (BQ B).length (Ae (BQ B)) sv/\BU 2 55 wo B.length (Da B) so/\(∀r∈B,CL MM (.slice r.q r.cs.length r.cap) r.cs)/\B.map BF.cs=UM (xs.take i))/\e=[(3,wo),(5,I4 (i:Int))]/\H=[[(sp,.cells #[w,I4 (B.length:Int)] 87 (0,0))],sv,so,MM]) (by exact ⟨0,[],.slice none 0 0,.slice none 0 0,[],[],[],V,⟨CM _,(by intro i r h;cases h),D0 _,Bh 5 _,Bh 2 _,by simp,V⟩,V,V⟩) Wp ?_;rintro _ _ _ ⟨i,B,w,wo,sv,so,MM,rfl,⟨hi,Z,MP,j5,j3,p8,o9⟩,rfl,rfl⟩;obtain ⟨qw,qj,rfl⟩:=j5.form;obtain ⟨qo,zy,rfl⟩:=j3.form;obtain ⟨y5,zu⟩:=Z.all;have yt:=Qa j5 A0
 refine B8 Y<|Zm Y<|Zv (AR ey Y)<|Zv (Ap Y Y)<|A4<|Ak Y (fun sQ=>?_) (fun sQ=>?_);·
  obtain ⟨z,qb⟩:∃z,xs[i]?=some z:=⟨_,BT sQ⟩;obtain ⟨h6,o8,g,off,cur,T,zz,rfl,hm,sj⟩:=zm i z qb;refine B3<|Zq<|AQ<|A3<|CT Y<|A3<|AH Y<|AQ<|Bc<|Zb [6,7,0,3,4,5] ?_;refine Aw (e0:=[(6,_),(7,_)]) (fun m e H=>∃(k:Nat) (w2:A2) (cs:List Chg) (sl:List A8),m=3 -k/\(k<=3/\cs.length<=k/\BU 10 73 w2 cs.length (CV cs) sl/\cs=GX (BQ B) z k)/\e=[(6,w2),(7,I4 (k:Int))]/\H=[sl]) (by exact ⟨0,.slice none 0 0,[],[],V,⟨CM _,D0 _,Bh 10 _,V⟩,V,V⟩) Wp ?_;rintro _ _ _ ⟨k,w2,cs,sl,rfl,⟨MB,LD,G,cu⟩,rfl,rfl⟩;obtain ⟨gw,cw,rfl⟩:=G.form;have Mx:=Eo G
  refine B8 Y<|Zv (Ap (n:=3) Y Y)<|A4<|Ak Y (fun hk=>?_) (fun hk=>?_);·
   obtain ⟨za,ax⟩:∃n,z[2*k]?=some n:=⟨_,BT A0⟩;obtain ⟨zb,bn⟩:∃n,z[2*k+1]?=some n:=⟨_,BT A0⟩;have MJ:=o8 za (Ek ax)
   have MK:=o8 zb (Ek bn);have zf:=sj _ _ ax
   have zh:=sj _ _ bn;refine B3<|Zq<|AQ<|AK Y<|Zm Y<|Zm Y<|BX (Em (m:=2) Y Y A0)<|BX (AZ ey sizeOf81 Y Y A0)<|BX (Iy mN A6 Y Y A0)<|Bu (cs:=[(g,.cells cur T zz)]) (by simp [hm]) (BK AE Y (by(rw [O2];exact zf))) V rfl<|AH Y<|Zb [8,0,3,4,5,6,7] ?_;refine CP (e0:=[(8,_)]) (H0:=[]) (fun e H=>∃(n:Nat),(n<=9223372036854775807/\n=NB za)/\e=[(8,I4 (n:Int))]/\H=[]) Wp ?hx_3 ?hy_3
   case hx_3=>
    refine AK Y<|Zv (Dy Y Y)<|A4<|Ak Y (fun zn=>?_) (fun zn=>?_);·
     refine Zg<|Zm Y<|Yi Y Y ?_;refine BX (lS Y (IntWalk.i64_in _ A0))<|B2 Y<|HB (e:=[(8,_)]) (h:=by exact ⟨(-(za+1)).toNat,⟨by omega,mr A0⟩,by rw [show(((-(za+1)).toNat:Nat):Int)=0 -(za+1) by omega],rfl⟩)
    refine AC<|HB (e:=[(8,_)]) (h:=by exact ⟨za.toNat,⟨by omega,mo A0⟩,by rw [show((za.toNat:Nat):Int)=za by omega],rfl⟩)
   rintro _ _ ⟨n,⟨hn,ic⟩,rfl,rfl⟩;refine AK Y<|Zm Y<|Zm Y<|BX (Em (m:=2) Y Y A0)<|Ya (n:=1) Y Y ?_;refine BX (AZ ey sizeOf81 Y Y A0)<|BX (Iy mN A6 Y Y A0)<|Bu (cs:=[(g,.cells cur T zz)]) (by simp [hm]) (BK AE Y (by(rw [O2];exact zh))) V rfl<|AH Y<|Zb [9,0,3,4,5,6,7,8] ?_;refine CP (e0:=[(9,_)]) (H0:=[]) (fun e H=>∃(m:Nat),(m<=9223372036854775807/\m=NB zb)/\e=[(9,I4 (m:Int))]/\H=[]) Wp ?hx_6 ?hy_6
   case hx_6=>
    refine AK Y<|Zv (Dy Y Y)<|A4<|Ak Y (fun zq=>?_) (fun zq=>?_);·
     refine Zg<|Zm Y<|Yi Y Y ?_;refine BX (lS Y (IntWalk.i64_in _ A0))<|B2 Y<|HB (e:=[(9,_)]) (h:=by exact ⟨(-(zb+1)).toNat,⟨by omega,mr A0⟩,by rw [show(((-(zb+1)).toNat:Nat):Int)=0 -(zb+1) by omega],rfl⟩)
    refine AC<|HB (e:=[(9,_)]) (h:=by exact ⟨zb.toNat,⟨by omega,mo A0⟩,by rw [show((zb.toNat:Nat):Int)=zb by omega],rfl⟩)
   rintro _ _ ⟨m,⟨MC,gQ⟩,rfl,rfl⟩;refine AK Y<|BX (Gx (n:=3) Y Y A0)<|Zm Y<|BX (Ka (n:=3) Y Y A0 A0)<|BX (Gx (n:=9) Y Y A0)<|Ya (m:=1) Y Y<|Zv (BN (vs:=[(0,_),(1,_)]) (cs:=#[_,_,_,_,_,_,_,_,_,_]) Y (Aa (pl:=#[(0,1),(1,1),(2,1),(3,3),(6,1),(7,3)]) N1 CC (fun _=>by kernel_rfl) V))<|Ze (Al N1 #[_,_,_,_,_,_,_,_,_,_])<|AF fun cb=>Xe (BJ Cl Y Y (by(simp [Value.oneCell',Value.cells];done)) Wu (by exact (rfl:_=(#[I4 ((n%3:Nat):Int),I4 ((1+n/3%9:Nat):Int),.bool false,I4 0,I4 0,I4 0,.bool false,I4 0,I4 0,I4 0]:AN))) G4 (by exact D0 _) (by exact BB _))<|A4<|AK Y<|Zh 0 CC rfl rfl A6 Y<|Zl AE Y<|Zh 1 CC rfl rfl A6 Y<|Zl AE Y<|Xr [_,_,_] Y call26 Y rfl (ut sp qw qj (B.length:Int) ((n%3:Nat):Int) ((1+n/3%9:Nat):Int) (BQ B) sv yt A0 y5) ?_;obtain ⟨I,sw⟩:∃I,I=G8 (BQ B) ((n%3:Nat):Int) ((1+n/3%9:Nat):Int):=⟨_,rfl⟩;rw [<-sw];refine Zm Y<|Zd Y V<|Zd Y V<|Ze (Al Ft #[_,_,_,_,_])<|AF fun ob=>Xe (Xw B6 #[I4 I.1.t,I4 I.1.k,I4 I.1.v.a,I4 I.1.v.b,I4 I.1.v.c])<|B2 Y<|Zn [0,3,4,5,6,7,8,9,10,11,12] ?_;refine Zx<|AK Y<|Zh 2 CC rfl rfl F1 Y<|Xe (Zs F1 Y Y rfl (hc:=by exact (rfl:_=(#[I4 ((n%3:Nat):Int),I4 ((1+n/3%9:Nat):Int),.bool I.2,I4 0,I4 0,I4 0,.bool false,I4 0,I4 0,I4 0]:AN))) (hi:=by(simp;done)))<|A4<|A3<|Zh 2 HC rfl rfl E4 Y<|Zo Wh (Pa #[_,_,_] Hb E4 Y)<|Zh 3 CC rfl rfl E4 Y<|Xe (BJ E4 Y Y K0 Wu (by exact (rfl:_=(#[I4 ((n%3:Nat):Int),I4 ((1+n/3%9:Nat):Int),.bool I.2,I4 I.1.v.a,I4 I.1.v.b,I4 I.1.v.c,.bool false,I4 0,I4 0,I4 0]:AN))) G4 B5 (by exact BB _))<|A4<|Zb [12,0,3,4,5,6,7,8,9,10] ?_;refine CP (e0:=[(12,_)]) (H0:=[[(cb,.cells #[I4 ((n%3:Nat):Int),I4 ((1+n/3%9:Nat):Int),.bool I.2,I4 I.1.v.a,I4 I.1.v.b,I4 I.1.v.c,.bool false,I4 0,I4 0,I4 0] 73 (0,0))]]) (fun e H=>∃(hb:Bool),(hb=mm I.2 m)/\e=[]/\H=[[(cb,.cells #[I4 ((n%3:Nat):Int),I4 ((1+n/3%9:Nat):Int),.bool I.2,I4 I.1.v.a,I4 I.1.v.b,I4 I.1.v.c,.bool hb,I4 0,I4 0,I4 0] 73 (0,0))]]) Wp ?hx_9 ?hy_9
   case hx_9=>
    refine Zg<|Zm Y<|Zv (Bo Y)<|Zm Y<|Ad (t:=77) Y V (fun hh=>?_) (fun hh=>?_);focus
     refine AG<|C4<|Zv (AU Y Y) ?_
    rotate_left
    focus
     refine Zf Y Y<|Gy Y (Gx (n:=4) Y Y A0) V rfl ?_;refine Yg (DX (n:=0) Y Y)<|Zv (AJ Y Y) ?_
    all_goals
     refine Zh 6 CC V rfl F1 Y<|Xe (Zs F1 Y Y V (hi:=by(simp;done)))<|Z0<|Zn [0,3,4,5,6,7,8,9,10] ?_;refine BR (e':=[]) (H':=[[(cb,.cells #[_,_,_,_,_,_,_,_,_,_] 73 (0,0))]]) ?_;exact ⟨_,by unfold mm;(rw [hh];rfl),V,V⟩
   rintro _ _ ⟨hb,qz,rfl,rfl⟩;refine Zb [9,0,3,4,5,6,7,8,10] ?_;refine CP (e0:=[(9,_)]) (H0:=[[(cb,.cells #[I4 ((n%3:Nat):Int),I4 ((1+n/3%9:Nat):Int),.bool I.2,I4 I.1.v.a,I4 I.1.v.b,I4 I.1.v.c,.bool hb,I4 0,I4 0,I4 0] 73 (0,0))]]) (fun e H=>∃(c:Chg),(c=mW I n m)/\e=[]/\H=[[(cb,.cells c.BM3 73 (0,0))]]) Wp ?hx_10 ?hy_10
   case hx_10=>
    refine A3<|Zh 6 CC V rfl F1 Y<|Zl G0 Y<|A4<|AY Y (fun p9=>?_) (fun p9=>?_);·
     refine Zg<|Zm Y<|BX (Ka (n:=4) Y Y A0 A0)<|BX (Gx (n:=10) Y Y A0)<|Zm Y<|BX (Ka (n:=40) Y Y A0 A0)<|BX (Gx (n:=9) Y Y A0)<|Ya (m:=1) Y Y<|Zm Y<|BX (Ka (n:=400) Y Y A0 A0)<|BX (Gx (n:=40) Y Y A0)<|BX (GZ Y Y (IntWalk.i64_in _ A0))<|Zv (BN (vs:=[(0,_),(1,_),(2,_)]) (cs:=#[_,_,_]) Y (Dc fL K1 A6 rfl))<|Zh 7 CC rfl rfl E4 Y<|Xe (BJ E4 Y Y (by(simp [Value.oneCell',Value.cells];done)) Wu B1 G4 (by exact D0 _) (by exact BB _))<|Z0<|Zn [0,3,4,5,6,7,8,10] ?_;refine BR (e':=[]) (H':=[[(cb,.cells #[_,_,_,_,_,_,_,_,_,_] 73 (0,0))]]) ?_;exact ⟨⟨_,_,_,I.1.v,_,⟨_,_,_⟩⟩,by unfold mW;(rw [<-qz,Ax p9];rfl),V,V⟩
    refine AC<|Zn [0,3,4,5,6,7,8,10] ?_;refine BR (e':=[]) (H':=[[(cb,.cells #[_,_,_,_,_,_,_,_,_,_] 73 (0,0))]]) ?_;exact ⟨⟨_,_,_,I.1.v,_,⟨_,_,_⟩⟩,by unfold mW;(rw [<-qz,p9];rfl),V,V⟩
   rintro _ _ ⟨c,r9,rfl,rfl⟩;have gm:c=Rj (BQ B) n m:=by rw [r9,sw];rfl
   refine A3<|CT Y<|A3<|AH Y<|AQ<|Zb [13,14,0,3,4,5,6,7,8,10] ?_;refine Aw (e0:=[(13,_),(14,_)]) (fun m e H=>∃(j:Nat) (b:Bool),m=cs.length -j/\(j<=cs.length/\b=(cs.take j).any (gK c))/\e=[(13,.bool b),(14,I4 (j:Int))]/\H=[]) (by exact ⟨0,false,V,⟨CM _,V⟩,V,V⟩) Wp ?_;rintro _ _ _ ⟨j,b,rfl,⟨hj,K⟩,rfl,rfl⟩;refine B8 Y<|Zm Y<|Zv (AR GO Y)<|Zv (Ap Y Y)<|A4<|Ak Y (fun sJ=>?_) (fun sJ=>?_);·
    refine B3<|Zq<|AQ ?_;obtain ⟨y,hy⟩:∃y,cs[j]?=some y:=⟨_,BT sJ⟩;obtain ⟨gl,qh,ql,zl,q9,pz,sM,d9⟩:=E9 G A0;injection q9 with hv1 hv2 hv3
    subst hv1 pz;obtain ⟨kv,qa⟩:=yP d9 hy;refine Ay (n:=22) (0::1::3::3::15::31::63::3::131::511::1023::2047::2047::8191::16383::32767::2047::67583::262143::524287::1048575::2097151::[]) 0 AD AD V<|A1 0 V (AP Y)<|A1 1 V (AP Y)<|DK (t:=105) Y (fun O=>?_) (fun O=>?_);focus
     rw [O];refine AW 2 V<|AW 3 V<|AW 4 V<|AW 5 V<|AW 6 V<|AW 7 V<|AW 8 V<|AW 9 V<|AW 10 V<|AW 11 V<|AW 12 V<|AW 13 V<|AW 14 V<|AW 15 V<|AW 16 V<|AW 17 V<|AW 18 V<|AW 19 V<|A1 20 V (AU Y Y) ?_
    rotate_left
    focus
     rw [O];refine B4 2 V (AP Y)<|B4 3 V (AP Y)<|B4 4 V (AZ GO Cl Y Y A0)<|B4 5 V (Ar (off:=0) CC V rfl A6 Y)<|FF 6 V Wh (BK AE Y (by simpa using kv))<|B4 7 V (AB (off:=0) CC V rfl A6 Y)<|FF 8 V Wh (BK AE Y B1)<|B4 9 V (CO Y Y)<|B4 10 V (AP Y)<|Cs (t:=114) Y (fun O=>?_) (fun O=>?_);focus
      rw [DE O];refine B4 11 V (AP Y)<|B4 12 V (AP Y)<|B4 13 V (AZ GO Cl Y Y A0)<|B4 14 V (Ar (off:=1) CC V rfl A6 Y)<|FF 15 V Wh (BK AE Y (by simpa using qa))<|B4 16 V (AB (off:=1) CC V rfl A6 Y)<|FF 17 V Wh (BK AE Y B1)<|B4 18 V (CO Y Y)<|B4 19 V (AU Y Y)<|A1 20 V (AJ Y Y) ?_
     rotate_left
     focus
      rw [DQ O];refine AW 11 V<|AW 12 V<|AW 13 V<|AW 14 V<|AW 15 V<|AW 16 V<|AW 17 V<|AW 18 V<|B4 19 V (AJ Y Y)<|A1 20 V (AJ Y Y) ?_
    all_goals
     refine A1 21 V (BC Y)<|Aq<|Zn [0,3,4,5,6,7,8,10,13,14] ?_;refine AA<|Zx<|Zg<|Zm Y<|Ya (n:=1) Y Y<|B2 Y<|DG (e:=[(13,_),(14,_)]) (h:=by exact ⟨j+1,_,V,⟨by omega,wu hy K (by unfold gK;(simp_all;done))⟩,V,V⟩)
   have ej:j=cs.length:=by omega
   subst ej;rw [HE]at K;refine BA<|Zt<|Zt<|AX<|Zx<|Zb [8,13,0,3,4,5,6,7,10] ?_;refine CP (e0:=[(8,_),(13,_)]) (H0:=[]) (fun e H=>(¬KS cs c k n)/\e=[]/\H=[]) Wp ?hx_15 ?hy_15
   case hx_15=>
    refine AK Y<|Zm Y<|Ad (t:=126) Y V (fun J=>?_) (fun J=>?_);·
     refine AG<|AG<|AG<|AG<|AG<|AG<|C4<|C1 Y Y<|Zm Y<|AG<|AG<|AG<|C4<|C1 Y Y<|Z0<|Zn [0,3,4,5,6,7,10,149] ?_;refine Zx<|Cy Y<|BA<|Zt<|AX<|Zx<|Zg<|Zm Y<|Ya (n:=1) Y Y<|B2 Y<|DG (e:=[(6,_),(7,_)]) (h:=by exact ⟨k+1,_,cs,sl,rfl,⟨by omega,by omega,G,R9 cu ax bn ic gQ gm (by first|exact X|(unfold KS;rw [<-K];first|(simp_all;done)|(simp_all;omega)))⟩,rfl,rfl⟩)
    refine Yf 2 CC V rfl F1 Y<|Yl G0 Y<|Zf Y Y<|Ad (t:=129) Y V (fun J=>?_) (fun J=>?_);focus
     refine Yf 6 CC V rfl F1 Y<|Yl G0 Y<|Yg (AU Y Y)<|Zf Y Y<|Ad (t:=133) Y V (fun J=>?_) (fun J=>?_);focus
      refine Yf 3 CC V rfl E4 Y<|D6 Y Wh (A9 (cs:=#[_,_,_]) Hb E4 Y B5 B1) V rfl<|Yf 7 CC V rfl E4 Y<|D6 Y Wh (Pa #[_,_,_] Hb E4 Y) V rfl<|Yg (LK AD K1 D3 AE A6 Y Y) ?_;refine Yg (AU Y Y)<|B9 Y Y<|Zm Y<|Af (t:=141) Y V (fun J=>?_) (fun J=>?_);refine AG<|AG<|AG<|C4<|C1 Y Y<|Z0<|Zn [0,3,4,5,6,7,10,149] ?_;refine Zx<|Cy Y<|BA<|Zt<|AX<|Zx<|Zg<|Zm Y<|Ya (n:=1) Y Y<|B2 Y<|DG (e:=[(6,_),(7,_)]) (h:=by exact ⟨k+1,_,cs,sl,rfl,⟨by omega,by omega,G,R9 cu ax bn ic gQ gm (by first|exact X|(unfold KS;rw [<-K];first|(simp_all;done)|(simp_all;omega)))⟩,rfl,rfl⟩)
     rotate_left
     focus
      refine AG<|AG<|C4<|Yg (AJ Y Y)<|B9 Y Y<|Zm Y ?_
    rotate_left 2
    focus
     refine AG<|Yg (AJ Y Y)<|Zf Y Y<|AG<|AG<|C4<|Yg (AJ Y Y)<|B9 Y Y<|Zm Y ?_
    all_goals
     refine Zf Y Y<|Yg (DX (n:=0) Y Y)<|Zf Y Y<|Af (t:=144) Y V (fun J=>?_) (fun J=>?_);·
      refine Zf Y Y<|Gy Y (Gx (n:=5) Y Y A0) V rfl ?_;refine Yg (CJ (n:=0) Y Y)<|Yg (AU Y Y)<|B9 Y Y<|Z0<|Zn [0,3,4,5,6,7,10,149] ?_;refine Zx<|Ak Y (fun zi=>?_) (fun zi=>?_);·
       have X:KS cs c k n:=by unfold KS;rw [<-K];(simp_all;done)
       refine BA<|Zt<|AX<|Zx<|Zg<|Zm Y<|Ya (n:=1) Y Y<|B2 Y<|DG (e:=[(6,_),(7,_)]) (h:=by exact ⟨k+1,_,cs,sl,rfl,⟨by omega,by omega,G,R9 cu ax bn ic gQ gm (by first|exact X|(unfold KS;rw [<-K];first|(simp_all;done)|(simp_all;omega)))⟩,rfl,rfl⟩)
      have X:¬KS cs c k n:=by unfold KS;rw [<-K];(simp_all;done)
      refine AC<|Hh (by exact ⟨(by exact X),V,V⟩)
     refine AG<|C4<|Yg (AJ Y Y)<|B9 Y Y<|Z0<|Zn [0,3,4,5,6,7,10,149] ?_;refine Zx<|Df Y<|AC<|Hh (by exact ⟨(by(unfold KS;rw [<-K];first|(simp_all;done)|(simp_all;omega))),rfl,rfl⟩)
   rintro _ _ ⟨X,rfl,rfl⟩;refine AK Y<|Zv (AR GO Y)<|AH Y<|Zb [15,0,3,4,5,6,7,10] ?_;refine CP (e0:=[(15,_)]) (H0:=[]) (fun e H=>∃(j:Nat),(j<=cs.length/\Ql cs c cs.length=j)/\e=[(15,I4 (j:Int))]/\H=[]) Wp ?hx_27 ?hy_27
   case hx_27=>
    refine AQ<|Zb [15,0,3,4,5,6,7,10] ?_;refine Aw (e0:=[(15,_)]) (fun m e H=>∃(j:Nat),m=0+j/\(j<=cs.length/\Ql cs c j=Ql cs c cs.length)/\e=[(15,I4 (j:Int))]/\H=[]) (by exact ⟨cs.length,V,⟨D0 _,V⟩,V,V⟩) Wp ?_;rintro _ _ _ ⟨j,rfl,⟨hj,af⟩,rfl,rfl⟩;refine Zq<|Zq<|Ay (n:=35) (0::1::3::7::7::23::63::127::255::7::519::2047::4095::8191::8191::24575::65535::131071::262143::8191::532479::2097151::4194303::8388607::8388607::25165823::67108863::134217727::268435455::8388607::545259519::2147483647::4294967295::8589934591::17179869183::[]) 0 AD AD V<|A1 0 V (AP Y)<|A1 1 V (DX (n:=0) Y Y)<|A1 2 V (AP Y)<|Cs (t:=154) Y (fun gy=>?_) (fun gy=>?_);·
     rw [DE gy];obtain ⟨y,hy⟩:∃y,cs[j -1]?=some y:=⟨_,BT A0⟩;obtain ⟨gl,qh,ql,zl,q9,pz,sM,d9⟩:=E9 G A0;injection q9 with hv1 hv2 hv3
     subst hv1 pz;obtain ⟨kv,qa⟩:=yP d9 hy;refine B4 3 V (AP Y)<|B4 4 V (AP Y)<|B4 5 V (CQ (n:=1) Y Y A0 A0)<|B4 6 V (AZ GO Cl Y Y A0)<|B4 7 V (Ar (off:=0) CC V rfl A6 Y)<|FF 8 V Wh (BK AE Y (by simpa using kv))<|B4 9 V (AB (off:=0) CC V rfl A6 Y)<|FF 10 V Wh (BK AE Y B1)<|B4 11 V (F4 Y Y)<|B4 12 V (AP Y)<|Cs (t:=164) Y (fun U=>?_) (fun U=>?_);focus
      rw [DE U];refine AW 13 V<|AW 14 V<|AW 15 V<|AW 16 V<|AW 17 V<|AW 18 V<|AW 19 V<|AW 20 V<|AW 21 V<|AW 22 V<|AW 23 V<|AW 24 V<|AW 25 V<|AW 26 V<|AW 27 V<|AW 28 V<|AW 29 V<|AW 30 V<|AW 31 V<|AW 32 V<|B4 33 V (AU Y Y)<|A1 34 V (AU Y Y)<|Aq<|Zn [0,3,4,5,6,7,10,15,186] ?_;refine Zx<|Cy Y ?_
     rotate_left
     focus
      rw [DQ U];refine B4 13 V (AP Y)<|B4 14 V (AP Y)<|B4 15 V (CQ (n:=1) Y Y A0 A0)<|B4 16 V (AZ GO Cl Y Y A0)<|B4 17 V (Ar (off:=0) CC V rfl A6 Y)<|FF 18 V Wh (BK AE Y (by simpa using kv))<|B4 19 V (AB (off:=0) CC V rfl A6 Y)<|FF 20 V Wh (BK AE Y B1)<|B4 21 V (CO Y Y)<|B4 22 V (AP Y)<|Cs (t:=174) Y (fun U=>?_) (fun U=>?_);focus
       rw [DE U];refine B4 23 V (AP Y)<|B4 24 V (AP Y)<|B4 25 V (CQ (n:=1) Y Y A0 A0)<|B4 26 V (AZ GO Cl Y Y A0)<|B4 27 V (Ar (off:=1) CC V rfl A6 Y)<|FF 28 V Wh (BK AE Y (by simpa using qa))<|B4 29 V (AB (off:=1) CC V rfl A6 Y)<|FF 30 V Wh (BK AE Y B1)<|B4 31 V (F4 Y Y)<|B4 32 V (AU Y Y)<|B4 33 V (AJ Y Y)<|A1 34 V (AU Y Y)<|Aq<|Zn [0,3,4,5,6,7,10,15,186] ?_;refine Zx<|Ak Y (fun zk=>?_) (fun zk=>?_);rotate_left;refine BA<|Zt<|Zt<|AX<|Hh (by exact ⟨j,⟨hj,af.symm.trans (by exact aZ A0 hy (by unfold Ot;first|omega|(simp_all;omega)))⟩,rfl,rfl⟩)
      rotate_left
      rw [DQ U];refine AW 23 V<|AW 24 V<|AW 25 V<|AW 26 V<|AW 27 V<|AW 28 V<|AW 29 V<|AW 30 V<|AW 31 V<|B4 32 V (AJ Y Y)<|B4 33 V (AJ Y Y)<|A1 34 V (AU Y Y)<|Aq<|Zn [0,3,4,5,6,7,10,15,186] ?_;refine Zx<|Df Y<|BA<|Zt<|Zt<|AX<|Hh (by exact ⟨j,⟨hj,af.symm.trans (by exact aZ A0 hy (by unfold Ot;first|omega|(simp_all;omega)))⟩,rfl,rfl⟩)
     all_goals
      refine B3<|AQ<|Zg<|Zm Y<|Yb (n:=1) Y Y<|B2 Y<|AA<|HJ (by exact ⟨j -1,V,⟨by omega,(A43 gy hy (by unfold Ot;omega)).symm.trans af⟩,V,V⟩)
    rw [DQ gy];refine AW 3 V<|AW 4 V<|AW 5 V<|AW 6 V<|AW 7 V<|AW 8 V<|AW 9 V<|AW 10 V<|AW 11 V<|AW 12 V<|AW 13 V<|AW 14 V<|AW 15 V<|AW 16 V<|AW 17 V<|AW 18 V<|AW 19 V<|AW 20 V<|AW 21 V<|AW 22 V<|AW 23 V<|AW 24 V<|AW 25 V<|AW 26 V<|AW 27 V<|AW 28 V<|AW 29 V<|AW 30 V<|AW 31 V<|AW 32 V<|AW 33 V<|A1 34 V (AJ Y Y)<|Aq<|Zn [0,3,4,5,6,7,10,15,186] ?_;refine Zx<|Df Y<|BA<|Zt<|Zt<|AX<|Hh (by exact ⟨j,⟨hj,af.symm.trans (by exact A42 A0)⟩,V,V⟩)
   rintro _ _ ⟨j,⟨hj,zt⟩,rfl,rfl⟩;refine Ay (n:=12) (0::0::0::7::0::16::0::0::192::496::1023::2047::[]) 1568 AD AD V<|A1 0 V (AP Y)<|A1 1 V (AP Y)<|A1 2 V (AP Y)<|A1 3 V (Pi GO Cl Y Y Y A0)<|G3 4 V Wh (Pa #[_,_,_,_,_,_,_,_,_,_] HD Cl Y)<|A1 6 V (AP Y)<|A1 7 V (AP Y)<|A1 8 V (Bz GO Cl Y Y A0)<|Yw 5 511 V (Ah (vs:=[_]) (cs:=[_,_,_,_,_,_,_,_,_,_]) GO Cl N1 Y V rfl V rfl V)<|AF fun gb=>Yw 9 1023 V (BP (by_:=80) (sz:=10) GO (V:Tryz.prog.info? 73=some Tryz.t73) V rfl V rfl Y (H6 10 73 gb 1 (CV [c]) V B0) Y (KR G j (cs.length -j) _ A0) Wo Wo (by exact fun u hu=>Q8 cs u (MT hu)) A0 A0) ?_;rintro _ _ ⟨P5,l8,rfl⟩;obtain ⟨Hf,Gl,rfl⟩:=l8.form;refine Yw 10 2047 V (Li (by_:=80) (sz:=10) GO (V:Tryz.prog.info? 73=some Tryz.t73) V rfl V rfl Y (KQ G j _ hj) Y (lI l8) Wo Wo A0 A0 A0) ?_;rintro _ _ ⟨P6,l9,rfl⟩;have ve:=BZ l9 (n':=(cs.take j++[c]++cs.drop j).length) (xs':=CV (cs.take j++[c]++cs.drop j)) (by simp only [C0,Cd,Cp,GC];omega) (by rw [JG,JG,Vf,Vg,DH])
   obtain ⟨HZ,Gw,rfl⟩:=l9.form;refine A1 11 V (BC Y)<|Aq<|AA<|Zx<|Zg<|Zm Y<|Ya (n:=1) Y Y<|B2 Y<|DG (e:=[(6,_),(7,_)]) (h:=by exact ⟨k+1,_,cs.take j++[c]++cs.drop j,_,V,⟨by omega,by simp only [C0,Cd,Cp,GC];omega,ve,AC0 cu ax bn ic gQ gm X zt⟩,V,V⟩)
  have l5:cs=GX (BQ B) z 3:=by have e3:k=3:=A0;subst e3;exact cu
  refine BA<|Zt<|Zt<|AX<|Zx<|AK Y<|Zp Y V<|Zh 1 Mz V rfl A6 Y<|Zl AE Y<|Ya (n:=1) Y Y<|Zm Y<|Zv (BN (vs:=[(0,_),(1,_)]) (cs:=#[_,_]) Y (Aa (pl:=#[(0,1),(1,1)]) N2 GS (fun _=>by kernel_rfl) V))<|Ze (Al N2 #[_,_])<|AF fun rb=>Xe (BJ E0 Y Y (by(simp [Value.oneCell',Value.cells];done)) Wu (by exact (rfl:_=(#[I4 ((B.length:Int)+1),.slice gw cs.length cw]:AN))) G4 (by exact D0 _) (by exact BB _))<|A4<|AK Y<|Zo Wh (Pa #[_,_] HN E0 Y)<|Zc [_,_] Y call27 Y rfl (A32 sp (B.length:Int) ((B.length:Int)+1) _ (BQ B) sv sl gw cw cs j5 (RA G A0) y5 zu A0) ?_;rintro _ _ ⟨_,vw,rfl⟩;rcases vw with⟨ek,v2,y9,rfl,wz,rfl⟩|⟨ek,rfl,rfl⟩
  ·
   refine B2 Y<|Zn [0,3,4,5,16,17] ?_;refine Zx<|AK Y<|Zv (CJ (n:=0) Y Y)<|A4<|Ak Y (fun he=>?_) (fun he=>?_);·
    have pg:EY (B++[⟨(B.length:Int)+1,gw,cw,cs⟩]):=Z.snoc ek (by show cs.length<=3;omega);have pq:(((B++[(⟨(B.length:Int)+1,gw,cw,cs⟩:BF)]).length:Nat):Int)=(B.length:Int)+1:=by rw [C0,GC];omega
    have x9:BU 5 83 v2 (BQ (B++[⟨(B.length:Int)+1,gw,cw,cs⟩])).length (Ae (BQ (B++[⟨(B.length:Int)+1,gw,cw,cs⟩]))) y9:=by rw [Gt];exact wz
    have qx:∀r∈B++[(⟨(B.length:Int)+1,gw,cw,cs⟩:BF)],CL (MM++sl) (.slice r.q r.cs.length r.cap) r.cs:=by
     intro r hr;rcases CD.1 hr with hr|hr
     · exact K7 (p8 r hr) sl
     · rw [CH.1 hr];exact Ho (RA G A0) MM
    refine Cc (s1:=MM) (s2:=sl) Wo Wo ?_;refine Zg<|Zm Y<|Zo Wh (Pa #[_,_] HN E0 Y)<|Ze (Ah (vs:=[_]) (cs:=[_,_]) G2 E0 N2 Y V rfl V rfl V)<|AF fun gq=>Ze (BP (by_:=32) (sz:=2) G2 (V:Tryz.prog.info? 55=some Tryz.t55) V rfl V rfl Y (j3) Y (Cu 2 gq 1 1 55 (0,0) [I4 ((B.length:Int)+1),.slice gw cs.length cw] V) Wo Wo HO A0 A0) ?_;rintro _ _ ⟨sO,vo,rfl⟩;have vz:=BZ vo (n':=(B++[(⟨(B.length:Int)+1,gw,cw,cs⟩:BF)]).length) (xs':=Da (B++[⟨(B.length:Int)+1,gw,cw,cs⟩])) (by rw [C0,GC]) (by rw [JD];rfl)
    obtain ⟨gO,cO,rfl⟩:=vo.form;refine B2 Y<|AA<|Zx<|Zg<|Zm Y<|Ya (n:=1) Y Y<|B2 Y<|DG (e:=[(3,_),(5,_)]) (h:=by exact ⟨i+1,B++[⟨(B.length:Int)+1,gw,cw,cs⟩],_,_,y9,sO,MM++sl,rfl,⟨by omega,pg,by rw [C0,GC];omega,x9,vz,qx,vZ qb o9 l5 ek⟩,rfl,by rw [pq]⟩)
   exact absurd V he
  refine B2 Y<|Zn [0,3,4,5,16,17] ?_;refine Zx<|AK Y<|Zv (CJ (n:=0) Y Y)<|A4<|Ak Y (fun he=>by cases he)<|fun he=>AC<|AA<|Zx<|Zg<|Zm Y<|Ya (n:=1) Y Y<|B2 Y<|DG (e:=[(3,_),(5,_)]) (h:=by exact ⟨i+1,B,_,_,sv,so,MM,V,⟨by omega,Z,by omega,j5,j3,p8,xh qb o9 l5 ek⟩,V,V⟩)
 refine BA<|Zt<|Zt<|AX<|Zx<|Zq<|Cc (s1:=so) (s2:=MM) Wo Wo ?_;refine Zg<|Zm Y<|An Y<|AO rfl results5 Y (by exact ⟨B,_,Z,by omega,by rw [o9,Kx A0],KU j3 A0 p8,rfl⟩)
structure QI where
 a:Int
 b:Int
 c:Int
 d:Int
 e:Int
def dB(n:Int):Prop:=-9223372036854775808<=n/\n<=9223372036854775807
def QI.fits(z:QI):Prop:=dB z.a/\dB z.b/\dB z.c/\dB z.d/\dB z.e
def QI.q(z:QI):QM:=Gh z.a z.b z.c z.d z.e
theorem QI.ok(z:QI):BH z.q:=gZ _ _ _ _ _
def ZA(M:List A8)(v:A2)(ys:List QI):Prop:=∃p cap,v= .slice p ys.length cap/\(ys.length<=maxLen/\ys.length<=cap)/\∀(i:Nat) (z:QI),ys[i]?=some z->z.fits/\∃g off cur T zz,p=some ⟨g,off,none⟩/\(g,Obj.cells cur T zz)∈M/\off+i*5+5<=cur.size/\cur.extract (off+i*5) (off+i*5+5)=#[I4 z.a,I4 z.b,I4 z.c,I4 z.d,I4 z.e]
def Z7(M:List A8)(v:A2)(ns:List Int):Prop:=∃p cap,v= .slice p ns.length cap/\(ns.length<=maxLen/\ns.length<=cap)/\∀(i:Nat) (n:Int),ns[i]?=some n->dB n/\∃g off cur T zz,p=some ⟨g,off,none⟩/\(g,Obj.cells cur T zz)∈M/\cur[off+i]?=some (I4 n)
end Go.Proofs.YtlkdhannldcfbabGreatDoor
namespace Go.Proofs.YtlkdhannldcfbabGreatDoor
open Go.Proofs.Tryz
open Go Go.RowKit Gw
set_option maxRecDepth 100000
attribute [local irreducible] Gw.At Gw.Nx Gw.Ops
open Go.ChangeShapes Go.WideShapes Go.Deep
theorem ua(g:Addr):g.add 0=g:=by simp [Addr.add]
theorem AD4{w:A5}{a:Addr}{v:A2}(h:w.cell? a=some v):a=⟨a.block,a.off,none⟩:=by
 cases a with|mk b o s=>
 cases s with
 |none=>rfl
 |some s=>
  simp only [World.cell?]at h;split at h<;>simp at h
theorem XQ{w:A5}{g i:Nat}{v:A2}(h:w.cell? ⟨g,i,none⟩=some v):∃cur T z,w.heap[g]?=some (.cells cur T z)/\cur[i]?=some v:=by
 unfold World.cell? at h;simp only at h;split at h
 · rename_i c T z hc
   exact ⟨c,T,z,hc,by simpa using h⟩
 · cases h
section
variable{H:Type}{enc:AM×A2->H}{P:Program}{w:A5}{base:Nat}{held:Bool}
end
def Xj(w:A5):List A8:=(List.range w.heap.size).filterMap fun b=>(w.heap[b]?).map fun o=>(b,o)
theorem X3{w:A5}{b:Nat}{o:Obj}:(b,o)∈Xj w↔w.heap[b]?=some o:=by
 unfold Xj;rw [cV];constructor
 · rintro ⟨a,_,m⟩
   obtain ⟨o',g,h2⟩:=rj.1 m;injection h2 with e1 e2
   subst e1 e2;exact g
 · intro h
   refine ⟨b,?_,by rw [h];rfl⟩;rw [Mb];rcases Fi b w.heap.size with g|g
   · exact g
   · simp [LN g]at h
theorem fJ(w:A5):((Xj w).map (·.1)).Nodup:=by
 have:∀l:List Nat,((l.filterMap fun b=>(w.heap[b]?).map fun o=>(b,o)).map (·.1)).Sublist l:=by
  intro l;induction l with
  |nil=>simp
  |cons a l ih=>
   rw [nb];cases h:w.heap[a]?with
   |none=>simp only [Option.map_none];exact ih.cons a
   |some o=>simp only [PB,Fc];exact ih.cons_cons a
 exact List.Nodup.sublist (this _) lA
def MQ(w:A5)(ks:List Nat):List A8:=(Xj w).filter fun c=>!ks.contains c.1
theorem Mj{w:A5}{g:List Nat}{b:Nat}{o:Obj}(h:w.heap[b]?=some o)(m:b∉g):(b,o)∈MQ w g:=by
 unfold MQ;rw [GF];exact ⟨X3.2 h,by simp [m]⟩
theorem pY{P:Program}{f:FuncId}{args:AN}{v:A2}{w:A5}(L:List A8)(U:∀c∈L,w.heap[c.1]?=some c.2)(hn:(L.map (·.1)).Nodup){H:Hp}(B:H.flatten=L++MQ w (L.map (·.1)))(h:Au P f args H v):
 Calls P f args w fun e O=>e= .returned v/\Below w.heap.size w O:=by
 have K:Sat w (H++[]) w:=by
  refine ⟨V,V,V,?_,?_⟩
  · rw [E7,B,CN,HX]
    refine ⟨hn,?_,?_⟩;· exact List.Nodup.sublist (cC.map _) (fJ w)
    · intro a ha b hb e
      subst e;obtain ⟨c,hc,rfl⟩:=CI.1 hb;unfold MQ at hc;have:=(GF.1 hc).2
      simp only [W3,List.contains_eq_mem,Q1]at this;exact this ha
  · intro p I
    rw [E7,B,CD]at I;rcases I with I|I
    · exact U p I
    · exact X3.1 (GF.1 I).1
 refine Calls.mono (h w [] w K) fun e O he=>?_;rcases he with⟨v',H',rfl,⟨rfl,rfl⟩,m⟩|⟨_,_,_,hf,_⟩
 · refine ⟨rfl,m.os,m.tape,m.output,?_,?_⟩
   · rcases Rg w.heap.size with h0|h0
     · omega
     · have X:w.heap.size -1<w.heap.size:=by omega
       have J:w.heap[w.heap.size -1]?=some w.heap[w.heap.size -1]:=IF X;have:O.heap[w.heap.size -1]?=some w.heap[w.heap.size -1]:=by
        by_cases G:(w.heap.size -1)∈L.map (·.1)
        · obtain ⟨c,hc,G⟩:=CI.1 G
          have g:=m.get c (by rw [E7,B];exact G1 _ hc);have h2:=U c hc
          rw [G]at g h2;rw [g,<-h2,J]
        · exact m.get (_,_) (by rw [E7,B];exact HK _ (Mj J G))
       rcases Fi (w.heap.size -1) O.heap.size with g|g
       · omega
       · rw [LN g]at this;cases this
   · intro k G
     have J:w.heap[k]?=some w.heap[k]:=IF G;by_cases Z:k∈L.map (·.1)
     · obtain ⟨c,hc,rfl⟩:=CI.1 Z
       have g:=m.get c (by rw [E7,B];exact G1 _ hc);rw [g,U c hc]
     · rw [J]
       exact m.get (_,_) (by rw [E7,B];exact HK _ (Mj J Z))
 · exact hf.elim
theorem ZK{P:Program}{w:A5}{n:String}{g:Nat}{cs:AN}(m:P.globalNamed n=some g)(h:w.var? P n=some cs):∃T z,w.heap[g]?=some (.cells cs T z):=by
 unfold World.var? at h;rw [m,LR]at h;split at h
 · rename_i c T z hc
   injection h with e
   subst e;exact ⟨T,z,hc⟩
 · cases h
theorem xR:Tryz.prog.globalNamed "cachetier/digest.round"=some 0:=by kernel_rfl
theorem xH:(Tryz.prog.globals[0]?).map (·.type)=some 364:=by kernel_rfl
theorem c32:Tryz.prog.cellsOf 253=1:=by kernel_rfl
theorem zZ:Tryz.prog.cellsOf 364=64:=by kernel_rfl
theorem uR:Tryz.prog.globalNamed "internal/strconv.uint64pow10"=some 3:=by kernel_rfl
theorem zM:(Tryz.prog.globals[3]?).map (·.type)=some 436:=by kernel_rfl
theorem c64:Tryz.prog.cellsOf 256=1:=by kernel_rfl
theorem zd:Tryz.prog.cellsOf 436=20:=by kernel_rfl
def uZ:List Int:=Dn.map fun x=>(x.toNat:Int)
theorem gU:(Rows.laid_cachetier_digest_round:DataW Unit)=Lib.tabData .u32 uZ:=by kernel_rfl
theorem aL:(uZ.map fun z=>Value.int .u32 z).toArray=(Dn.map CW).toArray:=by kernel_rfl
theorem A41:(Rows.laid_internal_strconv_uint64pow10:DataW Unit)=Lib.tabData .u64 Lib.pow10Tab:=by kernel_rfl
def RF(W:A5)(Tg:AM)(zg:Nat×Nat)(Tp:AM)(zp:Nat×Nat):Prop:=W.heap[0]?=some (.cells (Dn.map CW).toArray Tg zg)/\W.heap[3]?=some (.cells (Lib.pow10Tab.map fun z=>Value.int .u64 z).toArray Tp zp)
theorem A56{a b:String×DataW Unit}{r:List (String×DataW Unit)}{W:A5}(h:laidMet prog (a::b::("internal/strconv.uint64pow10",Rows.laid_internal_strconv_uint64pow10)::("cachetier/digest.round",Rows.laid_cachetier_digest_round)::r) W):
 ∃Tg zg Tp zp,RF W Tg zg Tp zp:=by
 have h1:=h.tail.tail;have h3:=h1.tail
 rw [A41]at h1;rw [gU]at h3;have h2:=Lib.tabIs_of_head uR zM underlying436 W8 c64 zd h1
 have h5:=Lib.tabIs_of_head xR xH cJ Sp c32 zZ h3;unfold Lib.TabIs at h2 h5;rw [aL]at h5;obtain ⟨Tg,zg,hb⟩:=ZK xR h5;obtain ⟨Tp,zp,hc⟩:=ZK uR h2;exact ⟨Tg,zg,Tp,zp,hb,hc⟩
def xC:A2->Bool
 | .string _=>true
 | .slice _ _ _=>true
 | .bool _=>true
 | .int .i64 _=>true
 |_=>false
theorem Ue{W:A5}{J K:AM}{O U:Nat×Nat}(G:RF W J O K U)
 {g i:Nat}{cur:AN}{T:AM}{z:Nat×Nat}(B:W.heap[g]?=some (.cells cur T z)){y:A2}(hc:cur[i]?=some y)(I:xC y=true):g∉ [0,3]:=by
 intro m;simp only [DS,PA,PF]at m;rcases m with m|m
 · subst m
   rw [G.1]at B;injection B with e
   injection e with e1 _ _
   subst e1;rw [fy,E6]at hc;obtain ⟨u,_,rfl⟩:=rj.1 hc;simp [CW,xC]at I
 · subst m
   rw [G.2]at B;injection B with e
   injection e with e1 _ _
   subst e1;rw [fy,E6]at hc;obtain ⟨u,_,rfl⟩:=rj.1 hc;simp [xC]at I
theorem vl{f:FuncId}{args:AN}{v:A2}{W:A5}{g m:AM}{B G:Nat×Nat}(I:RF W g B m G)
 (h:Au prog f args [[(0,.cells (Dn.map CW).toArray g B)],[(3,.cells (Lib.pow10Tab.map fun z=>Value.int .u64 z).toArray m G)],MQ W [0,3]] v):
 Calls prog f args W fun e J=>e= .returned v/\Below W.heap.size W J:=
 pY [(0,.cells (Dn.map CW).toArray g B),(3,.cells (Lib.pow10Tab.map fun z=>Value.int .u64 z).toArray m G)] (by
  intro c hc;simp only [DS,PA,PF]at hc;rcases hc with rfl|rfl
  · exact I.1
  · exact I.2) B7 B7 h
theorem Ik{α:Type}:∀(n:Nat) (p:Nat->α->Prop),(∀i,i<n->∃o,p i o)->∃os:List α,os.length=n/\∀i o,os[i]?=some o->p i o
 |0,_,_=>⟨[],rfl,fun i o h=>by cases h⟩
 |n+1,p,h=>by
  obtain ⟨os,g,h2⟩:=Ik n p (fun i hi=>h i (by omega));obtain ⟨o,m⟩:=h n (by omega);refine ⟨os++[o],by simp [g],fun i o' hi=>?_⟩;rw [sB]at hi;split at hi;· exact h2 i o' hi
  · rename_i hlt
    have:i=n:=by
     have:=(C7.1 hi).1;simp at this;omega
    subst this;rw [g,W5]at hi;simp only [cU,cE]at hi;subst hi;exact m
section
variable{H:Type}{enc:AM×A2->H}{P:Program}{W:A5}{base:Nat}{held:Bool}
theorem OQ{t e:AM}{s I:Nat}{cs:List A2}{x:DataW H×List MemPlace}(ht:P.underlying t=some (.slice e))(hc:P.cellsOf e=s)(hs:0<s)(h:DataW.trod enc P W base (fun _=>true) held I t cs=some x):
 ∃p len cap,cs=[.slice p len cap]/\(len<=maxLen/\len<=cap)/\∀i,i<len->∃B n z,B.length=s/\DataW.trod enc P W base (fun _=>true) held n e B=some z/\
  ∃g o cur T zz,p=some ⟨g,o,none⟩/\W.heap[g]?=some (.cells cur T zz)/\∀j,j<s->cur[o+i*s+j]?=B[j]?:=by
 rcases open_slice ht h with⟨rfl,_⟩|⟨a,len,cap,m,n,D,Pl,rfl,_,hl,hm,hmm,_,hel⟩
 · exact ⟨none,0,0,rfl,⟨CM _,D0 _⟩,fun i hi=>by omega⟩
 · simp only [KK]at hmm
   subst hmm;refine ⟨some a,len,m,V,⟨by omega,hl⟩,fun i hi=>?_⟩;have G:a=⟨a.block,a.off,none⟩:=by
    obtain ⟨cs0,Z,_⟩:=hel 0 A0;rw [hc]at Z;obtain ⟨_,af,gg⟩:=World.cells?_some Z;have g9:=gg 0 hs
    rw [BT (l:=cs0) (i:=0) A0,dt,ua,ua]at g9;exact AD4 g9
   obtain ⟨B,h1,h2⟩:=hel i A0;rw [hc]at h1;obtain ⟨_,K,hg⟩:=World.cells?_some h1;refine ⟨B,n,_,K,h2,?_⟩;have h9:=hg 0 hs
   rw [BT (l:=B) (i:=0) A0,G,Cb,Cb]at h9;obtain ⟨cur,T,zz,hb,_⟩:=XQ h9;refine ⟨a.block,a.off,cur,T,zz,by rw [<-G],hb,fun j hj=>?_⟩;have O:=hg j hj
   rw [BT (l:=B) (i:=j) A0]at O⊢;rw [G,Cb,Cb]at O;obtain ⟨X,T2,ax,J,U⟩:=XQ O;rw [hb]at J;injection J with e
   injection e with e1 _ _
   rw [e1];exact U
end
theorem rB:Tryz.prog.cellsOf 3=1:=by kernel_rfl
theorem zc:Tryz.prog.cellsOf 81=6:=by kernel_rfl
theorem bC{H:Type}{enc:AM×A2->H}{W:A5}{base:Nat}{held:Bool}{Tg Tp:AM}{zg zp:Nat×Nat}(h4:RF W Tg zg Tp zp){I:Nat}{cs:List A2}{x:DataW H×List MemPlace}(h:DataW.trod enc prog W base (fun _=>true) held I 22 cs=some x):
 ∃v xs,cs=[v]/\XX (MQ W [0,3]) v xs:=by
 obtain ⟨p,len,cap,rfl,hl,X⟩:=OQ ey zc B0 h;obtain ⟨xs,h1,h2⟩:=Ik len (fun i (z:List Int)=>z.length=6/\(∀n∈z,-9223372036854775808<=n/\n<=9223372036854775807)/\∃g o cur T zz,p=some ⟨g,o,none⟩/\(g,Obj.cells cur T zz)∈MQ W [0,3]/\∀(j:Nat) (n:Int),z[j]?=some n->cur[o+i*6+j]?=some (I4 n)) (fun i hi=>by
  obtain ⟨B,n,z,cu,ht,g,o,cur,T,zz,hp,hb,hc⟩:=X i hi;obtain ⟨ys,m,_,_,_,d9,hf⟩:=DataW.trod_array mN ht;obtain ⟨ns,bn,U⟩:=Ik 6 (fun j (n:Int)=>(-9223372036854775808<=n/\n<=9223372036854775807)/\B[j]?=some (I4 n)) (fun j G=>by
   have f:=hf j G;rw [rB,O2,BT A0]at f;have K:j<B.length:=by omega
   have e:(B.drop j).take 1=[B[j]]:=by rw [TX K];rfl
   rw [e]at f;obtain ⟨k,Z,_,af⟩:=DataW.trod_int D3 f;injection Z with Z _
   exact ⟨k,bounds_i64 af,by rw [BT K,Z]⟩)
  have J:∀(j:Nat) (n:Int),ns[j]?=some n->cur[o+i*6+j]?=some (I4 n):=fun j n G=>by
   have cO:=(C7.1 G).1;rw [hc j A0];exact (U j n G).2
  obtain ⟨n0,ax⟩:∃n,ns[0]?=some n:=⟨_,BT A0⟩;exact ⟨ns,bn,fun n O=>by
   obtain ⟨j,G⟩:=HU O;exact (U j n G).1,g,o,cur,T,zz,hp,Mj hb (Ue h4 hb (J 0 n0 ax) V),J⟩)
 subst h1;exact ⟨_,xs,V,p,cap,V,hl,h2⟩
open Go.ChangeShapes Go.WideShapes Go.Deep
theorem yw:Tryz.prog.cellsOf 47=5:=by kernel_rfl
theorem pW{l:List A2}(h:l.length=5):∃a b c d e,l=[a,b,c,d,e]:=by
 match l,h with
 |[a,b,c,d,e],_=>exact ⟨a,b,c,d,e,rfl⟩
theorem om{H:Type}{enc:AM×A2->H}{W:A5}{base:Nat}{held:Bool}{B:Nat}{l:List A2}{x:DataW H×List MemPlace}(h:DataW.trod enc prog W base (fun _=>true) held B 47 l=some x)(hl:l.length=5):
 ∃a b c d e:Int,l=[I4 a,I4 b,I4 c,I4 d,I4 e]/\(-9223372036854775808<=a/\a<=9223372036854775807)/\(-9223372036854775808<=b/\b<=9223372036854775807)/\(-9223372036854775808<=c/\c<=9223372036854775807)/\(-9223372036854775808<=d/\d<=9223372036854775807)/\(-9223372036854775808<=e/\e<=9223372036854775807):=by
 obtain ⟨ys,m,_,_,_,af,hf⟩:=DataW.trod_array cP h;have g:∀j,j<5->∃n:Int,l[j]?=some (I4 n)/\-9223372036854775808<=n/\n<=9223372036854775807:=fun j g=>by
  have f:=hf j g;rw [rB,O2,BT A0]at f;have G:j<l.length:=by omega
  have e:(l.drop j).take 1=[l[j]]:=by rw [TX G];rfl
  rw [e]at f;obtain ⟨k,X,_,Z⟩:=DataW.trod_int D3 f;injection X with X _
  exact ⟨k,by rw [BT G,X],bounds_i64 Z⟩
 obtain ⟨v0,v1,v2,v3,v4,rfl⟩:=pW hl;obtain ⟨a,ha,I⟩:=g 0 B0;obtain ⟨b,hb,J⟩:=g 1 B0;obtain ⟨c,hc,K⟩:=g 2 B0;obtain ⟨d,hd,O⟩:=g 3 B0;obtain ⟨e,he,U⟩:=g 4 B0;simp at ha hb hc hd he;subst ha hb hc hd he;exact ⟨a,b,c,d,e,V,I,J,K,O,U⟩
end Go.Proofs.YtlkdhannldcfbabGreatDoor
namespace Go.Proofs.YtlkdhannldcfbabGreatDoor
open Go.Proofs.Tryz
open Go Go.RowKit Gw
set_option maxRecDepth 100000
attribute [local irreducible] Gw.At Gw.Nx Gw.Ops
def O5(c:Chg):Prop:=(1<=c.k/\c.k<=9)/\(0<=c.t/\c.t<=2)
theorem sD(rs:List AV)(n m:Nat):O5 (Rj rs n m):=by
 have g:=ir n (show 0<3 by decide);have h2:=ir (n/3) (show 0<9 by decide)
 refine ⟨⟨?_,?_⟩,?_,?_⟩;· show(1:Int)<=((1+n/3%9:Nat):Int);omega
 · show((1+n/3%9:Nat):Int)<=9;omega
 · show(0:Int)<=((n%3:Nat):Int);omega
 · show((n%3:Nat):Int)<=2;omega
theorem Uu(rs:List AV)(z:List Int):∀k,∀c∈GX rs z k,O5 c
 |0,c,hc=>by simp [GX]at hc
 |k+1,c,hc=>by
  have g:=Uu rs z k;unfold GX W9 at hc;split at hc;· exact g c hc
  · rw [CD,CD,CH]at hc
    rcases hc with(hc|rfl)|hc
    · exact g c (RW hc)
    · exact sD _ _ _
    · exact g c (MT hc)
theorem X6:∀(xs:List (List Int)) (L:List (List Chg)),(∀cs∈L,∀c∈cs,O5 c)->∀cs∈xs.foldl Na L,∀c∈cs,O5 c
 |[],_,h=>h
 |z::xs,L,h=>by
  rw [XS];refine X6 xs _ fun cs g=>?_;unfold Na at g;split at g
  · rcases CD.1 g with h1|h1
    · exact h cs h1
    · rw [CH.1 h1];exact Uu _ _ 3
  · exact h cs g
theorem A67(xs:List (List Int)):∀cs∈UM xs,∀c∈cs,O5 c:=X6 xs [] fun cs h=>by simp at h
def RO(r:AV):Prop:=1<=r.k/\r.k<=9
theorem A36{rs:List AV}{c:Chg}(h:∀r∈rs,RO r)(hc:O5 c):∀r∈ER rs c,RO r:=fun r g=>by
 unfold ER at g;rw [CD,CD]at g;rcases g with(g|g)|g
 · exact h r (RW g)
 · obtain ⟨_,rfl⟩:=Mi.1 g;exact hc.1
 · exact h r (MT (MT g))
theorem Tq:∀(cs:List Chg) (rs:List AV),(∀r∈rs,RO r)->(∀c∈cs,O5 c)->∀r∈DT rs cs,RO r
 |[],_,h,_=>h
 |c::cs,rs,h,hc=>Tq cs (ER rs c) (A36 h (hc c (Fo ..))) fun d g=>hc d (GB _ g)
theorem WL:∀(l:List BF) (rs:List AV),(∀r∈rs,RO r)->(∀x∈l,∀c∈x.cs,O5 c)->∀r∈l.foldl (fun rs r=>DT rs r.cs) rs,RO r
 |[],_,h,_=>h
 |x::l,rs,h,hc=>WL l _ (Tq x.cs rs h (hc x (Fo ..))) fun y hy=>hc y (GB _ hy)
theorem A22{l:List BF}(h:∀x∈l,∀c∈x.cs,O5 c):∀r∈BQ l,RO r:=WL l [] (fun r g=>by simp at g) h
theorem mh:∀(l:List Int) (a b:Int),l.Pairwise (·<·)->(∀x∈l,a<=x/\x<=b)->(l.length:Int)<=max (b -a+1) 0
 |[],_,_,_,_=>by simp;omega
 |x::l,a,b,hp,h=>by
  obtain ⟨g,h2⟩:=SD.1 hp;have hx:=h x (Fo ..)
  have m:=mh l (x+1) b h2 fun y hy=>⟨by have:=g y hy;omega,(h y (GB _ hy)).2⟩;rw [F2];omega
theorem AF4{rs:List AV}(K:BM rs)(I:∀r∈rs,RO r)(t:Int):(rs.filter fun r=>decide (r.t=t)).length<=9:=by
 have m:((rs.filter fun r=>decide (r.t=t)).map (·.k)).Pairwise (·<·):=by
  rw [X1];refine List.Pairwise.imp_of_mem ?_ (List.Pairwise.filter _ K);intro a b B G g;have O:=IH (GF.1 B).2
  have tb:=IH (GF.1 G).2;rcases g with h|⟨_,h⟩
  · omega
  · exact h
 have h2:=mh _ 1 9 m fun x hx=>by
  obtain ⟨r,J,rfl⟩:=CI.1 hx;exact I r (GF.1 J).1
 rw [Bk]at h2;omega
theorem XK{α:Type}{f g:α->Bool}(h:∀x,f x=true->g x=true):∀l:List α,(l.filter f).length<=(l.filter g).length
 |[]=>D0 _
 |x::l=>by
  have m:=XK h l;rw [dr,dr];split
  · rename_i h1
    rw [Ax (h x h1),F2,F2];omega
  · split
    · rw [F2];omega
    · exact m
structure rI(l:List BF):Prop where
 b:Np l
 nine:∀a,a<=l.length->∀q,(CU (BQ (l.take a)) q).length<=9
theorem vc{l:List BF}(G:EY l)(m:l.length<=20){xs:List (List Int)}(J:l.map BF.cs=UM xs):rI l:=by
 refine ⟨G.toB m,fun a K q=>?_⟩;have g:∀x∈l.take a,∀c∈x.cs,O5 c:=fun x hx c hc=>A67 xs x.cs (by rw [<-J];exact Fk (RW hx)) c hc
 have I:=AF4 (G.rows a K).1 (A22 g) q.tb;have h2:=(Ec (BQ (l.take a)) q.tb q.cl.toNat q.lo q.hi).length_eq
 unfold CU;rw [h2];refine SZ ?_ I;refine XK (fun r B=>?_) _;unfold inR at B;simp only [HA,Ge]at B⊢;exact B.1
theorem rI.rows{l:List BF}(h:rI l)(q:QM):∀b,b<=l.length->(Cj (BQ (l.take b)) q).rows.length<=18:=fun b g=>by
 have m:=rF (BQ (l.take b)) q;have h2:=h.nine b g q
 omega
theorem zA.yes{l:List BF}{P:Nat}{c d:CZ}{q:QM}{tn:Int}{a n:Nat}{b:Bool}(m:zA l P c d q tn a n b)(h:P<=a):b=true:=by
 rcases m with⟨_,_,g⟩|⟨g,_⟩
 · exact absurd (WR h) g
 · exact g
theorem wX{M:List A8}{p:BE}{cap:Nat}{ys:List QI}(h:ZA M (.slice p ys.length cap) ys){i:Nat}{z:QI}(hz:ys[i]?=some z):z.fits/\∃g off cur T zz,p=some ⟨g,off,none⟩/\(g,Obj.cells cur T zz)∈M/\off+i*5+5<=cur.size/\cur.extract (off+i*5) (off+i*5+5)=#[I4 z.a,I4 z.b,I4 z.c,I4 z.d,I4 z.e]:=by
 obtain ⟨G,m,e,_,B⟩:=h;injection e with e1 e2 e3
 subst e1;exact B i z hz
theorem xr{M:List A8}{p:BE}{cap:Nat}{ns:List Int}(h:Z7 M (.slice p ns.length cap) ns){i:Nat}{n:Int}(hn:ns[i]?=some n):dB n/\∃g off cur T zz,p=some ⟨g,off,none⟩/\(g,Obj.cells cur T zz)∈M/\cur[off+i]?=some (I4 n):=by
 obtain ⟨G,m,e,_,B⟩:=h;injection e with e1 e2 e3
 subst e1;exact B i n hn
theorem vW{h:Cw}{x y:BF}{st:Bs}(e:x.p=y.p)(f:x.cs=y.cs):(FW h x st↔FW h y st)/\Ii h x st=Ii h y st:=by
 obtain ⟨p,q,cap,cs⟩:=x;obtain ⟨B,G,g,m⟩:=y;simp only at e f;subst e f;exact ⟨Iff.rfl,V⟩
theorem ku(st:Bs):∀{a b:List BF} {h:Cw},a.map BF.pc=b.map BF.pc->Gp st h a=Gp st h b
 |[],[],_,_=>rfl
 |[],_::_,_,e=>by simp at e
 |_::_,[],_,e=>by simp at e
 |x::a,y::b,h,e=>by
  rw [Fc,Fc]at e;injection e with e1 e2
  injection e1 with e3 e4
  obtain ⟨g,m⟩:=vW (h:=h) (st:=st) e3 e4;show(if FW h x st then Gp st (Ii h x st) a else none)=(if FW h y st then Gp st (Ii h y st) b else none)
  rw [m,ku st e2];by_cases hn:FW h x st;· rw [Ax hn,Ax (g.1 hn)]
  · rw [As hn,As fun B=>hn (g.2 B)]
theorem jg{a b:List BF}{h u:Cw}(e:a.map BF.pc=b.map BF.pc):Hy h a u↔Hy h b u:=by
 unfold Hy;rw [ku u.st e]
theorem AC1{q:QM}{base:Int}{L:List RP}{a b:List BF}(h:a.map BF.pc=b.map BF.pc){x:Nq}(hx:Fh q base L b=some x):Fh q base L a=some {x with recs:=a}:=by
 have m:a.length=b.length:=by
  have g:=congrArg List.length h;rwa [Bk,Bk]at g
 unfold Fh at hx⊢;cases hr:EJ q L with
 |none=>rw [hr]at hx;cases hx
 |some r=>
  rw [hr,LR]at hx;rw [LR,m];split at hx
  · rename_i h9
    rw [Ax h9,NF h];cases hrun:Fs q base 0 (r,base) b with
    |none=>rw [hrun]at hx;cases hx
    |some st=>
     rw [hrun]at hx;injection hx with hx
     subst hx;simp
  · cases hx
theorem tC{l:List BF}(I:Np l)(Z:l.length<=20){P:Nat}{c:CZ}(h:Ip l P c){x:ItM}(hx:x∈c.its){a:Nat}(ha:x.base=(a:Int))(J:a<=P){B:Nq}{K:List BF}(hz:B=⟨x.q,x.res,x.since,c.pos,x.base,x.L,K⟩)(m:K.map BF.pc=(Dj c.pos x.base c.win).map BF.pc):
 Jl (E8 l a) (E8 l P) B/\(∀v,v≠B.res.val->¬Jl (E8 l a) (E8 l P) {B with res:={B.res with val:=v}})/\EJ B.q B.ranges=some (Cj (BQ (l.take a)) x.q)/\(∀y∈B.ranges,y.small)/\B.ranges.length<=1000000/\(∀r∈B.recs,r.cs.length<=1000):=by
 have hq:=h.ok.its.q x hx;have cu:=h.le
 obtain ⟨g,e1,e2,e3,e4,_⟩:=h.at I hx;obtain rfl:g=a:=by omega
 obtain ⟨f0,_,_,f1⟩:=e4 J;rw [h.pos,ha,NC h.win J f0]at m;have X:=I.start e2 hq
 have ax:=Ws (l:=l) (a:=g) h.le;have U:RB l g P x.q=some ⟨x.q,x.res,x.since,(P:Int),(g:Int),EN (BQ (l.take g)) x.q,G5 l g P⟩:=by
  unfold RB;rw [Kt X A0,f1,PB,ax,show(g:Int)+((P -g:Nat):Int)=(P:Int) by omega]
 have af:=eT I.ok Z J h.le hq U;obtain ⟨k1,k2,k3,k4,_⟩:=af;have O:Fh x.q (g:Int) (EN (BQ (l.take g)) x.q) K=some ⟨x.q,x.res,x.since,(P:Int),(g:Int),EN (BQ (l.take g)) x.q,K⟩:=AC1 m U
 have bn:K.map BF.key=(G5 l g P).map BF.key:=m;rw [hz,h.pos,ha,e3];refine ⟨⟨k1,k2,(jg m).2 k3,k4,_,O,⟨V,V,V,V,V,V,V⟩⟩,fun v hv hc=>?_,X,bH (I.ok.rows g e2).1 (I.ok.rows g e2).2 x.q,by have:=I.make_len e2 x.q;show(EN _ _).length<=_;omega,mU m (A45 I.ok g P)⟩;obtain ⟨_,_,_,_,b,g1,g2⟩:=hc;have G:Fh x.q (g:Int) (EN (BQ (l.take g)) x.q) K=some b:=g1
 rw [O]at G;injection G with G
 subst G;exact hv (congrArg C8.val g2.2.2.2.2.1)
structure Nn(l:List BF)(P:Nat)(Q:List QM)(nx:Nat)(c:CZ):Prop where
 law:Ip l P c
 qs:∀x∈c.its,x.q∈Q
 bs:∀x∈c.its,x.base<=(P:Int)
 sz:∀e∈c.PL,e.sz<=19
 cap:c.z.cap=500
 ns:c.ns=1
 next:c.next<=(nx:Int)
theorem Nn.len{l:List BF}{P:Nat}{Q:List QM}{nx:Nat}{c:CZ}(h:Nn l P Q nx c):c.its.length<=Q.length:=by
 have g:=Pp h.law.ok.its.keys (b:=Q.map fun q=>str (DI q)) fun k m=>by
  obtain ⟨x,hx,rfl⟩:=CI.1 m;exact Fk (h.qs x hx)
 rwa [Bk,Bk]at g
theorem Nn.room{l:List BF}{P:Nat}{Q:List QM}{nx:Nat}{c:CZ}(h:Nn l P Q nx c)(m:Q.length<=6):1+((18:Nat):Int)<=c.z.fr:=by
 have g:=Y5 h.law.ok.tookb h.sz;have h2:=h.len
 rw [h.cap]at g;omega
theorem Nn.put{l:List BF}{P:Nat}{Q:List QM}{nx:Nat}{c d:CZ}(h:Nn l P Q nx c)(I:Ip l P d)(G:c.like d)(hn:d.next<=c.next+1){q:QM}(J:q∈Q){tn:Int}{b:Bool}(m:zA l P c d q tn P 18 b):Nn l P Q (nx+1) d:=by
 have h2:=h.next;have g:∀x∈d.its,x∈c.its\/(x.q=q/\x.base=(P:Int)):=fun x hx=>by
  rcases m with⟨_,rfl,_⟩|⟨_,_,_,⟨rfl,_⟩|⟨_,y,e,e1,e2,_⟩⟩
  · exact .inl hx
  · exact .inl hx
  · rw [e]at hx
    rcases CD.1 hx with hx|hx
    · exact .inl (GF.1 hx).1
    · rw [CH.1 hx];exact .inr ⟨e1,e2⟩
 refine ⟨I,fun x hx=>?_,fun x hx=>?_,fun e B=>?_,G.cap.trans h.cap,G.ns.trans h.ns,by push_cast;omega⟩
 · rcases g x hx with h9|⟨h9,_⟩
   · exact h.qs x h9
   · rw [h9];exact J
 · rcases g x hx with h9|⟨_,h9⟩
   · exact h.bs x h9
   · rw [h9];exact Z1 _
 · rcases m with⟨_,rfl,_⟩|⟨_,_,h3,_⟩
   · exact h.sz e B
   · rcases h3 e B with h9|h9
     · exact h.sz e h9
     · omega
theorem Nn.apply{l:List BF}{P:Nat}{Q:List QM}{nx:Nat}{c d:CZ}(h:Nn l P Q nx c)(m:Ip l (P+1) d){p:Int}{cs:List Chg}{q2:BE}{cap2:Nat}{zs:List CA}(g:Hz c d p cs q2 cap2 zs):Nn l (P+1) Q nx d:=by
 have hx:∀y∈d.its,∃x∈c.its,y.q=x.q/\y.base=x.base:=fun y hy=>by
  obtain ⟨_,x,hx,hc,_⟩:=g.i1 y hy;obtain ⟨_,_,e1,_,e2,_⟩:=IX hc;exact ⟨x,hx,e1,e2⟩
 refine ⟨m,fun y hy=>?_,fun y hy=>?_,fun e B=>h.sz e (g.PL e B),g.zcap.trans h.cap,g.ns.trans h.ns,by rw [g.next];exact h.next⟩
 · obtain ⟨x,hx,e,_⟩:=hx y hy
   rw [e];exact h.qs x hx
 · obtain ⟨x,hx,_,e⟩:=hx y hy
   have:=h.bs x hx;rw [e];push_cast;omega
theorem Nn.more{l:List BF}{P:Nat}{Q:List QM}{nx nx':Nat}{c:CZ}(h:Nn l P Q nx c)(hn:nx<=nx'):Nn l P Q nx' c:=⟨h.law,h.qs,h.bs,h.sz,h.cap,h.ns,by have:=h.next;omega⟩
theorem Gn(l:List BF)(n:Nat):(FI l n).length=n:=by unfold FI;rw [Bk,cX]
theorem qO{l:List BF}{j:Nat}{v:A2}{s:List A8}(h:BU 3 66 v (j+1) (EQ (FI l (j+1))) s):BU 3 66 v ((FI l j).length+1) (EQ (FI l j++[E8 l j])) s:=by
 rw [Gn,<-Mq];exact h
theorem jY{l:List BF}{j:Nat}{r:BF}(g:l[j]?=some r){v:A2}{s:List A8}(h:BU 3 66 v ((FI l j).length+2) (EQ (FI l j++[E8 l j,⟨r.p,Hq (E8 l j).ch (G9 r.p r.cs),Ll (BQ (l.take (j+1)))⟩])) s):BU 3 66 v (j+1+1) (EQ (FI l (j+1+1))) s:=by
 rw [Gn]at h;rw [Mq,Mq,Oa g,DH];exact h
theorem dE{l:List BF}{n:Nat}{p:BE}{cap:Nat}{s:List A8}(h:BU 3 66 (.slice p (n+1) cap) (n+1) (EQ (FI l (n+1))) s)(hn:n<=1000):Z9 s (.slice p (FI l (n+1)).length cap) (FI l (n+1)):=jZ (e:=66) (by rw [Gn];exact h) (by rw [Gn];have g:maxLen=9223372036854775807:=rfl;omega)
theorem XG(l:List BF){n a:Nat}(h:a<=n):(FI l (n+1))[a]?=some (E8 l a):=by
 unfold FI;rw [E6,Wr A0];rfl
theorem A27(g mb:Nat)(m:AM)(B:Nat×Nat):Au prog 7 #[I5 g] [[(0,.cells (Dn.map CW).toArray m B)],[(g,.cells #[.map (some mb),I4 0] 100 (0,0))],[(mb,.map #[] 0)]] (.string (str (Ll []))):=Jc (lN _ 0 [] [(g,.cells #[.map (some mb),I4 0] 100 (0,0)),(mb,.map #[] 0)] ⟨g,mb,#[],0,[],rfl,EU _,bG,List.Pairwise.nil,CM _,rfl⟩ List.Pairwise.nil (CM _) (fun r G=>by simp at G) m B) [] B7
set_option maxHeartbeats 4000000 in
theorem A38{Mx:List A8}{vx:A2}{xs:List (List Int)}(hX:XX Mx vx xs){vy:A2}{ys:List QI}(hY:ZA Mx vy ys){va:A2}{ns:List Int}(hN:Z7 Mx va ns)(Tg:AM)(zg:Nat×Nat)(Tp:AM)(zp:Nat×Nat):Au prog 3 #[vx,vy,va] [[(0,.cells (Dn.map CW).toArray Tg zg)],[(3,.cells (Lib.pow10Tab.map fun z=>Value.int .u64 z).toArray Tp zp)],Mx] (.bool true):=by
 have hml:=mL;obtain ⟨px,capx,rfl,⟨hxl1,hxl2⟩,hgx⟩:=id hX;have wz:=A15 hX (min xs.length 12) (Nat.min_le_left _ _)
 have hxk:(xs.take (min xs.length 12)).length<=12:=by rw [Cd];omega
 obtain ⟨py,capy,rfl,⟨hyl1,hyl2⟩,hgy⟩:=id hY;obtain ⟨pa,capa,rfl,⟨hal1,hal2⟩,hga⟩:=id hN;obtain ⟨Q,hQ⟩:∃Q,Q=(ys.take 6).map QI.q:=⟨_,rfl⟩;have wo:Q.length<=6:=by rw [hQ,Bk,Cd];omega
 refine Se func3 ntmps3 [0,1,2] ?_;intro u R;refine A3<|AH Y<|A3<|Xr [] Y call4 Y V (xK Tg zg Tp zp)<|AH Y<|AK Y<|Zm Y<|Zv (AR ey Y)<|Zv (Qr (n:=12) Y Y)<|BX (Bn ey sizeOf81 Y Y A0)<|Zc [_] Y call5 Y V (vB wz A0) ?_;rintro _ _ ⟨_,⟨l,sl,g,hll,zl,Z,rfl⟩,rfl⟩;have hl16:l.length<=12:=by omega
 have hK:=vc g A0 zl;have hB:=hK.b
 obtain ⟨pl,cl,rfl,hlc,hgl⟩:=id Z;refine AH Y<|A3<|Zc [] Y call8 Y V (uK) ?_;rintro _ _ ⟨_,⟨Y2,T9,rfl,rfl⟩,rfl⟩;refine Xr [_] Y call7 Y V (A27 Y2 T9 Tg zg)<|Zc [_] Y call6 Y V (xf _ (NL _)) ?_;rintro _ _ ⟨_,⟨xp,gh,rfl,rfl⟩,rfl⟩;refine Zm Y<|Zd Y V<|Zd Y V<|Za Y<|B2 Y<|Zn [1,2,7,8,9,10] ?_;refine Zx<|B8 Y<|Zv (Cm (n:=0) Y Y)<|A4<|Ak Y (fun k1=>?_) (fun k1=>?_);·
  exact absurd V k1
 refine AC<|C6<|Ze (Ah (vs:=[_]) (cs:=[_]) DP A6 HT Y V rfl V rfl V)<|AF fun gs=>Zc [_,_,_] Y call9 Y V (uQ (sh:=[50]) (aJ gs (I4 50)) 0 500 B0 B0 B0 B0 B0) ?_;rintro _ _ ⟨_,⟨c0,rfl,y5,⟨X,l8,MK⟩,zu,qj,qb,ic,rfl⟩,rfl⟩;have L0:Ip l 0 c0:=⟨y5,zu,CM _,by rw [MK];exact Sl l 0,fun x G=>by rw [X]at G;cases G⟩
 refine Zm Y<|Zd Y V<|Zd Y V<|Za Y<|AH Y<|B8 Y<|Zv (Cm (n:=0) Y Y)<|A4<|Ak Y (fun k2=>?_) (fun k2=>?_);·
  exact absurd V k2
 refine B3<|Zq<|A3<|AH Y<|AQ<|Bc<|Zb [13,1,2,7,8,9,11] ?_;refine Aw (e0:=[(13,_)]) (fun m e H=>∃(j:Nat) (c:CZ) (rs:List BF) (vr vh:A2) (sr sh:List A8),m=l.length+1 -j/\(j<=l.length+1/\Nn l (min j l.length) Q (6*j) c/\c.cp=c0.cp/\rs.length=min j l.length/\BU 3 66 vh (min j l.length+1) (EQ (FI l (min j l.length+1))) sh/\BU 2 55 vr rs.length (Da rs) sr)/\e=[(13,I4 (j:Int))]/\H=[c.mem,[(xp,.cells #[vr,vh] 93 (0,0))],sr,sh]) (by exact ⟨0,c0,[],.slice none 0 0,I6 gh 1 1,[],[(gh,.cells #[I4 0,.string (str Xd),.string (str (Ll []))] 66 (0,0))],rfl,⟨CM _,by rw [Nat.zero_min];exact ⟨L0,(fun x G=>by rw [X]at G;cases G),(fun x G=>by rw [X]at G;cases G),(fun e he=>by rw [l8]at he;cases he),ic,qb,by rw [qj];exact Z1 _⟩,rfl,by rw [Nat.zero_min];rfl,by rw [Nat.zero_min];exact H6 3 _ gh 1 _ rfl B0,Bh 2 _⟩,rfl,rfl⟩) Wp ?_;rintro _ _ _ ⟨j,c,rs,vr,vh,sr,sh,rfl,⟨hj,O,af,ax,I,qz⟩,rfl,rfl⟩;refine B8 Y<|Zm Y<|Zv (AR G2 Y)<|Zv (Wx Y Y)<|A4<|Ak Y (fun p9=>?_) (fun p9=>?_);·
  rw [show min j l.length=j by omega]at O ax I;rw [<-af];refine B3<|Zq<|AQ<|Zb [1,2,7,8,9,11,13] ?_;refine CP (e0:=[]) (H0:=[c.mem]) (fun e H=>∃(c8:CZ),(Nn l j Q (6*j+6) c8/\c8.cp=c.cp)/\e=[]/\H=[c8.mem]) Wp ?hx_2 ?hy_2
  case hx_2=>
   refine A3<|AH Y<|AQ<|Zb [14,1,2,7,8,9,11,13] ?_;refine Aw (e0:=[(14,_)]) (fun m e H=>∃(i:Nat) (c9:CZ),m=ys.length -i/\((i<=ys.length/\i<=6)/\Nn l j Q (6*j+i) c9/\c9.cp=c.cp)/\e=[(14,I4 (i:Int))]/\H=[c9.mem]) (by exact ⟨0,c,V,⟨⟨CM _,CM _⟩,O.more A0,V⟩,V,V⟩) Wp ?_;rintro _ _ _ ⟨i,c9,rfl,⟨⟨hi,hi6⟩,B,d9⟩,rfl,rfl⟩;refine B8 Y<|Zm Y<|Zv (AR q4 Y)<|Zv (Ap Y Y)<|Zm Y<|Af (t:=61) Y V (fun h1=>?_) (fun h1=>?_);focus
    refine Zf Y Y<|Yg (Ap (n:=6) Y Y)<|C1 Y Y<|A4<|Ak Y (fun h2=>?_) (fun h2=>?_);focus
     refine B3<|Zq<|AQ<|A3<|AH Y<|Zb [15,1,2,7,8,9,11,13,14] ?_;refine CP (e0:=[(15,_)]) (H0:=[]) (fun e H=>∃(a:Nat),(a<=l.length)/\e=[(15,I4 (a:Int))]/\H=[]) Wp ?hx_4 ?hy_4
     case hx_4=>
      refine AK Y<|Zm Y<|Zv (AR DP Y)<|Zv (Ap Y Y)<|A4<|Ak Y (fun h3=>?_) (fun h3=>?_);focus
       obtain ⟨n9,j3⟩:∃n,ns[i]?=some n:=⟨_,BT A0⟩;obtain ⟨⟨q9,qa⟩,gn,offn,curn,Tn,zn,Gw,zq,yt⟩:=xr hN j3;rw [Gw];refine Zg<|Zm Y<|Zm Y<|BX (Bg DP A6 Y Y (by first|omega|decide|exact D0 _|(simp;done)|(simp;omega)))<|Bu (HY Wo (zq)) (BK AE Y yt) rfl rfl<|Zm Y<|Zv (AR G2 Y)<|Ya (n:=1) Y Y<|Xr [_,_] Y ZS Y rfl (JU n9 (l.length+1) A0 A0 q9 qa) ?_;have hpk:=EL n9 (l.length+1) A0
       refine Za Y<|Z0 ?_
      rotate_left
      focus
       refine AC ?_
      all_goals
       refine HB (e:=[(15,_)]) (h:=by exact ⟨_,by omega,V,V⟩)
     rintro _ _ ⟨a,ha,rfl,rfl⟩;refine AK Y<|Zm Y<|Zv (CJ Y Y)<|A4<|Ak Y (fun x9=>?_) (fun x9=>?_);·
      obtain ⟨z5,sj⟩:∃z,ys[i]?=some z:=⟨_,BT A0⟩;obtain ⟨⟨⟨f1,f2⟩,⟨f3,f4⟩,⟨f5,f6⟩,⟨f7,f8⟩,f9,vo⟩,gy,offy,cury,Ty,zy,Hf,zt,hszy,p8⟩:=wX hY sj;have HZ:z5.q∈Q:=by rw [hQ];exact Fk (Ek (i:=i) (by rw [HR,Ax A0];exact sj))
      rw [Hf,<-d9];refine Zg<|Zm Y<|Zm Y<|Zm Y<|Zm Y<|Zm Y<|BX (AZ q4 sizeOf47 Y Y A0)<|Bu (HY Wo (zt)) (A9 (cs:=#[_,_,_,_,_]) isAgg47 sizeOf47 Y A0 p8) V rfl<|Xr [_] Y call13 Y V (A33 z5.a z5.b z5.c z5.d z5.e f1 f2 f3 f4 f5 f6 f7 f8 f9 vo)<|Zc [_,_,_,_] Y call12 Y V (YZ Z g A0 (j) A0 (z5.ok) (hB.scan (j) A0 _) 0 Tg zg) ?_;rintro _ _ ⟨_,⟨E1,pg1,cg1,o8,rfl,rfl⟩,rfl⟩;refine Zc [_,_] Y call11 Y rfl (qu hB B.law z5.ok (k:=0) (by rw [B.ns];decide) B0 (a:=j) A0 o8 (by have:=B.next;omega) (by have:=B.len;omega) (n:=18) (hK.rows _) (B.room wo) Tp zp) ?_;rintro _ _ ⟨_,⟨b,d,rfl,LD,lk,nn,hP,rfl⟩,rfl⟩;have vw:=B.put LD lk nn.2 HZ hP
      rw [<-lk.cp];refine Z0<|Zn [1,2,7,8,9,11,13,14] ?_;refine AA<|Zx<|Zg<|Zm Y<|Ya (n:=1) Y Y<|B2 Y<|HJ (by exact ⟨i+1,d,rfl,⟨⟨by omega,by omega⟩,vw.more A0,by first|rfl|assumption⟩,rfl,rfl⟩)
     refine AC<|AA<|Zx<|Zg<|Zm Y<|Ya (n:=1) Y Y<|B2 Y<|HJ (by exact ⟨i+1,c9,rfl,⟨⟨by omega,by omega⟩,B.more A0,by first|rfl|assumption⟩,rfl,rfl⟩)
   rotate_left
   focus
    refine AG<|B9 Y Y<|A4<|Df Y ?_
   all_goals
    refine BA<|Zt<|Zt<|AX<|Hh (by exact ⟨c9,⟨B.more A0,d9⟩,V,V⟩)
  rintro _ _ ⟨c8,⟨U,o9⟩,rfl,rfl⟩;rw [<-o9];replace af:=o9.trans af;refine AK Y<|Zm Y<|Zv (AR G2 Y)<|Zv (Ap Y Y)<|A4<|Ak Y (fun zi=>?_) (fun zi=>?_);·
   obtain ⟨r,hr⟩:∃r,l[j]?=some r:=⟨_,BT A0⟩;obtain ⟨cO,gm,offm,curm,Tm,zm,Gl,pz,hszm,ek⟩:=um Z hr;obtain ⟨⟨_,zb,zf⟩,zh,_⟩:=Kk g A0 j A0;obtain ⟨qw,qx⟩:=U.law.next hB hr;rw [U.law.pos]at qx;refine AK Y<|Zm Y<|Ya (n:=1) Y Y<|Zc [_,_] Y call14 Y V (uG Z g A0 (j+1) A0) ?_;rintro _ _ ⟨_,⟨vs,ss,rfl,hS,rfl⟩,rfl⟩;obtain ⟨MC,j3⟩:=g.rows (j+1) A0;have ql:=g.rowsOk (j+1) A0
   rw [Gl];refine Zm Y<|Zd Y V<|Zd Y V<|Za Y<|B2 Y<|Zn [1,2,7,8,9,11,13,16,17] ?_;refine Zx<|AK Y<|Zm Y<|Zm Y<|BX (AZ G2 E0 Y Y A0)<|Bu (HY Wo (pz)) (A9 (cs:=#[_,_]) HN E0 Y A0 ek) V rfl<|Zc [_,_] Y call15 Y V (jL hB U.law hr cO) ?_;rintro _ _ ⟨_,⟨d,q2,cap2,gz,tv,sT,rfl,LD,hA,hrw,rfl⟩,rfl⟩;have vz:=U.apply LD hA
   rw [<-hA.cp];refine Zm Y<|Zd Y V<|Zd Y V<|Za Y<|CT Y<|Ay (n:=17) (0::1::3::7::15::31::63::127::127::127::895::1919::127::4223::16383::32767::65535::[]) 24576 AD AD V<|A1 0 V (AP Y)<|A1 1 V (Cm (n:=0) Y Y)<|A1 2 V (AP Y)<|Cs (t:=114) Y (fun k3=>?_) (fun k3=>?_);·
    rw [DE k3];exact absurd V k3
   rw [DQ k3];refine B4 3 V (AP Y)<|B4 4 V (Cm (n:=0) Y Y)<|A1 5 V (AJ Y Y)<|A1 6 V (AP Y)<|Cs (t:=118) Y (fun k4=>?_) (fun k4=>?_);·
    rw [DE k4];exact absurd V k4
   rw [DQ k4];refine B4 7 V (AP Y)<|B4 8 V (AP Y)<|B4 9 V (AP Y)<|B4 10 V (AZ G2 E0 Y Y A0)<|SN (D':=4095) 11 Y V rfl V (FN Wo (pz)) (A9 (cs:=#[_,_]) HN E0 Y A0 ek) ?_;refine B4 12 V (AP Y)<|Yz 13 4223 16383 [11] [true] [(11,(_,_))] V Y V rfl V rfl (Zu [_] Y call7 Y V (lN _ _ _ _ hS MC j3 ql Tg zg)) ?_;rintro _ _ ⟨rfl,rfl⟩;refine ⟨FP (by simp [*]) (Ab),?_⟩;refine Zz (l:=[14])<|BW [false] [] rfl rfl (Zw [_,_,_] Y call16 Y rfl (pU xp (FI l j) (E8 l j) rs vr vh sr sh r.p r.q r.cap r.cs (Ll (BQ (l.take (j+1)))) sl cO qw (by rw [zh];exact qx) zb zf (NL _) (qO I) qz (by rw [Gn];omega) A0 Tg zg)) ?_ Bv Aj;rintro _ _ ⟨_,⟨rfl,vr1,vh1,sr1,Ta,q1,sO,sq1,hsq1,r9,qo,rfl⟩,rfl⟩;refine C3<|B4 15 V (Cm (n:=0) Y Y)<|A1 16 V (AJ Y Y)<|Aq<|Zn [1,2,7,8,9,11,13,128] ?_;refine Zx<|Ak Y (fun k5=>?_) (fun k5=>?_);·
    exact absurd V k5
   refine AC<|AA<|Zx<|Zg<|Zm Y<|Ya (n:=1) Y Y<|B2 Y<|DG (e:=[(13,_)]) (h:=by exact ⟨j+1,d,rs++[⟨r.p,q1,sO,r.cs⟩],vr1,vh1,sr1,Ta,rfl,⟨by omega,by rw [show min (j+1) l.length=j+1 by omega];exact vz.more A0,by first|rfl|assumption,by rw [C0,ax,show min (j+1) l.length=j+1 by omega];rfl,by rw [show min (j+1) l.length=j+1 by omega];exact jY hr qo,BZ r9 (by rw [C0];rfl) rfl⟩,rfl,rfl⟩)
  refine AC<|AA<|Zx<|Zg<|Zm Y<|Ya (n:=1) Y Y<|B2 Y<|DG (e:=[(13,_)]) (h:=by exact ⟨j+1,c8,rs,vr,vh,sr,sh,rfl,⟨by omega,by rw [show min (j+1) l.length=j by omega];exact U.more A0,by first|rfl|assumption,by rw [ax];omega,by rw [show min (j+1) l.length=j by omega];exact I,qz⟩,rfl,rfl⟩)
 rw [show min j l.length=l.length by omega]at O ax I;obtain ⟨qh,kv,rfl⟩:=I.form;refine BA<|Zt<|Zt<|AX<|Zx<|Zq ?_;rw [<-af];refine Zg<|Zm Y<|Zc [_] Y call17 Y V (u7 O.law.ok.tookb) ?_;rintro _ _ ⟨_,⟨zs,sk,sJ,hzs,j5,rfl⟩,rfl⟩;have Qe:=sJ.length_eq
 rw [Bk]at Qe;have Qd:=O.law.ok.its.len
 obtain ⟨pk,ck,rfl⟩:=j5.form;simp only [Bk];rw [Bk]at j5;refine CT Y<|A3<|AH Y<|AQ<|Zb [21,7,9,11,20] ?_;refine Aw (e0:=[(21,_)]) (fun m e H=>∃(i:Nat),m=zs.length -i/\(i<=zs.length)/\e=[(21,I4 (i:Int))]/\H=[]) (by exact ⟨0,V,CM _,V,V⟩) Wp ?_;rintro _ _ _ ⟨i,rfl,hi9,rfl,rfl⟩;refine B8 Y<|Zm Y<|Zv (AR DO Y)<|Zv (Ap Y Y)<|A4<|Ak Y (fun pq=>?_) (fun pq=>?_);·
  obtain ⟨k9,pg⟩:∃k,zs[i]?=some k:=⟨_,BT A0⟩;obtain ⟨x,hx,rfl⟩:=CI.1 (sJ.mem_iff.1 (Ek pg));obtain ⟨gk,capk,l5,zk,MJ,rfl,hsk,y9⟩:=aI j5 (n:=zs.length) (by rw [Bk]) A0;injection MJ with hv1 hv2 hv3
  subst hv1 hv3;have za:l5[i]?=some (.string x.key):=by rw [y9 i A0,E6,pg];rfl
  obtain ⟨a9,e1,e2,_⟩:=O.law.at hB hx;refine B3<|Zq<|AQ<|AK Y<|Zm Y<|Zm Y<|BX (Bd DO FG Y Y (by first|omega|decide|exact D0 _|(simp;done)|(simp;omega)))<|Zl H3 Y (hv:=by exact za)<|Zc [_,_] Y call18 Y rfl (SS O.law.ok hx (by rw [e1,O.law.pos];omega)) ?_;rintro _ _ ⟨_,⟨z,l9,s9,bn,FT,sw,rfl,rfl⟩,rfl⟩;obtain ⟨c1,c2,c3,c4,c5,c6⟩:=tC hB A0 O.law hx e1 e2 bn FT;have cu:z.a.base=(a9:Int):=by rw [bn];exact e1
  have sM:z.a.until_=(l.length:Int):=by rw [bn];exact O.law.pos
  have ME:=((O.law.ok.all x hx).live O.law.ok.tookb).wv;have Rl:z.a.res.val=x.res.val:=by rw [bn]
  rw [<-Rl]at ME;refine Zm Y<|Zd Y V<|Zd Y V<|Ze (Al NO #[_,_,_,_,_,_,_,_,_,_,_,_,_,_,_])<|AF fun ba=>Xe (Xw KB #[I4 z.a.q.kd,I4 z.a.q.tb,I4 z.a.q.cl,I4 z.a.q.lo,I4 z.a.q.hi,I4 z.a.q.bq,I4 z.a.q.ot,.slice z.rp z.a.res.rows.length z.rc,I4 z.a.res.val,.bool z.a.res.fnd,I4 z.a.since,I4 z.a.until_,I4 z.a.base,.slice z.gp z.a.ranges.length z.gc,.slice z.cp z.a.recs.length z.cc])<|B2 Y<|Zn [7,9,11,20,21,22,23] ?_;refine Zx<|AK Y<|Zh 12 HH V rfl A6 Y<|Zl AE Y ?_;rw [cu];have J:=lg xp vr qh kv (FI l (l.length+1)) sh (dE I A0) a9 (E8 l a9) (XG l A0)
  rw [Gn]at J;refine Xr [_,_] Y call19 Y V (J)<|Zm Y<|Zd Y V<|Zd Y V<|Ze (Al ON #[_,_,_])<|AF fun bh1=>Xe (Xw HM #[I4 (E8 l a9).p,.string (str (E8 l a9).ch),.string (str (E8 l a9).st)])<|AH Y<|AK Y<|Zh 11 HH V rfl A6 Y<|Zl AE Y ?_;rw [sM];have K:=lg xp vr qh kv (FI l (l.length+1)) sh (dE I A0) l.length (E8 l l.length) (XG l A0)
  rw [Gn]at K;refine Xr [_,_] Y call19 Y V (K)<|Zm Y<|Zd Y V<|Zd Y V<|Ze (Al ON #[_,_,_])<|AF fun bh2=>Xe (Xw HM #[I4 (E8 l l.length).p,.string (str (E8 l l.length).ch),.string (str (E8 l l.length).st)])<|B2 Y<|Zn [7,9,11,20,21,22,23,24,25,26,27] ?_;refine Zx<|Zq<|Zq ?_;obtain ⟨gq,sQ⟩:∃h,h=E8 l a9:=⟨_,rfl⟩;obtain ⟨gQ,ve⟩:∃h,h=E8 l l.length:=⟨_,rfl⟩;rw [<-sQ,<-ve]at c1 c2⊢;rw [<-sM,<-cu];refine Zg<|Zm Y<|Zv (Bo Y)<|Zm Y<|Ad (t:=162) Y V (fun g1=>by cases g1)<|fun g1=>Zf Y Y<|Yg (Bo Y)<|B9 Y Y<|Zm Y<|Ad (t:=166) Y V (fun g2=>by cases g2)<|fun g2=>Zf Y Y<|Yg (Bo Y)<|B9 Y Y<|Zm Y<|Ad (t:=170) Y V (fun g3=>by cases g3)<|fun g3=>D6 Y Wh (A9 (cs:=#[_,_,_]) Lo HM Y (by exact D0 _) (Az rfl)) rfl rfl<|D6 Y Wh (A9 (cs:=#[_,_,_]) Lo HM Y (by exact D0 _) (Az rfl)) rfl rfl<|D6 Y Wh (A9 (cs:=#[_,_,_,_,_,_,_,_,_,_,_,_,_,_,_]) Z3 KB Y (by exact D0 _) (Az rfl)) rfl rfl<|Xr [_,_,_] Y call20 Y rfl (mX gq gQ sw c4 c5 (by rw [cu];omega) c6 c3 Tg zg) ?_;rw [DE c1];refine Yg (Bo Y)<|B9 Y Y<|Z0<|Zn [7,9,11,20,21,22,24,26,176] ?_;refine Zx<|AY Y (fun g4=>by cases g4)<|fun g4=>AC<|C6<|Zo Wh (A9 (cs:=#[I4 z.a.q.kd,I4 z.a.q.tb,I4 z.a.q.cl,I4 z.a.q.lo,I4 z.a.q.hi,I4 z.a.q.bq,I4 z.a.q.ot,.slice z.rp z.a.res.rows.length z.rc,I4 z.a.res.val,.bool z.a.res.fnd,I4 z.a.since,I4 z.a.until_,I4 z.a.base,.slice z.gp z.a.ranges.length z.gc,.slice z.cp z.a.recs.length z.cc]) Z3 KB Y (by exact D0 _) (Az V))<|Ze (Al NO #[_,_,_,_,_,_,_,_,_,_,_,_,_,_,_])<|AF fun bb=>Xe (Xw KB #[I4 z.a.q.kd,I4 z.a.q.tb,I4 z.a.q.cl,I4 z.a.q.lo,I4 z.a.q.hi,I4 z.a.q.bq,I4 z.a.q.ot,.slice z.rp z.a.res.rows.length z.rc,I4 z.a.res.val,.bool z.a.res.fnd,I4 z.a.since,I4 z.a.until_,I4 z.a.base,.slice z.gp z.a.ranges.length z.gc,.slice z.cp z.a.recs.length z.cc])<|A4<|Zb [7,9,11,20,21,24,26,28] ?_
  refine CP (e0:=[]) (H0:=[[(bb,.cells #[I4 z.a.q.kd,I4 z.a.q.tb,I4 z.a.q.cl,I4 z.a.q.lo,I4 z.a.q.hi,I4 z.a.q.bq,I4 z.a.q.ot,.slice z.rp z.a.res.rows.length z.rc,I4 z.a.res.val,.bool z.a.res.fnd,I4 z.a.since,I4 z.a.until_,I4 z.a.base,.slice z.gp z.a.ranges.length z.gc,.slice z.cp z.a.recs.length z.cc] 62 (0,0))]]) (fun e H=>∃(w:Ox),(w=({z with a:={z.a with res:={z.a.res with val:=z.a.res.val+1}}}:Ox))/\e=[]/\H=[[(bb,.cells #[I4 w.a.q.kd,I4 w.a.q.tb,I4 w.a.q.cl,I4 w.a.q.lo,I4 w.a.q.hi,I4 w.a.q.bq,I4 w.a.q.ot,.slice w.rp w.a.res.rows.length w.rc,I4 w.a.res.val,.bool w.a.res.fnd,I4 w.a.since,I4 w.a.until_,I4 w.a.base,.slice w.gp w.a.ranges.length w.gc,.slice w.cp w.a.recs.length w.cc] 62 (0,0))]]) Wp ?hx_16 ?hy_16
  case hx_16=>
   refine Zg<|Zh 7 HH V rfl C5 Y<|Zv (Ar (off:=1) FA V rfl A6 Y)<|Zl AE Y<|Yi Y Y<|Zh 7 HH V rfl C5 Y<|Zv (Ar (off:=1) FA V rfl A6 Y)<|Xe (Zs A6 Y Y V (hi:=by(simp;done)))<|Z0<|Hh (by exact ⟨({z with a:={z.a with res:={z.a.res with val:=z.a.res.val+1}}}:Ox),V,V,V⟩)
  rintro _ _ ⟨w,hw,rfl,rfl⟩;have Ps:w.ok s9:=by rw [hw];exact sw
  obtain ⟨r3,MB⟩:∃r,EJ z.a.q z.a.ranges=some r:=⟨_,c3⟩;have MP:EJ w.a.q w.a.ranges=some r3:=by rw [hw];exact MB
  have MS:∀y∈w.a.ranges,y.small:=by rw [hw];exact c4
  have P5:w.a.ranges.length<=1000000:=by rw [hw];exact c5
  have P6:∀r∈w.a.recs,r.cs.length<=1000:=by rw [hw];exact c6
  have P7:w.a.base=(a9:Int):=by rw [hw];exact cu
  have Pn:¬Jl gq gQ w.a:=by rw [hw];exact c2 (z.a.res.val+1) A0
  refine A3<|Zo Wh (A9 (cs:=#[_,_,_]) Lo HM Y (by exact D0 _) (Az rfl))<|Zo Wh (A9 (cs:=#[_,_,_]) Lo HM Y (by exact D0 _) (Az rfl))<|Zo Wh (A9 (cs:=#[_,_,_,_,_,_,_,_,_,_,_,_,_,_,_]) Z3 KB Y (by exact D0 _) (Az rfl))<|Xr [_,_,_] Y call20 Y rfl (mX gq gQ Ps MS P5 (by rw [P7];omega) P6 MP Tg zg) ?_;rw [DQ Pn];refine A4<|AY Y (fun g5=>by cases g5)<|fun g5=>AC<|AA<|Zx<|Zg<|Zm Y<|Ya (n:=1) Y Y<|B2 Y<|HJ (by exact ⟨i+1,V,by omega,V,V⟩)
 refine BA<|Zt<|Zt<|AX<|Zx<|AK Y<|An Y<|AO V results3 Y (by exact ⟨V,V⟩)
theorem aY(p:BE)(cap:Nat)(xs:List (List Int))(M:List A8)(U:XX M (.slice p xs.length cap) xs)(G:BE)(cap2:Nat)(ys:List QI)(X:ZA M (.slice G ys.length cap2) ys)(I:BE)(g:Nat)(ns:List Int)(O:Z7 M (.slice I ns.length g) ns)(m:AM)(J:Nat×Nat)(B:AM)(K:Nat×Nat):Au prog 3 #[.slice p xs.length cap,.slice G ys.length cap2,.slice I ns.length g] [[(0,.cells (Dn.map CW).toArray m J)],[(3,.cells (Lib.pow10Tab.map fun z=>Value.int .u64 z).toArray B K)],M] (.bool true):=A38 U X O m J B K
end Go.Proofs.YtlkdhannldcfbabGreatDoor
namespace Go.Proofs.YtlkdhannldcfbabGreatDoor
open Go.Proofs.Tryz
open Go Go.RowKit Gw
set_option maxRecDepth 100000
attribute [local irreducible] Gw.At Gw.Nx Gw.Ops
open Go.ChangeShapes Go.WideShapes Go.ChangeAt
theorem YP{P:Program}{f:FuncId}{g:Func}{s:ChangeSpec}{c:OpenClaim}(h0:c.wf (OpenSpec.ofChange s)=true)(h1:laidOutB P=true)(h2:mapsRowed P=true)(h3:g.params.all (P.readableRec ·)=true)(h4:namedTie P c.named s.vars=true)(h5:(c.stops== [])=true)(h6:(P.stops== [])=true)(h7:(c.knobs== [])=true)(h8:(P.stopKnobs== [])=true)(h9:(c.inPlace==P.inPlace f)=true)(m:(c.unfollowed==P.unfollowed f)=true)(B:(c.recurses==P.recurses f)=true)(G:(c.named==P.varsNamed f)=true)(I:(c.maps==(g.params.toList++s.plain.varTypes P).any (P.mapsRec ·))=true)(J:(c.ifaces==(g.params.toList++s.plain.varTypes P).any (P.ifacesRec ·))=true)(K:(c.mapsOut==P.mapsAmong g.resultTypes.toList)=true)(O:(c.loops==(g.params.toList++s.plain.varTypes P).any (P.loopsFrom ·))=true)(U:(c.wideKeys==(g.params.toList++s.plain.varTypes P++g.resultTypes.toList).any (P.wideKeysFrom ·))=true)(X:s.vars.all (P.varReadable ·)=true)(Z:g.resultTypes.all (fun t=>P.readableRec t&&decide (t<P.types.size))=true)(af:(c.ifacesOut==g.resultTypes.toList.any (P.ifacesRec ·))=true)(ax:(c.loopsOut==g.resultTypes.toList.any (P.loopsFrom ·))=true)(bn:(c.plainKeys==P.plainKeys)=true)(cu:c.shortTexts.isNone=true)(cO:P.stopsHeard=true)(d9:P.mayEnter=true)(ek:(c.lifted==P.liftsFinal)=true)(gm:(P.make==some c.make)=true)(gq:(c.kinds==(if c.domain.isEmpty then []else g.params.toList.map fun t=>match P.underlying t with|some (.int k)=>some k|_=>none))=true)(gy:(c.pinned==c.pinnedBy)=true)(gQ:(c.veiled==(g.params.toList++s.plain.varTypes P++g.resultTypes.toList).any (P.veiledRec ·))=true)(ic:c.veiledFits P g.params.toList (g.params.toList++s.plain.varTypes P++g.resultTypes.toList)=true):joinedFacts P f g s c=true:=by
 unfold joinedFacts;simp only [Ge];exact ⟨⟨⟨⟨⟨⟨⟨⟨⟨⟨⟨⟨⟨⟨⟨⟨⟨⟨⟨⟨⟨⟨⟨⟨⟨⟨⟨⟨⟨⟨⟨h0,h1⟩,h2⟩,h3⟩,h4⟩,h5⟩,h6⟩,h7⟩,h8⟩,h9⟩,m⟩,B⟩,G⟩,I⟩,J⟩,K⟩,O⟩,U⟩,X⟩,Z⟩,af⟩,ax⟩,bn⟩,cu⟩,cO⟩,d9⟩,ek⟩,gm⟩,gq⟩,gy⟩,gQ⟩,ic⟩
end Go.Proofs.YtlkdhannldcfbabGreatDoor
namespace Go.Proofs.YtlkdhannldcfbabGreatDoor
open Go.Proofs.Tryz
open Go Go.RowKit Gw
set_option maxRecDepth 100000
attribute [local irreducible] Gw.At Gw.Nx Gw.Ops
open Go.ChangeShapes Go.WideShapes Go.Deep
theorem AA1{cur:AN}{o:Nat}{a b c d e:Int}(h:∀(j:Nat) (n:Int),[a,b,c,d,e][j]?=some n->cur[o+j]?=some (I4 n)):o+5<=cur.size/\cur.extract o (o+5)=#[I4 a,I4 b,I4 c,I4 d,I4 e]:=by
 have g:=h 4 e rfl;have m:=(Iv.1 g).1
 refine ⟨by omega,Array.ext_getElem? fun i=>?_⟩;rw [eS];by_cases hi:i<5
 · rw [Ax A0]
   rcases (by omega:i=0\/i=1\/i=2\/i=3\/i=4)with rfl|rfl|rfl|rfl|rfl
   · exact h 0 a rfl
   · exact h 1 b rfl
   · exact h 2 c rfl
   · exact h 3 d rfl
   · exact h 4 e rfl
 · rw [As A0]
   exact (LN Kd).symm
theorem bD{H:Type}{enc:AM×A2->H}{W:A5}{base:Nat}{held:Bool}{Z Tp:AM}{zg zp:Nat×Nat}(h4:RF W Z zg Tp zp){m:Nat}{cs:List A2}{x:DataW H×List MemPlace}(h:DataW.trod enc prog W base (fun _=>true) held m 23 cs=some x):
 ∃v xs,cs=[v]/\ZA (MQ W [0,3]) v xs:=by
 obtain ⟨p,len,cap,rfl,hl,K⟩:=OQ q4 yw B0 h;obtain ⟨xs,h1,h2⟩:=Ik len (fun i (z:QI)=>z.fits/\∃g o cur T zz,p=some ⟨g,o,none⟩/\(g,Obj.cells cur T zz)∈MQ W [0,3]/\o+i*5+5<=cur.size/\cur.extract (o+i*5) (o+i*5+5)=#[I4 z.a,I4 z.b,I4 z.c,I4 z.d,I4 z.e]) (fun i hi=>by
  obtain ⟨af,n,z,G,ht,g,o,cur,T,zz,hp,U,hc⟩:=K i hi;obtain ⟨a,b,c,d,e,rfl,ha,I,J,hd,he⟩:=om ht G;have B:∀(j:Nat) (n:Int),[a,b,c,d,e][j]?=some n->cur[o+i*5+j]?=some (I4 n):=fun j n X=>by
   have O:=(C7.1 X).1;rw [hc j (by simpa using O)];have h9:([a,b,c,d,e].map (Value.int .i64))[j]?=some (I4 n):=by rw [E6,X];rfl
   exact h9
  obtain ⟨e1,e2⟩:=AA1 B;exact ⟨⟨a,b,c,d,e⟩,⟨ha,I,J,hd,he⟩,g,o,cur,T,zz,hp,Mj U (Ue h4 U (B 0 a V) V),e1,e2⟩)
 subst h1;exact ⟨_,xs,V,p,cap,V,hl,h2⟩
theorem iy{H:Type}{enc:AM×A2->H}{W:A5}{base:Nat}{held:Bool}{O U:AM}{zg zp:Nat×Nat}(h4:RF W O zg U zp){m:Nat}{cs:List A2}{x:DataW H×List MemPlace}(h:DataW.trod enc prog W base (fun _=>true) held m 24 cs=some x):
 ∃v xs,cs=[v]/\Z7 (MQ W [0,3]) v xs:=by
 obtain ⟨p,len,cap,rfl,hl,B⟩:=OQ DP rB B0 h;obtain ⟨xs,Z,h2⟩:=Ik len (fun i (n:Int)=>dB n/\∃g o cur T zz,p=some ⟨g,o,none⟩/\(g,Obj.cells cur T zz)∈MQ W [0,3]/\cur[o+i]?=some (I4 n)) (fun i hi=>by
  obtain ⟨X,n,z,K,ht,g,o,cur,T,zz,hp,J,hc⟩:=B i hi;obtain ⟨k,rfl,_,G⟩:=DataW.trod_int D3 ht;have h0:cur[o+i]?=some (I4 k):=by have I:=hc 0 B7;rw [O2,Pu]at I;exact I
  exact ⟨k,bounds_i64 G,g,o,cur,T,zz,hp,Mj J (Ue h4 J h0 V),h0⟩)
 subst Z;exact ⟨_,xs,V,p,cap,V,hl,h2⟩
end Go.Proofs.YtlkdhannldcfbabGreatDoor
