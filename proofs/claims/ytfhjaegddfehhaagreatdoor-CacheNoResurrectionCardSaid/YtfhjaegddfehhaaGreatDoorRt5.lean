/- The reference of layer 4: Log, as a function. -/
import Derived.Test.YtfhjaegddfehhaaGreatDoorLd1
import Derived.ProofKit
import Derived.OpenShut
import Derived.Stop.LaidErr
import Derived.Test.YtfhjaegddfehhaaGreatDoorRows
set_option linter.unusedVariables false
set_option linter.unusedSimpArgs false
namespace Go.Proofs.YtfhjaegddfehhaaGreatDoor
open Go.Proofs.Tryz
open Go Go.RowKit Gw
set_option maxRecDepth 100000
attribute [local irreducible] Gw.At Gw.Nx Gw.Ops
set_option maxHeartbeats 4000000 in
theorem wS{M:List AA}{v:Value}{xs:List (List Int)}(hX:WN M v xs)(hx:xs.length<=1000):Ba prog 5 #[v] [M] (fun r H'=>∃(l:List BN) (s:List AA),FB l/\l.length<=xs.length/\l.map BN.cs=TP xs/\EZ s r l/\H'=[s,M]):=by
 have MC:=mL;obtain ⟨px,FT,rfl,MP,zk⟩:=id hX;refine Se func5 ntmps5 [0] ?_;intro u R;refine A0<|A3 Y<|A0<|A3 Y<|A0<|Zc [] Y call19 Y V (zS) ?_;rintro _ _ ⟨_,⟨sp,rfl,rfl⟩,rfl⟩;refine A3 Y<|Zq<|A0<|A3 Y<|AR<|BU<|BU<|BU<|Zb [3,5,0,4] ?_;refine BA (e0:=[(3,_),(5,_)]) (fun m e H=>∃(i:Nat) (B:List BN) (w wo:Value) (sv so MM:List AA),m=xs.length -i/\(i<=xs.length/\FB B/\B.length<=i/\Bc 5 71 w (BZ B).length (Ae (BZ B)) sv/\Bc 2 50 wo B.length (Du B) so/\(∀r∈B,Ck MM (.slice r.q r.cs.length r.cap) r.cs)/\B.map BN.cs=TP (xs.take i))/\e=[(3,wo),(5,I4 (i:Int))]/\H=[[(sp,.cells #[w,I4 (B.length:Int)] 75 (0,0))],sv,so,MM]) (by exact ⟨0,[],.slice none 0 0,.slice none 0 0,[],[],[],V,⟨C0 _,(by intro i r h;cases h),CM _,Bf 5 _,Bf 2 _,by simp,V⟩,V,V⟩) Wp ?_;rintro _ _ _ ⟨i,B,w,wo,sv,so,MM,rfl,⟨hi,bn,MK,j3,ic,o8,lw⟩,rfl,rfl⟩;obtain ⟨qw,qb,rfl⟩:=j3.form;obtain ⟨qo,zF,rfl⟩:=ic.form;obtain ⟨wz,zu⟩:=bn.all;have y9:=Pv j3 A1
 refine Zq<|A0<|Zm Y<|Zm Y<|Zv (AY dd Y)<|Zv (Au Y Y)<|A5<|Aq Y (fun sF=>?_) (fun sF=>?_);·
  obtain ⟨z,q9⟩:∃z,xs[i]?=some z:=⟨_,B3 sF⟩;obtain ⟨h6,l9,g,off,cur,T,zz,rfl,hm,qz⟩:=zk i z q9;refine AC<|Zx<|Zq<|AR<|A0<|A3 Y<|Zq<|A0<|A3 Y<|AR<|BU<|Zb [6,7,0,3,4,5] ?_;refine BA (e0:=[(6,_),(7,_)]) (fun m e H=>∃(k:Nat) (w2:Value) (cs:List Chg) (sl:List AA),m=3 -k/\(k<=3/\cs.length<=k/\Bc 10 62 w2 cs.length (Cj cs) sl/\cs=GJ (BZ B) z k)/\e=[(6,w2),(7,I4 (k:Int))]/\H=[sl]) (by exact ⟨0,.slice none 0 0,[],[],V,⟨C0 _,CM _,Bf 10 _,V⟩,V,V⟩) Wp ?_;rintro _ _ _ ⟨k,w2,cs,sl,rfl,⟨Mx,LD,G,af⟩,rfl,rfl⟩;obtain ⟨gw,cw,rfl⟩:=G.form;have LP:=Ex G
  refine Zq<|A0<|Zm Y<|Zv (Au (n:=3) Y Y)<|A5<|Aq Y (fun hk=>?_) (fun hk=>?_);·
   obtain ⟨za,X⟩:∃n,z[2*k]?=some n:=⟨_,B3 A1⟩;obtain ⟨zb,Z⟩:∃n,z[2*k+1]?=some n:=⟨_,B3 A1⟩;have ME:=l9 za (DE X)
   have MJ:=l9 zb (DE Z);have yt:=qz _ _ X
   have zf:=qz _ _ Z;refine AC<|Zx<|Zq<|AR<|A0<|Zm Y<|Zm Y<|Zm Y<|Bb (F6 (m:=2) Y Y A1)<|Bb (Ac dd sizeOf69 Y Y A1)<|Bb (Cr underlying69 A4 Y Y A1)<|CS (cs:=[(g,.cells cur T zz)]) (by simp [hm]) (BP AD Y (by(rw [N2];exact yt))) V rfl<|A3 Y<|Zb [8,0,3,4,5,6,7] ?_;refine DJ (e0:=[(8,_)]) (H0:=[]) (fun e H=>∃(n:Nat),(n<=9223372036854775807/\n=MU za)/\e=[(8,I4 (n:Int))]/\H=[]) Wp ?hx_3 ?hy_3
   case hx_3=>
    refine A0<|Zm Y<|Zv (Dv Y Y)<|A5<|Aq Y (fun zm=>?_) (fun zm=>?_);·
     refine Zg<|Zm Y<|Yi Y Y ?_;refine Bb (j4 Y (IntWalk.i64_in _ A1))<|AG Y<|Zn [8,0,3,4,5,6,7] ?_;refine BO (e':=[(8,_)]) (by exact ⟨(-(za+1)).toNat,⟨by omega,jb A1⟩,by rw [show(((-(za+1)).toNat:Nat):Int)=0 -(za+1) by omega],rfl⟩)
    refine AC<|Zn [8,0,3,4,5,6,7] ?_;refine BO (e':=[(8,_)]) (by exact ⟨za.toNat,⟨by omega,ja A1⟩,by rw [show((za.toNat:Nat):Int)=za by omega],rfl⟩)
   rintro _ _ ⟨n,⟨hn,ek⟩,rfl,rfl⟩;refine A0<|Zm Y<|Zm Y<|Zm Y<|Bb (F6 (m:=2) Y Y A1)<|Ya (n:=1) Y Y ?_;refine Bb (Ac dd sizeOf69 Y Y A1)<|Bb (Cr underlying69 A4 Y Y A1)<|CS (cs:=[(g,.cells cur T zz)]) (by simp [hm]) (BP AD Y (by(rw [N2];exact zf))) V rfl<|A3 Y<|Zb [9,0,3,4,5,6,7,8] ?_;refine DJ (e0:=[(9,_)]) (H0:=[]) (fun e H=>∃(m:Nat),(m<=9223372036854775807/\m=MU zb)/\e=[(9,I4 (m:Int))]/\H=[]) Wp ?hx_6 ?hy_6
   case hx_6=>
    refine A0<|Zm Y<|Zv (Dv Y Y)<|A5<|Aq Y (fun zq=>?_) (fun zq=>?_);·
     refine Zg<|Zm Y<|Yi Y Y ?_;refine Bb (j4 Y (IntWalk.i64_in _ A1))<|AG Y<|Zn [9,0,3,4,5,6,7,8] ?_;refine BO (e':=[(9,_)]) (by exact ⟨(-(zb+1)).toNat,⟨by omega,jb A1⟩,by rw [show(((-(zb+1)).toNat:Nat):Int)=0 -(zb+1) by omega],rfl⟩)
    refine AC<|Zn [9,0,3,4,5,6,7,8] ?_;refine BO (e':=[(9,_)]) (by exact ⟨zb.toNat,⟨by omega,ja A1⟩,by rw [show((zb.toNat:Nat):Int)=zb by omega],rfl⟩)
   rintro _ _ ⟨m,⟨MB,d9⟩,rfl,rfl⟩;refine A0<|Zm Y<|Bb (FW (n:=3) Y Y A1)<|Zm Y<|Bb (KF (n:=3) Y Y A1 A1)<|Bb (FW (n:=9) Y Y A1)<|Ya (m:=1) Y Y<|Zv (BM (vs:=[(0,_),(1,_)]) (cs:=#[_,_,_,_,_,_,_,_,_,_]) Y (AZ (pl:=#[(0,1),(1,1),(2,1),(3,3),(6,1),(7,3)]) Ln B8 (fun _=>by kernel_rfl) V))<|Ze (Al Ln #[_,_,_,_,_,_,_,_,_,_])<|AE fun cb=>Xe (BL C1 Y Y (by(simp [Value.oneCell',Value.cells];done)) Wu (by exact (rfl:_=(#[I4 ((n%3:Nat):Int),I4 ((1+n/3%9:Nat):Int),.bool false,I4 0,I4 0,I4 0,.bool false,I4 0,I4 0,I4 0]:Array Value))) E6 (by exact CM _) (by exact BB _))<|A5<|A0<|Zm Y<|Zh 0 B8 rfl rfl A4 Y<|Zl AD Y<|Zh 1 B8 rfl rfl A4 Y<|Zl AD Y<|Xr [_,_,_] Y call20 Y rfl (qG sp qw qb (B.length:Int) ((n%3:Nat):Int) ((1+n/3%9:Nat):Int) (BZ B) sv y9 A1 wz) ?_;obtain ⟨K,r9⟩:∃K,K=Fq (BZ B) ((n%3:Nat):Int) ((1+n/3%9:Nat):Int):=⟨_,rfl⟩;rw [<-r9];refine Zm Y<|Zd Y V<|Zd Y V<|Ze (Al DS #[_,_,_,_,_])<|AE fun ob=>Xe (Xw AW #[I4 K.1.t,I4 K.1.k,I4 K.1.v.a,I4 K.1.v.b,I4 K.1.v.c])<|AG Y<|Zn [0,3,4,5,6,7,8,9,10,11,12] ?_;refine Zx<|A0<|Zm Y<|Zh 2 B8 rfl rfl CH Y<|Xe (Zs CH Y Y rfl (hc:=by exact (rfl:_=(#[I4 ((n%3:Nat):Int),I4 ((1+n/3%9:Nat):Int),.bool K.2,I4 0,I4 0,I4 0,.bool false,I4 0,I4 0,I4 0]:Array Value))) (hi:=by(simp;done)))<|A5<|A0<|Zh 2 FF rfl rfl D3 Y<|Zo Wh (Pa #[_,_,_] GS D3 Y)<|Zh 3 B8 rfl rfl D3 Y<|Xe (BL D3 Y Y HK Wu (by exact (rfl:_=(#[I4 ((n%3:Nat):Int),I4 ((1+n/3%9:Nat):Int),.bool K.2,I4 K.1.v.a,I4 K.1.v.b,I4 K.1.v.c,.bool false,I4 0,I4 0,I4 0]:Array Value))) E6 As (by exact BB _))<|A5<|Zb [12,0,3,4,5,6,7,8,9,10] ?_;refine DJ (e0:=[(12,_)]) (H0:=[[(cb,.cells #[I4 ((n%3:Nat):Int),I4 ((1+n/3%9:Nat):Int),.bool K.2,I4 K.1.v.a,I4 K.1.v.b,I4 K.1.v.c,.bool false,I4 0,I4 0,I4 0] 62 (0,0))]]) (fun e H=>∃(hb:Bool),(hb=tY K.2 m)/\e=[]/\H=[[(cb,.cells #[I4 ((n%3:Nat):Int),I4 ((1+n/3%9:Nat):Int),.bool K.2,I4 K.1.v.a,I4 K.1.v.b,I4 K.1.v.c,.bool hb,I4 0,I4 0,I4 0] 62 (0,0))]]) Wp ?hx_9 ?hy_9
   case hx_9=>
    refine Zg<|Zm Y<|Zv (Br Y)<|Zm Y<|Af (t:=77) Y V (fun hh=>?_) (fun hh=>?_);·
     refine A7 Y V<|A7 Y V<|A7 Y V<|Zv (AQ Y Y)<|Zh 6 B8 V rfl CH Y<|Xe (Zs CH Y Y V (hi:=by(simp;done)))<|Z0<|Zn [0,3,4,5,6,7,8,9,10] ?_;refine BO (e':=[]) (H':=[[(cb,.cells #[_,_,_,_,_,_,_,_,_,_] 62 (0,0))]]) ?_;exact ⟨_,by unfold tY;(rw [hh];rfl),V,V⟩
    refine Zf Y Y<|Gu Y (FW (n:=4) Y Y A1) V rfl ?_;refine Yg (DF (n:=0) Y Y)<|Zv (AL Y Y)<|Zh 6 B8 V rfl CH Y<|Xe (Zs CH Y Y V (hi:=by(simp;done)))<|Z0<|Zn [0,3,4,5,6,7,8,9,10] ?_;refine BO (e':=[]) (H':=[[(cb,.cells #[_,_,_,_,_,_,_,_,_,_] 62 (0,0))]]) ?_;exact ⟨_,by unfold tY;(rw [hh];rfl),V,V⟩
   rintro _ _ ⟨hb,qx,rfl,rfl⟩;refine Zb [9,0,3,4,5,6,7,8,10] ?_;refine DJ (e0:=[(9,_)]) (H0:=[[(cb,.cells #[I4 ((n%3:Nat):Int),I4 ((1+n/3%9:Nat):Int),.bool K.2,I4 K.1.v.a,I4 K.1.v.b,I4 K.1.v.c,.bool hb,I4 0,I4 0,I4 0] 62 (0,0))]]) (fun e H=>∃(c:Chg),(c=jX K n m)/\e=[]/\H=[[(cb,.cells c.A57 62 (0,0))]]) Wp ?hx_10 ?hy_10
   case hx_10=>
    refine A0<|Zh 6 B8 V rfl CH Y<|Zl DM Y<|A5<|AX Y (fun o9=>?_) (fun o9=>?_);·
     refine Zg<|Zm Y<|Bb (KF (n:=4) Y Y A1 A1)<|Bb (FW (n:=10) Y Y A1)<|Zm Y<|Bb (KF (n:=40) Y Y A1 A1)<|Bb (FW (n:=9) Y Y A1)<|Ya (m:=1) Y Y<|Zm Y<|Bb (KF (n:=400) Y Y A1 A1)<|Bb (FW (n:=40) Y Y A1)<|Bb (GL Y Y (IntWalk.i64_in _ A1))<|Zv (BM (vs:=[(0,_),(1,_),(2,_)]) (cs:=#[_,_,_]) Y (Da cM HP A4 rfl))<|Zh 7 B8 rfl rfl D3 Y<|Xe (BL D3 Y Y (by(simp [Value.oneCell',Value.cells];done)) Wu AN E6 (by exact CM _) (by exact BB _))<|Z0<|Zn [0,3,4,5,6,7,8,10] ?_;refine BO (e':=[]) (H':=[[(cb,.cells #[_,_,_,_,_,_,_,_,_,_] 62 (0,0))]]) ?_;exact ⟨⟨_,_,_,K.1.v,_,⟨_,_,_⟩⟩,by unfold jX;(rw [<-qx,AM o9];rfl),V,V⟩
    refine AC<|Zn [0,3,4,5,6,7,8,10] ?_;refine BO (e':=[]) (H':=[[(cb,.cells #[_,_,_,_,_,_,_,_,_,_] 62 (0,0))]]) ?_;exact ⟨⟨_,_,_,K.1.v,_,⟨_,_,_⟩⟩,by unfold jX;(rw [<-qx,o9];rfl),V,V⟩
   rintro _ _ ⟨c,qy,rfl,rfl⟩;have cu:c=Qr (BZ B) n m:=by rw [qy,r9];rfl
   refine A0<|A3 Y<|Zq<|A0<|A3 Y<|AR<|Zb [13,14,0,3,4,5,6,7,8,10] ?_;refine BA (e0:=[(13,_),(14,_)]) (fun m e H=>∃(j:Nat) (b:Bool),m=cs.length -j/\(j<=cs.length/\b=(cs.take j).any (SA c))/\e=[(13,.bool b),(14,I4 (j:Int))]/\H=[]) (by exact ⟨0,false,V,⟨C0 _,V⟩,V,V⟩) Wp ?_;rintro _ _ _ ⟨j,b,rfl,⟨hj,I⟩,rfl,rfl⟩;refine Zq<|A0<|Zm Y<|Zm Y<|Zv (AY G1 Y)<|Zv (Au Y Y)<|A5<|Aq Y (fun sj=>?_) (fun sj=>?_);·
    refine AC<|Zx<|Zq<|AR ?_;obtain ⟨y,hy⟩:∃y,cs[j]?=some y:=⟨_,B3 sj⟩;obtain ⟨gl,qa,qj,zl,pq,pg,sw,gy⟩:=E8 G A1;injection pq with hv1 hv2 hv3
    subst hv1 pg;obtain ⟨j5,pz⟩:=ui gy hy;refine Az (n:=22) (0::1::3::3::15::31::63::3::131::511::1023::2047::2047::8191::16383::32767::2047::67583::262143::524287::1048575::2097151::[]) 0 A6 A6 V<|A2 0 V (AP Y)<|A2 1 V (AP Y)<|CU (t:=105) Y (fun ax=>?_) (fun ax=>?_);·
     rw [ax];refine AF 2 V<|AF 3 V<|AF 4 V<|AF 5 V<|AF 6 V<|AF 7 V<|AF 8 V<|AF 9 V<|AF 10 V<|AF 11 V<|AF 12 V<|AF 13 V<|AF 14 V<|AF 15 V<|AF 16 V<|AF 17 V<|AF 18 V<|AF 19 V<|A2 20 V (AQ Y Y)<|A2 21 V (Av Y)<|Ag<|Zn [0,3,4,5,6,7,8,10,13,14] ?_;refine A8<|Zx<|Zg<|Zm Y<|Ya (n:=1) Y Y<|AG Y<|Zn [13,14,0,3,4,5,6,7,8,10] ?_;refine Ab (e':=[(13,_),(14,_)]) (by exact ⟨j+1,_,V,⟨by omega,Xu hy I (by unfold SA;(simp_all;done))⟩,V,V⟩)
    rw [ax];refine An 2 V (AP Y)<|An 3 V (AP Y)<|An 4 V (Ac G1 C1 Y Y A1)<|An 5 V (Ar (off:=0) B8 V rfl A4 Y)<|DH 6 V Wh (BP AD Y (by simpa using j5))<|An 7 V (AB (off:=0) B8 V rfl A4 Y)<|DH 8 V Wh (BP AD Y AN)<|An 9 V (CP Y Y)<|An 10 V (AP Y)<|DX (t:=114) Y (fun ax=>?_) (fun ax=>?_);·
     rw [Cp ax];refine An 11 V (AP Y)<|An 12 V (AP Y)<|An 13 V (Ac G1 C1 Y Y A1)<|An 14 V (Ar (off:=1) B8 V rfl A4 Y)<|DH 15 V Wh (BP AD Y (by simpa using pz))<|An 16 V (AB (off:=1) B8 V rfl A4 Y)<|DH 17 V Wh (BP AD Y AN)<|An 18 V (CP Y Y)<|An 19 V (AQ Y Y)<|A2 20 V (AL Y Y)<|A2 21 V (Av Y)<|Ag<|Zn [0,3,4,5,6,7,8,10,13,14] ?_;refine A8<|Zx<|Zg<|Zm Y<|Ya (n:=1) Y Y<|AG Y<|Zn [13,14,0,3,4,5,6,7,8,10] ?_;refine Ab (e':=[(13,_),(14,_)]) (by exact ⟨j+1,_,V,⟨by omega,Xu hy I (by unfold SA;(simp_all;done))⟩,V,V⟩)
    rw [CN ax];refine AF 11 V<|AF 12 V<|AF 13 V<|AF 14 V<|AF 15 V<|AF 16 V<|AF 17 V<|AF 18 V<|An 19 V (AL Y Y)<|A2 20 V (AL Y Y)<|A2 21 V (Av Y)<|Ag<|Zn [0,3,4,5,6,7,8,10,13,14] ?_;refine A8<|Zx<|Zg<|Zm Y<|Ya (n:=1) Y Y<|AG Y<|Zn [13,14,0,3,4,5,6,7,8,10] ?_;refine Ab (e':=[(13,_),(14,_)]) (by exact ⟨j+1,_,V,⟨by omega,Xu hy I (by unfold SA;(simp_all;done))⟩,V,V⟩)
   have ej:j=cs.length:=by omega
   subst ej;rw [GB]at I;refine Ay<|Zt<|Zt<|AU<|Zx<|Zb [8,13,0,3,4,5,6,7,10] ?_;refine DJ (e0:=[(8,_),(13,_)]) (H0:=[]) (fun e H=>(¬FO cs c k n)/\e=[]/\H=[]) Wp ?hx_15 ?hy_15
   case hx_15=>
    refine A0<|Zm Y<|Zm Y<|Af (t:=126) Y V (fun O=>?_) (fun O=>?_);·
     refine A7 Y V<|A7 Y V<|A7 Y V<|A7 Y V<|A7 Y V<|A7 Y V<|A7 Y V<|A7 Y V<|A7 Y V<|A7 Y V<|A7 Y V<|A7 Y V<|A7 Y V<|Zv (AQ Y Y)<|Zm Y<|A7 Y V<|A7 Y V<|A7 Y V<|A7 Y V<|A7 Y V<|A7 Y V<|A7 Y V<|Zv (AQ Y Y)<|Z0<|Zn [0,3,4,5,6,7,10,149] ?_;refine Zx<|CW Y<|Ay<|Zt<|AU<|Zx<|Zg<|Zm Y<|Ya (n:=1) Y Y<|AG Y<|Zn [6,7,0,3,4,5] ?_;refine Ab (e':=[(6,_),(7,_)]) (by exact ⟨k+1,_,cs,sl,rfl,⟨by omega,by omega,G,KP af X Z ek d9 cu (by first|exact J|(unfold FO;rw [<-I];first|(simp_all;done)|(simp_all;omega)))⟩,rfl,rfl⟩)
    refine Yf 2 B8 V rfl CH Y<|Yl DM Y<|Zf Y Y<|Af (t:=129) Y V (fun O=>?_) (fun O=>?_);·
     refine Yf 6 B8 V rfl CH Y<|Yl DM Y<|Yg (AQ Y Y)<|Zf Y Y<|Af (t:=133) Y V (fun O=>?_) (fun O=>?_);·
      refine Yf 3 B8 V rfl D3 Y<|Dx Y Wh (A9 (cs:=#[_,_,_]) GS D3 Y As AN) V rfl<|Yf 7 B8 V rfl D3 Y<|Dx Y Wh (Pa #[_,_,_] GS D3 Y) V rfl<|Yg (Kk A6 HP C5 AD A4 Y Y) ?_;refine Yg (AQ Y Y)<|Zv (AL Y Y)<|Zm Y<|Aj (t:=141) Y V (fun O=>?_) (fun O=>?_);·
       refine A7 Y V<|A7 Y V<|A7 Y V<|A7 Y V<|A7 Y V<|A7 Y V<|A7 Y V<|Zv (AQ Y Y)<|Z0<|Zn [0,3,4,5,6,7,10,149] ?_;refine Zx<|CW Y<|Ay<|Zt<|AU<|Zx<|Zg<|Zm Y<|Ya (n:=1) Y Y<|AG Y<|Zn [6,7,0,3,4,5] ?_;refine Ab (e':=[(6,_),(7,_)]) (by exact ⟨k+1,_,cs,sl,rfl,⟨by omega,by omega,G,KP af X Z ek d9 cu (by first|exact J|(unfold FO;rw [<-I];first|(simp_all;done)|(simp_all;omega)))⟩,rfl,rfl⟩)
      refine Zf Y Y<|Yg (DF (n:=0) Y Y)<|Zf Y Y<|Aj (t:=144) Y V (fun O=>?_) (fun O=>?_);·
       refine Zf Y Y<|Gu Y (FW (n:=5) Y Y A1) V rfl ?_;refine Yg (Cb (n:=0) Y Y)<|Yg (AQ Y Y)<|Zv (AL Y Y)<|Z0<|Zn [0,3,4,5,6,7,10,149] ?_;refine Zx<|Aq Y (fun gm=>?_) (fun gm=>?_);·
        have J:FO cs c k n:=by unfold FO;rw [<-I];(simp_all;done)
        refine Ay<|Zt<|AU<|Zx<|Zg<|Zm Y<|Ya (n:=1) Y Y<|AG Y<|Zn [6,7,0,3,4,5] ?_;refine Ab (e':=[(6,_),(7,_)]) (by exact ⟨k+1,_,cs,sl,rfl,⟨by omega,by omega,G,KP af X Z ek d9 cu (by first|exact J|(unfold FO;rw [<-I];first|(simp_all;done)|(simp_all;omega)))⟩,rfl,rfl⟩)
       have J:¬FO cs c k n:=by unfold FO;rw [<-I];(simp_all;done)
       refine AC<|Zn [0,3,4,5,6,7,10] ?_;refine BO (e':=[]) (by exact ⟨(by exact J),V,V⟩)
      refine A7 Y V<|A7 Y V<|A7 Y V<|Yg (AL Y Y)<|Zv (AL Y Y)<|Z0<|Zn [0,3,4,5,6,7,10,149] ?_;refine Zx<|DI Y<|AC<|Zn [0,3,4,5,6,7,10] ?_;refine BO (e':=[]) (by exact ⟨(by(unfold FO;rw [<-I];first|(simp_all;done)|(simp_all;omega))),rfl,rfl⟩)
     refine A7 Y V<|A7 Y V<|A7 Y V<|A7 Y V<|A7 Y V<|Yg (AL Y Y)<|Zv (AL Y Y)<|Zm Y<|Zf Y Y<|Yg (DF (n:=0) Y Y)<|Zf Y Y<|Aj (t:=144) Y V (fun O=>?_) (fun O=>?_);·
      refine Zf Y Y<|Gu Y (FW (n:=5) Y Y A1) V rfl ?_;refine Yg (Cb (n:=0) Y Y)<|Yg (AQ Y Y)<|Zv (AL Y Y)<|Z0<|Zn [0,3,4,5,6,7,10,149] ?_;refine Zx<|Aq Y (fun gm=>?_) (fun gm=>?_);·
       have J:FO cs c k n:=by unfold FO;rw [<-I];(simp_all;done)
       refine Ay<|Zt<|AU<|Zx<|Zg<|Zm Y<|Ya (n:=1) Y Y<|AG Y<|Zn [6,7,0,3,4,5] ?_;refine Ab (e':=[(6,_),(7,_)]) (by exact ⟨k+1,_,cs,sl,rfl,⟨by omega,by omega,G,KP af X Z ek d9 cu (by first|exact J|(unfold FO;rw [<-I];first|(simp_all;done)|(simp_all;omega)))⟩,rfl,rfl⟩)
      have J:¬FO cs c k n:=by unfold FO;rw [<-I];(simp_all;done)
      refine AC<|Zn [0,3,4,5,6,7,10] ?_;refine BO (e':=[]) (by exact ⟨(by exact J),V,V⟩)
     refine A7 Y V<|A7 Y V<|A7 Y V<|Yg (AL Y Y)<|Zv (AL Y Y)<|Z0<|Zn [0,3,4,5,6,7,10,149] ?_;refine Zx<|DI Y<|AC<|Zn [0,3,4,5,6,7,10] ?_;refine BO (e':=[]) (by exact ⟨(by(unfold FO;rw [<-I];first|(simp_all;done)|(simp_all;omega))),rfl,rfl⟩)
    refine A7 Y V<|A7 Y V<|Yg (AL Y Y)<|Zf Y Y<|A7 Y V<|A7 Y V<|A7 Y V<|A7 Y V<|A7 Y V<|Yg (AL Y Y)<|Zv (AL Y Y)<|Zm Y<|Zf Y Y<|Yg (DF (n:=0) Y Y)<|Zf Y Y<|Aj (t:=144) Y V (fun O=>?_) (fun O=>?_);·
     refine Zf Y Y<|Gu Y (FW (n:=5) Y Y A1) V rfl ?_;refine Yg (Cb (n:=0) Y Y)<|Yg (AQ Y Y)<|Zv (AL Y Y)<|Z0<|Zn [0,3,4,5,6,7,10,149] ?_;refine Zx<|Aq Y (fun gm=>?_) (fun gm=>?_);·
      have J:FO cs c k n:=by unfold FO;rw [<-I];(simp_all;done)
      refine Ay<|Zt<|AU<|Zx<|Zg<|Zm Y<|Ya (n:=1) Y Y<|AG Y<|Zn [6,7,0,3,4,5] ?_;refine Ab (e':=[(6,_),(7,_)]) (by exact ⟨k+1,_,cs,sl,rfl,⟨by omega,by omega,G,KP af X Z ek d9 cu (by first|exact J|(unfold FO;rw [<-I];first|(simp_all;done)|(simp_all;omega)))⟩,rfl,rfl⟩)
     have J:¬FO cs c k n:=by unfold FO;rw [<-I];(simp_all;done)
     refine AC<|Zn [0,3,4,5,6,7,10] ?_;refine BO (e':=[]) (by exact ⟨(by exact J),V,V⟩)
    refine A7 Y V<|A7 Y V<|A7 Y V<|Yg (AL Y Y)<|Zv (AL Y Y)<|Z0<|Zn [0,3,4,5,6,7,10,149] ?_;refine Zx<|DI Y<|AC<|Zn [0,3,4,5,6,7,10] ?_;refine BO (e':=[]) (by exact ⟨(by(unfold FO;rw [<-I];first|(simp_all;done)|(simp_all;omega))),rfl,rfl⟩)
   rintro _ _ ⟨J,rfl,rfl⟩;refine A0<|Zm Y<|Zv (AY G1 Y)<|A3 Y<|Zb [15,0,3,4,5,6,7,10] ?_;refine DJ (e0:=[(15,_)]) (H0:=[]) (fun e H=>∃(j:Nat),(j<=cs.length/\Q5 cs c cs.length=j)/\e=[(15,I4 (j:Int))]/\H=[]) Wp ?hx_27 ?hy_27
   case hx_27=>
    refine AR<|Zb [15,0,3,4,5,6,7,10] ?_;refine BA (e0:=[(15,_)]) (fun m e H=>∃(j:Nat),m=0+j/\(j<=cs.length/\Q5 cs c j=Q5 cs c cs.length)/\e=[(15,I4 (j:Int))]/\H=[]) (by exact ⟨cs.length,V,⟨CM _,V⟩,V,V⟩) Wp ?_;rintro _ _ _ ⟨j,rfl,⟨hj,U⟩,rfl,rfl⟩;refine Zq<|Zq<|Az (n:=35) (0::1::3::7::7::23::63::127::255::7::519::2047::4095::8191::8191::24575::65535::131071::262143::8191::532479::2097151::4194303::8388607::8388607::25165823::67108863::134217727::268435455::8388607::545259519::2147483647::4294967295::8589934591::17179869183::[]) 0 A6 A6 V<|A2 0 V (AP Y)<|A2 1 V (DF (n:=0) Y Y)<|A2 2 V (AP Y)<|DX (t:=154) Y (fun gB=>?_) (fun gB=>?_);·
     rw [Cp gB];obtain ⟨y,hy⟩:∃y,cs[j -1]?=some y:=⟨_,B3 A1⟩;obtain ⟨gl,qa,qj,zl,pq,pg,sw,gy⟩:=E8 G A1;injection pq with hv1 hv2 hv3
     subst hv1 pg;obtain ⟨j5,pz⟩:=ui gy hy;refine An 3 V (AP Y)<|An 4 V (AP Y)<|An 5 V (CO (n:=1) Y Y A1 A1)<|An 6 V (Ac G1 C1 Y Y A1)<|An 7 V (Ar (off:=0) B8 V rfl A4 Y)<|DH 8 V Wh (BP AD Y (by simpa using j5))<|An 9 V (AB (off:=0) B8 V rfl A4 Y)<|DH 10 V Wh (BP AD Y AN)<|An 11 V (Ev Y Y)<|An 12 V (AP Y)<|DX (t:=164) Y (fun bg=>?_) (fun bg=>?_);·
      rw [Cp bg];refine AF 13 V<|AF 14 V<|AF 15 V<|AF 16 V<|AF 17 V<|AF 18 V<|AF 19 V<|AF 20 V<|AF 21 V<|AF 22 V<|AF 23 V<|AF 24 V<|AF 25 V<|AF 26 V<|AF 27 V<|AF 28 V<|AF 29 V<|AF 30 V<|AF 31 V<|AF 32 V<|An 33 V (AQ Y Y)<|A2 34 V (AQ Y Y)<|Ag<|Zn [0,3,4,5,6,7,10,15,186] ?_;refine Zx<|CW Y<|AC<|Zx<|AR<|Zg<|Zm Y<|Yb (n:=1) Y Y<|AG Y<|A8<|Zn [15,0,3,4,5,6,7,10] ?_;refine Ab (e':=[(15,_)]) (by exact ⟨j -1,V,⟨by omega,(Yh gB hy (by unfold MN;omega)).symm.trans U⟩,V,V⟩)
     rw [CN bg];refine An 13 V (AP Y)<|An 14 V (AP Y)<|An 15 V (CO (n:=1) Y Y A1 A1)<|An 16 V (Ac G1 C1 Y Y A1)<|An 17 V (Ar (off:=0) B8 V rfl A4 Y)<|DH 18 V Wh (BP AD Y (by simpa using j5))<|An 19 V (AB (off:=0) B8 V rfl A4 Y)<|DH 20 V Wh (BP AD Y AN)<|An 21 V (CP Y Y)<|An 22 V (AP Y)<|DX (t:=174) Y (fun bg=>?_) (fun bg=>?_);·
      rw [Cp bg];refine An 23 V (AP Y)<|An 24 V (AP Y)<|An 25 V (CO (n:=1) Y Y A1 A1)<|An 26 V (Ac G1 C1 Y Y A1)<|An 27 V (Ar (off:=1) B8 V rfl A4 Y)<|DH 28 V Wh (BP AD Y (by simpa using pz))<|An 29 V (AB (off:=1) B8 V rfl A4 Y)<|DH 30 V Wh (BP AD Y AN)<|An 31 V (Ev Y Y)<|An 32 V (AQ Y Y)<|An 33 V (AL Y Y)<|A2 34 V (AQ Y Y)<|Ag<|Zn [0,3,4,5,6,7,10,15,186] ?_;refine Zx<|Aq Y (fun zi=>?_) (fun zi=>?_);·
       refine AC<|Zx<|AR<|Zg<|Zm Y<|Yb (n:=1) Y Y<|AG Y<|A8<|Zn [15,0,3,4,5,6,7,10] ?_;refine Ab (e':=[(15,_)]) (by exact ⟨j -1,V,⟨by omega,(Yh gB hy (by unfold MN;omega)).symm.trans U⟩,V,V⟩)
      refine Ay<|Zt<|Zt<|AU<|Zn [15,0,3,4,5,6,7,10] ?_;refine BO (e':=[(15,_)]) (by exact ⟨j,⟨hj,U.symm.trans (by exact Ye A1 hy (by unfold MN;first|omega|(simp_all;omega)))⟩,rfl,rfl⟩)
     rw [CN bg];refine AF 23 V<|AF 24 V<|AF 25 V<|AF 26 V<|AF 27 V<|AF 28 V<|AF 29 V<|AF 30 V<|AF 31 V<|An 32 V (AL Y Y)<|An 33 V (AL Y Y)<|A2 34 V (AQ Y Y)<|Ag<|Zn [0,3,4,5,6,7,10,15,186] ?_;refine Zx<|DI Y<|Ay<|Zt<|Zt<|AU<|Zn [15,0,3,4,5,6,7,10] ?_;refine BO (e':=[(15,_)]) (by exact ⟨j,⟨hj,U.symm.trans (by exact Ye A1 hy (by unfold MN;first|omega|(simp_all;omega)))⟩,rfl,rfl⟩)
    rw [CN gB];refine AF 3 V<|AF 4 V<|AF 5 V<|AF 6 V<|AF 7 V<|AF 8 V<|AF 9 V<|AF 10 V<|AF 11 V<|AF 12 V<|AF 13 V<|AF 14 V<|AF 15 V<|AF 16 V<|AF 17 V<|AF 18 V<|AF 19 V<|AF 20 V<|AF 21 V<|AF 22 V<|AF 23 V<|AF 24 V<|AF 25 V<|AF 26 V<|AF 27 V<|AF 28 V<|AF 29 V<|AF 30 V<|AF 31 V<|AF 32 V<|AF 33 V<|A2 34 V (AL Y Y)<|Ag<|Zn [0,3,4,5,6,7,10,15,186] ?_;refine Zx<|DI Y<|Ay<|Zt<|Zt<|AU<|Zn [15,0,3,4,5,6,7,10] ?_;refine BO (e':=[(15,_)]) (by exact ⟨j,⟨hj,U.symm.trans (by exact qW A1)⟩,V,V⟩)
   rintro _ _ ⟨j,⟨hj,zt⟩,rfl,rfl⟩;refine Az (n:=12) (0::0::0::7::0::16::0::0::192::496::1023::2047::[]) 1568 A6 A6 V<|A2 0 V (AP Y)<|A2 1 V (AP Y)<|A2 2 V (AP Y)<|A2 3 V (Oo G1 C1 Y Y Y A1)<|E7 4 V Wh (Pa #[_,_,_,_,_,_,_,_,_,_] Fk C1 Y)<|A2 6 V (AP Y)<|A2 7 V (AP Y)<|A2 8 V (C9 G1 C1 Y Y A1)<|Yw 5 511 V (Ah (vs:=[_]) (cs:=[_,_,_,_,_,_,_,_,_,_]) G1 C1 Ln Y V rfl V rfl V)<|AE fun gb=>Yw 9 1023 V (BR (by_:=80) (sz:=10) G1 (V:Tryz.prog.info? 62=some Tryz.t62) V rfl V rfl Y (IW 10 62 gb 1 (Cj [c]) V AH) Y (K4 G j (cs.length -j) _ A1) Wo Wo (by exact fun u hu=>PR cs u (J0 hu)) A1 A1) ?_;rintro _ _ ⟨MS,l5,rfl⟩;obtain ⟨Hf,Gl,rfl⟩:=l5.form;refine Yw 10 2047 V (R3 (by_:=80) (sz:=10) G1 (V:Tryz.prog.info? 62=some Tryz.t62) V rfl V rfl Y (K3 G j _ hj) Y (iW l5) Wo Wo A1 A1 A1) ?_;rintro _ _ ⟨P5,l8,rfl⟩;have sJ:=BS l8 (n':=(cs.take j++[c]++cs.drop j).length) (xs':=Cj (cs.take j++[c]++cs.drop j)) (by simp only [B7,C3,C2,E3];omega) (by rw [J4,J4,Ui,Uj,Cd])
   obtain ⟨HZ,Gw,rfl⟩:=l8.form;refine A2 11 V (Av Y)<|Ag<|A8<|Zx<|Zg<|Zm Y<|Ya (n:=1) Y Y<|AG Y<|Zn [6,7,0,3,4,5] ?_;refine Ab (e':=[(6,_),(7,_)]) (by exact ⟨k+1,_,cs.take j++[c]++cs.drop j,_,V,⟨by omega,by simp only [B7,C3,C2,E3];omega,sJ,uf af X Z ek d9 cu J zt⟩,V,V⟩)
  have kv:cs=GJ (BZ B) z 3:=by have e3:k=3:=A1;subst e3;exact af
  refine Ay<|Zt<|Zt<|AU<|Zx<|A0<|Zm Y<|Zp Y V<|Zh 1 IF V rfl A4 Y<|Zl AD Y<|Ya (n:=1) Y Y<|Zm Y<|Zv (BM (vs:=[(0,_),(1,_)]) (cs:=#[_,_]) Y (AZ (pl:=#[(0,1),(1,1)]) Sx G3 (fun _=>by kernel_rfl) V))<|Ze (Al Sx #[_,_])<|AE fun rb=>Xe (BL F0 Y Y (by(simp [Value.oneCell',Value.cells];done)) Wu (by exact (rfl:_=(#[I4 ((B.length:Int)+1),.slice gw cs.length cw]:Array Value))) E6 (by exact CM _) (by exact BB _))<|A5<|A0<|Zm Y<|Zo Wh (Pa #[_,_] HX F0 Y)<|Zc [_,_] Y call21 Y rfl (qH sp (B.length:Int) ((B.length:Int)+1) _ (BZ B) sv sl gw cw cs j3 (QQ G A1) wz zu A1) ?_;rintro _ _ ⟨_,ve,rfl⟩;rcases ve with⟨gF,v2,y5,rfl,vw,rfl⟩|⟨gF,rfl,rfl⟩
  ·
   refine AG Y<|Zn [0,3,4,5,16,17] ?_;refine Zx<|A0<|Zm Y<|Zv (Cb (n:=0) Y Y)<|A5<|Aq Y (fun he=>?_) (fun he=>?_);·
    have p8:FB (B++[⟨(B.length:Int)+1,gw,cw,cs⟩]):=bn.snoc gF (by show cs.length<=3;omega);have p9:(((B++[(⟨(B.length:Int)+1,gw,cw,cs⟩:BN)]).length:Nat):Int)=(B.length:Int)+1:=by rw [B7,E3];omega
    have vz:Bc 5 71 v2 (BZ (B++[⟨(B.length:Int)+1,gw,cw,cs⟩])).length (Ae (BZ (B++[⟨(B.length:Int)+1,gw,cw,cs⟩]))) y5:=by rw [Gi];exact vw
    have ql:∀r∈B++[(⟨(B.length:Int)+1,gw,cw,cs⟩:BN)],Ck (MM++sl) (.slice r.q r.cs.length r.cap) r.cs:=by
     intro r hr;rcases B9.1 hr with hr|hr
     · exact Jl (o8 r hr) sl
     · rw [BT.1 hr];exact H5 (QQ G A1) MM
    refine CK (s1:=MM) (s2:=sl) Wo Wo ?_;refine Zg<|Zm Y<|Zo Wh (Pa #[_,_] HX F0 Y)<|Ze (Ah (vs:=[_]) (cs:=[_,_]) Fo F0 Sx Y V rfl V rfl V)<|AE fun gq=>Ze (BR (by_:=32) (sz:=2) Fo (V:Tryz.prog.info? 50=some Tryz.t50) V rfl V rfl Y (ic) Y (D8 2 gq 1 1 50 (0,0) [I4 ((B.length:Int)+1),.slice gw cs.length cw] V) Wo Wo Fm A1 A1) ?_;rintro _ _ ⟨sO,sM,rfl⟩;have vo:=BS sM (n':=(B++[(⟨(B.length:Int)+1,gw,cw,cs⟩:BN)]).length) (xs':=Du (B++[⟨(B.length:Int)+1,gw,cw,cs⟩])) (by rw [B7,E3]) (by rw [Kc];rfl)
    obtain ⟨gO,cO,rfl⟩:=sM.form;refine AG Y<|A8<|Zx<|Zg<|Zm Y<|Ya (n:=1) Y Y<|AG Y<|Zn [3,5,0,4] ?_;refine Ab (e':=[(3,_),(5,_)]) (by exact ⟨i+1,B++[⟨(B.length:Int)+1,gw,cw,cs⟩],_,_,y5,sO,MM++sl,rfl,⟨by omega,p8,by rw [B7,E3];omega,vz,vo,ql,xD q9 lw kv gF⟩,rfl,by rw [p9]⟩)
   exact absurd V he
  refine AG Y<|Zn [0,3,4,5,16,17] ?_;refine Zx<|A0<|Zm Y<|Zv (Cb (n:=0) Y Y)<|A5<|Aq Y (fun he=>by cases he)<|fun he=>AC<|A8<|Zx<|Zg<|Zm Y<|Ya (n:=1) Y Y<|AG Y<|Zn [3,5,0,4] ?_;refine Ab (e':=[(3,_),(5,_)]) (by exact ⟨i+1,B,_,_,sv,so,MM,V,⟨by omega,bn,by omega,j3,ic,o8,zZ q9 lw kv gF⟩,V,V⟩)
 refine Ay<|Zt<|Zt<|AU<|Zx<|Zq<|CK (s1:=so) (s2:=MM) Wo Wo ?_;refine Zg<|Zm Y<|A3 Y<|AJ<|AO rfl results5 Y (by exact ⟨B,_,bn,by omega,by rw [lw,I2 A1],K6 ic A1 o8,rfl⟩)
end Go.Proofs.YtfhjaegddfehhaaGreatDoor
namespace Go.Proofs.YtfhjaegddfehhaaGreatDoor
open Go.Proofs.Tryz
open Go Go.RowKit Gw
set_option maxRecDepth 100000
attribute [local irreducible] Gw.At Gw.Nx Gw.Ops
open Go.ChangeShapes Go.WideShapes Go.Deep
theorem q5(g:Addr):g.add 0=g:=by simp [Addr.add]
theorem vF{w:World}{a:Addr}{v:Value}(h:w.cell? a=some v):a=⟨a.block,a.off,none⟩:=by
 cases a with|mk b o s=>
 cases s with
 |none=>rfl
 |some s=>
  simp only [World.cell?]at h;split at h<;>simp at h
theorem WF{w:World}{g i:Nat}{v:Value}(h:w.cell? ⟨g,i,none⟩=some v):∃cur T z,w.heap[g]?=some (.cells cur T z)/\cur[i]?=some v:=by
 unfold World.cell? at h;simp only at h;split at h
 · rename_i c T z hc
   exact ⟨c,T,z,hc,by simpa using h⟩
 · cases h
section
variable{H:Type}{enc:TypeId×Value->H}{P:Program}{w:World}{base:Nat}{held:Bool}
end
def WX(w:World):List AA:=(List.range w.heap.size).filterMap fun b=>(w.heap[b]?).map fun o=>(b,o)
theorem Vj{w:World}{b:Nat}{o:Obj}:(b,o)∈WX w↔w.heap[b]?=some o:=by
 unfold WX;rw [Z2];constructor
 · rintro ⟨a,_,m⟩
   obtain ⟨o',g,h2⟩:=nf.1 m;injection h2 with e1 e2
   subst e1 e2;exact g
 · intro h
   refine ⟨b,?_,by rw [h];rfl⟩;rw [Kd];rcases E0 b w.heap.size with g|g
   · exact g
   · simp [I0 g]at h
theorem bN(w:World):((WX w).map (·.1)).Nodup:=by
 have:∀l:List Nat,((l.filterMap fun b=>(w.heap[b]?).map fun o=>(b,o)).map (·.1)).Sublist l:=by
  intro l;induction l with
  |nil=>simp
  |cons a l ih=>
   rw [kk];cases h:w.heap[a]?with
   |none=>simp only [Option.map_none];exact ih.cons a
   |some o=>simp only [N1,DQ];exact ih.cons_cons a
 exact List.Nodup.sublist (this _) iS
def SQ(w:World)(ks:List Nat):List AA:=(WX w).filter fun c=>!ks.contains c.1
theorem TM{w:World}{g:List Nat}{b:Nat}{o:Obj}(h:w.heap[b]?=some o)(m:b∉g):(b,o)∈SQ w g:=by
 unfold SQ;rw [FA];exact ⟨Vj.2 h,by simp [m]⟩
theorem lu{P:Program}{f:FuncId}{args:Array Value}{v:Value}{w:World}(L:List AA)(U:∀c∈L,w.heap[c.1]?=some c.2)(hn:(L.map (·.1)).Nodup){H:Hp}(B:H.flatten=L++SQ w (L.map (·.1)))(h:BH P f args H v):
 Calls P f args w fun e O=>e= .returned v/\Below w.heap.size w O:=by
 have K:Sat w (H++[]) w:=by
  refine ⟨V,V,V,?_,?_⟩
  · rw [DB,B,BW,H3]
    refine ⟨hn,?_,?_⟩;· exact List.Nodup.sublist (TX.map _) (bN w)
    · intro a ha b hb e
      subst e;obtain ⟨c,hc,rfl⟩:=Bm.1 hb;unfold SQ at hc;have:=(FA.1 hc).2
      simp only [SZ,List.contains_eq_mem,Mu]at this;exact this ha
  · intro p I
    rw [DB,B,B9]at I;rcases I with I|I
    · exact U p I
    · exact Vj.1 (FA.1 I).1
 refine Calls.mono (h w [] w K) fun e O he=>?_;rcases he with⟨v',H',rfl,⟨rfl,rfl⟩,m⟩|⟨_,_,_,hf,_⟩
 · refine ⟨rfl,m.os,m.tape,m.output,?_,?_⟩
   · rcases PB w.heap.size with h0|h0
     · omega
     · have X:w.heap.size -1<w.heap.size:=by omega
       have J:w.heap[w.heap.size -1]?=some w.heap[w.heap.size -1]:=HG X;have:O.heap[w.heap.size -1]?=some w.heap[w.heap.size -1]:=by
        by_cases G:(w.heap.size -1)∈L.map (·.1)
        · obtain ⟨c,hc,G⟩:=Bm.1 G
          have g:=m.get c (by rw [DB,B];exact Dg _ hc);have h2:=U c hc
          rw [G]at g h2;rw [g,<-h2,J]
        · exact m.get (_,_) (by rw [DB,B];exact G2 _ (TM J G))
       rcases E0 (w.heap.size -1) O.heap.size with g|g
       · omega
       · rw [I0 g]at this;cases this
   · intro k G
     have J:w.heap[k]?=some w.heap[k]:=HG G;by_cases Z:k∈L.map (·.1)
     · obtain ⟨c,hc,rfl⟩:=Bm.1 Z
       have g:=m.get c (by rw [DB,B];exact Dg _ hc);rw [g,U c hc]
     · rw [J]
       exact m.get (_,_) (by rw [DB,B];exact G2 _ (TM J Z))
 · exact hf.elim
theorem Y5{P:Program}{w:World}{n:String}{g:Nat}{cs:Array Value}(m:P.globalNamed n=some g)(h:w.var? P n=some cs):∃T z,w.heap[g]?=some (.cells cs T z):=by
 unfold World.var? at h;rw [m,I3]at h;split at h
 · rename_i c T z hc
   injection h with e
   subst e;exact ⟨T,z,hc⟩
 · cases h
theorem uA:Tryz.prog.globalNamed "cachetier/digest.round"=some 4:=by kernel_rfl
theorem zB:(Tryz.prog.globals[4]?).map (·.type)=some 416:=by kernel_rfl
theorem c32:Tryz.prog.cellsOf 287=1:=by kernel_rfl
theorem wa:Tryz.prog.cellsOf 416=64:=by kernel_rfl
theorem pN:Tryz.prog.globalNamed "internal/strconv.uint64pow10"=some 1:=by kernel_rfl
theorem v8:(Tryz.prog.globals[1]?).map (·.type)=some 336:=by kernel_rfl
theorem c64:Tryz.prog.cellsOf 289=1:=by kernel_rfl
theorem we:Tryz.prog.cellsOf 336=20:=by kernel_rfl
def pW:List Int:=Et.map fun x=>(x.toNat:Int)
theorem dI:(Rows.laid_cachetier_digest_round:DataW Unit)=Lib.tabData .u32 pW:=by kernel_rfl
theorem YS:(pW.map fun z=>Value.int .u32 z).toArray=(Et.map Cs).toArray:=by kernel_rfl
theorem qV:(Rows.laid_internal_strconv_uint64pow10:DataW Unit)=Lib.tabData .u64 Lib.pow10Tab:=by kernel_rfl
def Xv(W:World)(Tg:TypeId)(zg:Nat×Nat)(Tp:TypeId)(zp:Nat×Nat):Prop:=W.heap[4]?=some (.cells (Et.map Cs).toArray Tg zg)/\W.heap[1]?=some (.cells (Lib.pow10Tab.map fun z=>Value.int .u64 z).toArray Tp zp)
theorem rO{a b:String×DataW Unit}{r:List (String×DataW Unit)}{W:World}(h:laidMet prog (a::b::("internal/strconv.uint64pow10",Rows.laid_internal_strconv_uint64pow10)::("cachetier/digest.round",Rows.laid_cachetier_digest_round)::r) W):
 ∃Tg zg Tp zp,Xv W Tg zg Tp zp:=by
 have h1:=h.tail.tail;have h3:=h1.tail
 rw [qV]at h1;rw [dI]at h3;have h2:=Lib.tabIs_of_head pN v8 underlying336 W6 c64 we h1
 have h5:=Lib.tabIs_of_head uA zB UP Sp c32 wa h3;unfold Lib.TabIs at h2 h5;rw [YS]at h5;obtain ⟨Tg,zg,hb⟩:=Y5 uA h5;obtain ⟨Tp,zp,hc⟩:=Y5 pN h2;exact ⟨Tg,zg,Tp,zp,hb,hc⟩
def tJ:Value->Bool
 | .string _=>true
 | .slice _ _ _=>true
 | .bool _=>true
 | .int .i64 _=>true
 |_=>false
theorem tu{W:World}{J K:TypeId}{O U:Nat×Nat}(G:Xv W J O K U)
 {g i:Nat}{cur:Array Value}{T:TypeId}{z:Nat×Nat}(B:W.heap[g]?=some (.cells cur T z)){y:Value}(hc:cur[i]?=some y)(I:tJ y=true):g∉ [4,1]:=by
 intro m;simp only [D4,RW,RC]at m;rcases m with m|m
 · subst m
   rw [G.1]at B;injection B with e
   injection e with e1 _ _
   subst e1;rw [gx,DO]at hc;obtain ⟨u,_,rfl⟩:=nf.1 hc;simp [Cs,tJ]at I
 · subst m
   rw [G.2]at B;injection B with e
   injection e with e1 _ _
   subst e1;rw [gx,DO]at hc;obtain ⟨u,_,rfl⟩:=nf.1 hc;simp [tJ]at I
theorem xK{f:FuncId}{args:Array Value}{v:Value}{W:World}{g m:TypeId}{B G:Nat×Nat}(I:Xv W g B m G)
 (h:BH prog f args [[(4,.cells (Et.map Cs).toArray g B)],[(1,.cells (Lib.pow10Tab.map fun z=>Value.int .u64 z).toArray m G)],SQ W [4,1]] v):
 Calls prog f args W fun e J=>e= .returned v/\Below W.heap.size W J:=
 lu [(4,.cells (Et.map Cs).toArray g B),(1,.cells (Lib.pow10Tab.map fun z=>Value.int .u64 z).toArray m G)] (by
  intro c hc;simp only [D4,RW,RC]at hc;rcases hc with rfl|rfl
  · exact I.1
  · exact I.2) B0 B0 h
theorem M6{α:Type}:∀(n:Nat) (p:Nat->α->Prop),(∀i,i<n->∃o,p i o)->∃os:List α,os.length=n/\∀i o,os[i]?=some o->p i o
 |0,_,_=>⟨[],rfl,fun i o h=>by cases h⟩
 |n+1,p,h=>by
  obtain ⟨os,g,h2⟩:=M6 n p (fun i hi=>h i (by omega));obtain ⟨o,m⟩:=h n (by omega);refine ⟨os++[o],by simp [g],fun i o' hi=>?_⟩;rw [nt]at hi;split at hi;· exact h2 i o' hi
  · rename_i hlt
    have:i=n:=by
     have:=(BE.1 hi).1;simp at this;omega
    subst this;rw [g,W4]at hi;simp only [Ys,W1]at hi;subst hi;exact m
section
variable{H:Type}{enc:TypeId×Value->H}{P:Program}{W:World}{base:Nat}{held:Bool}
theorem eT{t e:TypeId}{s I:Nat}{cs:List Value}{x:DataW H×List MemPlace}(ht:P.underlying t=some (.slice e))(hc:P.cellsOf e=s)(hs:0<s)(h:DataW.trod enc P W base (fun _=>true) held I t cs=some x):
 ∃p len cap,cs=[.slice p len cap]/\(len<=maxLen/\len<=cap)/\∀i,i<len->∃B n z,B.length=s/\DataW.trod enc P W base (fun _=>true) held n e B=some z/\
  ∃g o cur T zz,p=some ⟨g,o,none⟩/\W.heap[g]?=some (.cells cur T zz)/\∀j,j<s->cur[o+i*s+j]?=B[j]?:=by
 rcases open_slice ht h with⟨rfl,_⟩|⟨a,len,cap,m,n,D,Pl,rfl,_,hl,hm,hmm,_,hel⟩
 · exact ⟨none,0,0,rfl,⟨C0 _,CM _⟩,fun i hi=>by omega⟩
 · simp only [HR]at hmm
   subst hmm;refine ⟨some a,len,m,V,⟨by omega,hl⟩,fun i hi=>?_⟩;have G:a=⟨a.block,a.off,none⟩:=by
    obtain ⟨cs0,Z,_⟩:=hel 0 A1;rw [hc]at Z;obtain ⟨_,af,gg⟩:=World.cells?_some Z;have g9:=gg 0 hs
    rw [B3 (l:=cs0) (i:=0) A1,en,q5,q5]at g9;exact vF g9
   obtain ⟨B,h1,h2⟩:=hel i A1;rw [hc]at h1;obtain ⟨_,K,hg⟩:=World.cells?_some h1;refine ⟨B,n,_,K,h2,?_⟩;have h9:=hg 0 hs
   rw [B3 (l:=B) (i:=0) A1,G,CY,CY]at h9;obtain ⟨cur,T,zz,hb,_⟩:=WF h9;refine ⟨a.block,a.off,cur,T,zz,by rw [<-G],hb,fun j hj=>?_⟩;have O:=hg j hj
   rw [B3 (l:=B) (i:=j) A1]at O⊢;rw [G,CY,CY]at O;obtain ⟨X,T2,ax,J,U⟩:=WF O;rw [hb]at J;injection J with e
   injection e with e1 _ _
   rw [e1];exact U
end
theorem py:Tryz.prog.cellsOf 3=1:=by kernel_rfl
theorem wb:Tryz.prog.cellsOf 69=6:=by kernel_rfl
theorem Z5{H:Type}{enc:TypeId×Value->H}{W:World}{base:Nat}{held:Bool}{Tg Tp:TypeId}{zg zp:Nat×Nat}(h4:Xv W Tg zg Tp zp){I:Nat}{cs:List Value}{x:DataW H×List MemPlace}(h:DataW.trod enc prog W base (fun _=>true) held I 22 cs=some x):
 ∃v xs,cs=[v]/\WN (SQ W [4,1]) v xs:=by
 obtain ⟨p,len,cap,rfl,hl,X⟩:=eT dd wb AH h;obtain ⟨xs,h1,h2⟩:=M6 len (fun i (z:List Int)=>z.length=6/\(∀n∈z,-9223372036854775808<=n/\n<=9223372036854775807)/\∃g o cur T zz,p=some ⟨g,o,none⟩/\(g,Obj.cells cur T zz)∈SQ W [4,1]/\∀(j:Nat) (n:Int),z[j]?=some n->cur[o+i*6+j]?=some (I4 n)) (fun i hi=>by
  obtain ⟨B,n,z,bn,ht,g,o,cur,T,zz,hp,hb,hc⟩:=X i hi;obtain ⟨ys,m,_,_,_,cO,hf⟩:=DataW.trod_array underlying69 ht;obtain ⟨ns,bg,U⟩:=M6 6 (fun j (n:Int)=>(-9223372036854775808<=n/\n<=9223372036854775807)/\B[j]?=some (I4 n)) (fun j G=>by
   have f:=hf j G;rw [py,N2,B3 A1]at f;have K:j<B.length:=by omega
   have e:(B.drop j).take 1=[B[j]]:=by rw [RK K];rfl
   rw [e]at f;obtain ⟨k,Z,_,af⟩:=DataW.trod_int C5 f;injection Z with Z _
   exact ⟨k,bounds_i64 af,by rw [B3 K,Z]⟩)
  have J:∀(j:Nat) (n:Int),ns[j]?=some n->cur[o+i*6+j]?=some (I4 n):=fun j n G=>by
   have cu:=(BE.1 G).1;rw [hc j A1];exact (U j n G).2
  obtain ⟨n0,ax⟩:∃n,ns[0]?=some n:=⟨_,B3 A1⟩;exact ⟨ns,bg,fun n O=>by
   obtain ⟨j,G⟩:=GW O;exact (U j n G).1,g,o,cur,T,zz,hp,TM hb (tu h4 hb (J 0 n0 ax) V),J⟩)
 subst h1;exact ⟨_,xs,V,p,cap,V,hl,h2⟩
open Go.ChangeShapes Go.WideShapes Go.Deep
theorem eU{P:Program}{w:World}{r:Go.Reach}{base n:Nat}{t e:TypeId}{v:Value}(m:P.underlying t=some (.array n e))(h:Value.okWide P w r base t v):∃cs,v= .agg cs/\cs.size=P.cellsOf t:=by
 unfold Value.okWide at h;rw [m]at h;obtain ⟨cs,rfl,g,_⟩:=h;exact ⟨cs,V,g⟩
theorem u3:Tryz.prog.cellsOf 23=5:=by kernel_rfl
theorem lc{l:List Value}(h:l.length=5):∃a b c d e,l=[a,b,c,d,e]:=by
 match l,h with
 |[a,b,c,d,e],_=>exact ⟨a,b,c,d,e,rfl⟩
theorem lJ{H:Type}{enc:TypeId×Value->H}{W:World}{base:Nat}{held:Bool}{B:Nat}{l:List Value}{x:DataW H×List MemPlace}(h:DataW.trod enc prog W base (fun _=>true) held B 23 l=some x)(hl:l.length=5):
 ∃a b c d e:Int,l=[I4 a,I4 b,I4 c,I4 d,I4 e]/\(-9223372036854775808<=a/\a<=9223372036854775807)/\(-9223372036854775808<=b/\b<=9223372036854775807)/\(-9223372036854775808<=c/\c<=9223372036854775807)/\(-9223372036854775808<=d/\d<=9223372036854775807)/\(-9223372036854775808<=e/\e<=9223372036854775807):=by
 obtain ⟨ys,m,_,_,_,af,hf⟩:=DataW.trod_array LS h;have g:∀j,j<5->∃n:Int,l[j]?=some (I4 n)/\-9223372036854775808<=n/\n<=9223372036854775807:=fun j g=>by
  have f:=hf j g;rw [py,N2,B3 A1]at f;have G:j<l.length:=by omega
  have e:(l.drop j).take 1=[l[j]]:=by rw [RK G];rfl
  rw [e]at f;obtain ⟨k,X,_,Z⟩:=DataW.trod_int C5 f;injection X with X _
  exact ⟨k,by rw [B3 G,X],bounds_i64 Z⟩
 obtain ⟨v0,v1,v2,v3,v4,rfl⟩:=lc hl;obtain ⟨a,ha,I⟩:=g 0 AH;obtain ⟨b,hb,J⟩:=g 1 AH;obtain ⟨c,hc,K⟩:=g 2 AH;obtain ⟨d,hd,O⟩:=g 3 AH;obtain ⟨e,he,U⟩:=g 4 AH;simp at ha hb hc hd he;subst ha hb hc hd he;exact ⟨a,b,c,d,e,V,I,J,K,O,U⟩
end Go.Proofs.YtfhjaegddfehhaaGreatDoor
namespace Go.Proofs.YtfhjaegddfehhaaGreatDoor
open Go.Proofs.Tryz
open Go Go.RowKit Gw
set_option maxRecDepth 100000
attribute [local irreducible] Gw.At Gw.Nx Gw.Ops
def NQ(c:Chg):Prop:=(1<=c.k/\c.k<=9)/\(0<=c.t/\c.t<=2)
theorem nY(rs:List AV)(n m:Nat):NQ (Qr rs n m):=by
 have g:=er n (show 0<3 by decide);have h2:=er (n/3) (show 0<9 by decide)
 refine ⟨⟨?_,?_⟩,?_,?_⟩;· show(1:Int)<=((1+n/3%9:Nat):Int);omega
 · show((1+n/3%9:Nat):Int)<=9;omega
 · show(0:Int)<=((n%3:Nat):Int);omega
 · show((n%3:Nat):Int)<=2;omega
theorem U4(rs:List AV)(z:List Int):∀k,∀c∈GJ rs z k,NQ c
 |0,c,hc=>by simp [GJ]at hc
 |k+1,c,hc=>by
  have g:=U4 rs z k;unfold GJ V4 at hc;split at hc;· exact g c hc
  · rw [B9,B9,BT]at hc
    rcases hc with(hc|rfl)|hc
    · exact g c (P0 hc)
    · exact nY _ _ _
    · exact g c (J0 hc)
theorem Vn:∀(xs:List (List Int)) (L:List (List Chg)),(∀cs∈L,∀c∈cs,NQ c)->∀cs∈xs.foldl Mm L,∀c∈cs,NQ c
 |[],_,h=>h
 |z::xs,L,h=>by
  rw [Tl];refine Vn xs _ fun cs g=>?_;unfold Mm at g;split at g
  · rcases B9.1 g with h1|h1
    · exact h cs h1
    · rw [BT.1 h1];exact U4 _ _ 3
  · exact h cs g
theorem sG(xs:List (List Int)):∀cs∈TP xs,∀c∈cs,NQ c:=Vn xs [] fun cs h=>by simp at h
def QW(r:AV):Prop:=1<=r.k/\r.k<=9
theorem qO{rs:List AV}{c:Chg}(h:∀r∈rs,QW r)(hc:NQ c):∀r∈EK rs c,QW r:=fun r g=>by
 unfold EK at g;rw [B9,B9]at g;rcases g with(g|g)|g
 · exact h r (P0 g)
 · obtain ⟨_,rfl⟩:=M3.1 g;exact hc.1
 · exact h r (J0 (J0 g))
theorem Sc:∀(cs:List Chg) (rs:List AV),(∀r∈rs,QW r)->(∀c∈cs,NQ c)->∀r∈DN rs cs,QW r
 |[],_,h,_=>h
 |c::cs,rs,h,hc=>Sc cs (EK rs c) (qO h (hc c (E4 ..))) fun d g=>hc d (EV _ g)
theorem VD:∀(l:List BN) (rs:List AV),(∀r∈rs,QW r)->(∀x∈l,∀c∈x.cs,NQ c)->∀r∈l.foldl (fun rs r=>DN rs r.cs) rs,QW r
 |[],_,h,_=>h
 |x::l,rs,h,hc=>VD l _ (Sc x.cs rs h (hc x (E4 ..))) fun y hy=>hc y (EV _ hy)
theorem pO{l:List BN}(h:∀x∈l,∀c∈x.cs,NQ c):∀r∈BZ l,QW r:=VD l [] (fun r g=>by simp at g) h
theorem jZ:∀(l:List Int) (a b:Int),l.Pairwise (·<·)->(∀x∈l,a<=x/\x<=b)->(l.length:Int)<=max (b -a+1) 0
 |[],_,_,_,_=>by simp;omega
 |x::l,a,b,hp,h=>by
  obtain ⟨g,h2⟩:=PC.1 hp;have hx:=h x (E4 ..)
  have m:=jZ l (x+1) b h2 fun y hy=>⟨by have:=g y hy;omega,(h y (EV _ hy)).2⟩;rw [DG];omega
theorem wG{rs:List AV}(K:BQ rs)(I:∀r∈rs,QW r)(t:Int):(rs.filter fun r=>decide (r.t=t)).length<=9:=by
 have m:((rs.filter fun r=>decide (r.t=t)).map (·.k)).Pairwise (·<·):=by
  rw [Th];refine List.Pairwise.imp_of_mem ?_ (List.Pairwise.filter _ K);intro a b B G g;have O:=Hb (FA.1 B).2
  have tb:=Hb (FA.1 G).2;rcases g with h|⟨_,h⟩
  · omega
  · exact h
 have h2:=jZ _ 1 9 m fun x hx=>by
  obtain ⟨r,J,rfl⟩:=Bm.1 hx;exact I r (FA.1 J).1
 rw [B4]at h2;omega
theorem Vy{α:Type}{f g:α->Bool}(h:∀x,f x=true->g x=true):∀l:List α,(l.filter f).length<=(l.filter g).length
 |[]=>CM _
 |x::l=>by
  have m:=Vy h l;rw [cH,cH];split
  · rename_i h1
    rw [AM (h x h1),DG,DG];omega
  · split
    · rw [DG];omega
    · exact m
structure n9(l:List BN):Prop where
 b:LA l
 nine:∀a,a<=l.length->∀q,(CR (BZ (l.take a)) q).length<=9
theorem xE{l:List BN}(G:FB l)(m:l.length<=20){xs:List (List Int)}(J:l.map BN.cs=TP xs):n9 l:=by
 refine ⟨G.toB m,fun a K q=>?_⟩;have g:∀x∈l.take a,∀c∈x.cs,NQ c:=fun x hx c hc=>sG xs x.cs (by rw [<-J];exact DP (P0 hx)) c hc
 have I:=wG (G.rows a K).1 (pO g) q.tb;have h2:=(ER (BZ (l.take a)) q.tb q.cl.toNat q.lo q.hi).length_eq
 unfold CR;rw [h2];refine MY ?_ I;refine Vy (fun r B=>?_) _;unfold inR at B;simp only [Fl,F2]at B⊢;exact B.1
theorem n9.rows{l:List BN}(h:n9 l)(q:QM):∀b,b<=l.length->(Cf (BZ (l.take b)) q).rows.length<=18:=fun b g=>by
 have m:=nM (BZ (l.take b)) q;have h2:=h.nine b g q
 omega
theorem jW{M:List AA}{q:Option Addr}{n cap:Nat}{cs:List Chg}(h:Ck M (.slice q n cap) cs){k:Nat}{c:Chg}(hc:cs[k]?=some c):∃g off cur T zz,q=some ⟨g,off,none⟩/\(g,Obj.cells cur T zz)∈M/\off+k*10+10<=cur.size/\cur.extract (off+k*10) (off+k*10+10)=c.A57:=by
 obtain ⟨G,m,e,_,B⟩:=h;injection e with e1 e2 e3
 subst e1;exact B k c hc
structure NA(l:List BN)(P i:Nat)(B cap:Int)(c:CZ):Prop where
 law:IC l P c
 len:c.its.length<=i
 next:c.next<=(i:Int)
 sz:∀e∈c.PL,e.sz<=B
 cap:c.z.cap=cap
 ns:c.ns=1
theorem NA.room{l:List BN}{P i:Nat}{B cap:Int}{c:CZ}(h:NA l P i B cap c)(m:0<=B):cap -(i:Int)*B<=c.z.fr:=by
 have g:=X0 h.law.ok.tookb h.sz;rw [h.cap]at g;have h2:(c.its.length:Int)*B<=(i:Int)*B:=Int.mul_le_mul_of_nonneg_right (by have:=h.len;omega) m
 omega
theorem NA.put{l:List BN}{P i:Nat}{B cap:Int}{c d:CZ}(h:NA l P i B cap c)(I:IC l P d)(g:c.like d)(J:d.next<=c.next+1){q:QM}{tn:Int}{a n:Nat}{b:Bool}(m:oG l P c d q tn a n b)(hn:1+(n:Int)<=B):NA l P (i+1) B cap d:=by
 have K:=h.len;have h2:=h.next
 refine ⟨I,?_,by push_cast;omega,fun e G=>?_,g.cap.trans h.cap,g.ns.trans h.ns⟩
 · rcases m with⟨_,rfl,_⟩|⟨_,_,_,⟨rfl,_⟩|⟨_,y,e,_⟩⟩
   · omega
   · omega
   · rw [e,B7,E3]
     have:=On (fun x:ItM=>decide (x.key≠str (Ci q))) c.its;omega
 · rcases m with⟨_,rfl,_⟩|⟨_,_,h3,_⟩
   · exact h.sz e G
   · rcases h3 e G with h9|h9
     · exact h.sz e h9
     · omega
theorem oG.yes{l:List BN}{P:Nat}{c d:CZ}{q:QM}{tn:Int}{a n:Nat}{b:Bool}(m:oG l P c d q tn a n b)(h:P<=a):b=true:=by
 rcases m with⟨_,_,g⟩|⟨g,_⟩
 · exact absurd (VJ h) g
 · exact g
theorem X6(x y:CE):decide (x=y)=(decide (x.rows=y.rows)&&decide (x.val=y.val)&&decide (x.fnd=y.fnd)):=by
 obtain ⟨a,b,c⟩:=x;obtain ⟨B,G,c'⟩:=y;rw [ij];simp only [Fl,CE.mk.injEq,F2];exact ⟨fun⟨g,h2,m⟩=>⟨⟨g,h2⟩,m⟩,fun⟨⟨g,h2⟩,m⟩=>⟨g,h2,m⟩⟩
def yM(z:Jv):List Value:=[I4 z.a.q.kd,I4 z.a.q.tb,I4 z.a.q.cl,I4 z.a.q.lo,I4 z.a.q.hi,I4 z.a.q.bq,I4 z.a.q.ot,.slice z.rp z.a.res.rows.length z.rc,I4 z.a.res.val,.bool z.a.res.fnd,I4 z.a.since,I4 z.a.until_,I4 z.a.base,.slice z.gp z.a.ranges.length z.gc,.slice z.cp z.a.recs.length z.cc]
theorem vE{v:Value}{zs:List Jv}{s:List AA}(h:Bc 15 55 v zs.length (zs.flatMap yM) s){i:Nat}{z:Jv}(hz:zs[i]?=some z):∃g cap cur zz,v=I6 g zs.length cap/\s=[(g,.cells cur 55 zz)]/\i*15+15<=cur.size/\cur.extract (i*15) (i*15+15)=z.A60:=by
 obtain ⟨g,cap,cur,zz,m,h2,B,G⟩:=JE h i (BE.1 hz).1;refine ⟨g,cap,cur,zz,m,h2,B,?_⟩;apply HD.1;rw [G];exact IM yM 15 (fun _=>rfl) zs i z hz
theorem wT{M:List AA}{va vb:Value}{a b:List AV}(ha:Db M va a)(hb:Db M vb b):BH prog 104 #[va,vb] [M] (.bool (decide (a=b))):=by
 have gF:=mL;obtain ⟨pa,ca,rfl,gy,X⟩:=ha;obtain ⟨pb,cb,rfl,gB,Z⟩:=hb;refine Se func104 ntmps104 [0,1] ?_;intro u R;refine A0<|A3 Y<|Zq<|A0<|Zm Y<|Zv (AY B5 Y)<|Zm Y<|Zv (AY B5 Y)<|Zv (Dp Y Y)<|A5<|Aq Y (fun K=>?_) (fun K=>?_);·
  refine A0<|A3 Y<|AJ<|Zt<|AO rfl results104 Y (by exact ⟨EX (fun e=>K (by rw [e])),rfl⟩)
 have af:a.length=b.length:=by omega
 refine AC<|Zx<|Zq<|A0<|A3 Y<|AR<|Zb [5,0,1] ?_;refine BA (e0:=[(5,_)]) (fun m e H=>∃(i:Nat),m=a.length -i/\(i<=a.length/\∀j,j<i->a[j]?=b[j]?)/\e=[(5,I4 (i:Int))]/\H=[]) (by exact ⟨0,V,⟨C0 _,by intro j hj;omega⟩,V,V⟩) Wp ?_;rintro _ _ _ ⟨i,rfl,⟨hi,g⟩,rfl,rfl⟩;refine Zq<|A0<|Zm Y<|Zm Y<|Zv (AY B5 Y)<|Zv (Au Y Y)<|A5<|Aq Y (fun ax=>?_) (fun ax=>?_);·
  obtain ⟨x,hx⟩:∃x,a[i]?=some x:=⟨_,B3 A1⟩;obtain ⟨y,hy⟩:∃y,b[i]?=some y:=⟨_,B3 A1⟩;obtain ⟨g1,gm,B,T1,cu,rfl,bg,d9,I⟩:=X i x hx;obtain ⟨g2,gq,G,T2,cO,rfl,bn,ek,J⟩:=Z i y hy;refine AC<|Zx<|Zq<|AR<|Zq<|Az (n:=9) (0::0::3::7::0::0::48::112::255::[]) 0 A6 A6 V<|A2 0 V (AP Y)<|A2 1 V (AP Y)<|A2 2 V (Ac B5 AW Y Y A1)<|CQ (b:=g1) (x:= .cells B T1 cu) (D':=15) 3 V rfl V (by simp [bg]) (A9 (cs:=x.A58) CI AW Y A1 I) ?_;refine A2 4 V (AP Y)<|A2 5 V (AP Y)<|A2 6 V (Ac B5 AW Y Y A1)<|CQ (b:=g2) (x:= .cells G T2 cO) (D':=255) 7 V rfl V (by simp [bn]) (A9 (cs:=y.A58) CI AW Y A1 J) ?_;refine A2 8 V (Vd A6 FF A6 AH AH AH C5 HP AD A4 GS D3 Y Y)<|Ag<|Zn [0,1,5,25] ?_;refine Zx<|Aq Y (fun O=>?_) (fun O=>?_);·
   refine A0<|A3 Y<|AJ<|Ad<|Zt<|Zt<|Ad<|Zt<|AO rfl results104 Y (by exact ⟨EX (fun e=>by rw [e,hy]at hx;injection hx with hx;exact O (Wz.2 hx.symm)),rfl⟩)
  have U:x=y:=Wz.1 (HI.1 O);refine AC<|A8<|Zx<|Zg<|Zm Y<|Ya (n:=1) Y Y<|AG Y<|Zn [5,0,1] ?_;refine Ab (e':=[(5,_)]) (by exact ⟨i+1,rfl,⟨by omega,fun j hj=>by rcases E0 j i with h9|h9;exact g j h9;obtain rfl:j=i:=A1;rw [hx,hy];exact congrArg some U⟩,rfl,rfl⟩)
 refine Ay<|Zt<|Zt<|AU<|Zx<|A0<|A3 Y<|AJ<|AO V results104 Y (by exact ⟨Tz (RN af (fun j hj=>g j A1)),V⟩)
theorem NA.mono{l:List BN}{P i j:Nat}{B cap:Int}{c:CZ}(h:NA l P i B cap c)(g:i<=j):NA l P j B cap c:=⟨h.law,MY h.len g,by have:=h.next;omega,h.sz,h.cap,h.ns⟩
theorem yG{c d:CZ}{p:Int}{cs:List Chg}{q2:Option Addr}{cap2:Nat}{zs:List ByteArray}(g:H8 c d p cs q2 cap2 zs):d.its.length<=c.its.length:=by
 have h:=Ox g.ok.its.keys (b:=c.its.map ItM.key) fun k m=>by
  obtain ⟨y,hy,rfl⟩:=Bm.1 m;obtain ⟨_,x,hx,hc,_⟩:=g.i1 y hy;rw [Ie hc];exact DP hx
 rw [B4,B4]at h;exact h
theorem NA.apply{l:List BN}{P i:Nat}{B cap:Int}{c d:CZ}(h:NA l P i B cap c)(m:IC l (P+1) d){p:Int}{cs:List Chg}{q2:Option Addr}{cap2:Nat}{zs:List ByteArray}(g:H8 c d p cs q2 cap2 zs):NA l (P+1) i B cap d:=⟨m,MY (yG g) h.len,by rw [g.next];exact h.next,fun e G=>h.sz e (g.PL e G),g.cap.trans h.cap,g.ns.trans h.ns⟩
theorem NA.part{l:List BN}{P i:Nat}{B cap:Int}{c d:CZ}(h:NA l P i B cap c)(I:d.ok)(g:c.like d)(G:d.next=c.next)(O:∀x∈d.its,x∈c.its)(K:d.its.length<=c.its.length)(m:∀e∈d.PL,e∈c.PL):NA l P i B cap d:=⟨h.law.part I g O,MY K h.len,by rw [G];exact h.next,fun e J=>h.sz e (m e J),g.cap.trans h.cap,g.ns.trans h.ns⟩
set_option maxHeartbeats 1000000 in
theorem qJ{M:List AA}{va vb:Value}{a b:RP}(ha:UF M va a)(hb:UF M vb b):BH prog 51 #[va,vb] [M] (.bool (decide (a=b))):=by
 have o8:=mL;obtain ⟨pq,p9,q9,rfl,Z,U,ax⟩:=ha;obtain ⟨pz,pg,qa,rfl,af,X,bg⟩:=hb;obtain ⟨o9,l5,rfl,l9,cu⟩:=id U;obtain ⟨p8,l8,rfl,lw,cO⟩:=id X;refine Se func51 ntmps51 [0,1] ?_;intro u R;refine A0<|Ze (Bx #[_,_,_,_,_,_,_,_,_])<|AE fun b1=>Ze (Bx #[_,_,_,_,_,_,_,_,_])<|AE fun b2=>A3 Y<|Zq<|A0<|Zh 0 C4 V rfl A4 Y<|Zl AD Y ?_;refine Zh 0 C4 V rfl A4 Y<|Zl AD Y ?_;refine Zv (GG Y Y)<|Zm Y<|Aj (t:=12) Y V (fun k1=>?_) (fun k1=>?_);·
  refine A7 Y V<|A7 Y V<|A7 Y V<|A7 Y V<|A7 Y V<|Zv (AQ Y Y)<|Zm Y<|A7 Y V<|A7 Y V<|A7 Y V<|A7 Y V<|A7 Y V<|Zv (AQ Y Y)<|Zm Y<|A7 Y V<|A7 Y V<|A7 Y V<|A7 Y V<|A7 Y V<|Zv (AQ Y Y)<|Zm Y<|A7 Y V<|A7 Y V<|A7 Y V<|A7 Y V<|A7 Y V<|Zv (AQ Y Y)<|Zm Y<|A7 Y V<|A7 Y V<|A7 Y V<|A7 Y V<|A7 Y V<|Zv (AQ Y Y)<|Zm Y<|A7 Y V<|A7 Y V<|A7 Y V<|A7 Y V<|A7 Y V<|A7 Y V<|A7 Y V<|Zv (AQ Y Y)<|Z0<|Zn [2,3,55] ?_;refine Zx<|CW Y<|A0<|A3 Y<|AJ<|Zt<|AO V Wg Y (by exact ⟨EX (fun e=>by subst e;exact absurd V k1),V⟩)
 refine Yf 1 C4 V rfl A4 Y<|Yl AD Y ?_;refine Yf 1 C4 V rfl A4 Y<|Yl AD Y ?_;refine Yg (GG Y Y)<|Zv (AL Y Y)<|Zm Y<|Aj (t:=19) Y V (fun k2=>?_) (fun k2=>?_);·
  refine A7 Y V<|A7 Y V<|A7 Y V<|A7 Y V<|A7 Y V<|Zv (AQ Y Y)<|Zm Y<|A7 Y V<|A7 Y V<|A7 Y V<|A7 Y V<|A7 Y V<|Zv (AQ Y Y)<|Zm Y<|A7 Y V<|A7 Y V<|A7 Y V<|A7 Y V<|A7 Y V<|Zv (AQ Y Y)<|Zm Y<|A7 Y V<|A7 Y V<|A7 Y V<|A7 Y V<|A7 Y V<|Zv (AQ Y Y)<|Zm Y<|A7 Y V<|A7 Y V<|A7 Y V<|A7 Y V<|A7 Y V<|A7 Y V<|A7 Y V<|Zv (AQ Y Y)<|Z0<|Zn [2,3,55] ?_;refine Zx<|CW Y<|A0<|A3 Y<|AJ<|Zt<|AO V Wg Y (by exact ⟨EX (fun e=>by subst e;exact absurd V k2),V⟩)
 refine Yf 2 C4 V rfl A4 Y<|Yl AD Y ?_;refine Yf 2 C4 V rfl A4 Y<|Yl AD Y ?_;refine Yg (GG Y Y)<|Zv (AL Y Y)<|Zm Y<|Aj (t:=26) Y V (fun k3=>?_) (fun k3=>?_);·
  refine A7 Y V<|A7 Y V<|A7 Y V<|A7 Y V<|A7 Y V<|Zv (AQ Y Y)<|Zm Y<|A7 Y V<|A7 Y V<|A7 Y V<|A7 Y V<|A7 Y V<|Zv (AQ Y Y)<|Zm Y<|A7 Y V<|A7 Y V<|A7 Y V<|A7 Y V<|A7 Y V<|Zv (AQ Y Y)<|Zm Y<|A7 Y V<|A7 Y V<|A7 Y V<|A7 Y V<|A7 Y V<|A7 Y V<|A7 Y V<|Zv (AQ Y Y)<|Z0<|Zn [2,3,55] ?_;refine Zx<|CW Y<|A0<|A3 Y<|AJ<|Zt<|AO V Wg Y (by exact ⟨EX (fun e=>by subst e;exact absurd V k3),V⟩)
 refine Yf 3 C4 V rfl A4 Y<|Yl AD Y ?_;refine Yf 3 C4 V rfl A4 Y<|Yl AD Y ?_;refine Yg (GG Y Y)<|Zv (AL Y Y)<|Zm Y<|Aj (t:=33) Y V (fun k4=>?_) (fun k4=>?_);·
  refine A7 Y V<|A7 Y V<|A7 Y V<|A7 Y V<|A7 Y V<|Zv (AQ Y Y)<|Zm Y<|A7 Y V<|A7 Y V<|A7 Y V<|A7 Y V<|A7 Y V<|Zv (AQ Y Y)<|Zm Y<|A7 Y V<|A7 Y V<|A7 Y V<|A7 Y V<|A7 Y V<|A7 Y V<|A7 Y V<|Zv (AQ Y Y)<|Z0<|Zn [2,3,55] ?_;refine Zx<|CW Y<|A0<|A3 Y<|AJ<|Zt<|AO V Wg Y (by exact ⟨EX (fun e=>by subst e;exact absurd V k4),V⟩)
 refine Yf 4 C4 V rfl A4 Y<|Yl AD Y ?_;refine Yf 4 C4 V rfl A4 Y<|Yl AD Y ?_;refine Yg (GG Y Y)<|Zv (AL Y Y)<|Zm Y<|Aj (t:=40) Y V (fun k5=>?_) (fun k5=>?_);·
  refine A7 Y V<|A7 Y V<|A7 Y V<|A7 Y V<|A7 Y V<|Zv (AQ Y Y)<|Zm Y<|A7 Y V<|A7 Y V<|A7 Y V<|A7 Y V<|A7 Y V<|A7 Y V<|A7 Y V<|Zv (AQ Y Y)<|Z0<|Zn [2,3,55] ?_;refine Zx<|CW Y<|A0<|A3 Y<|AJ<|Zt<|AO V Wg Y (by exact ⟨EX (fun e=>by subst e;exact absurd V k5),V⟩)
 refine Yf 5 C4 V rfl A4 Y<|Yl AD Y ?_;refine Yf 5 C4 V rfl A4 Y<|Yl AD Y ?_;refine Yg (GG Y Y)<|Zv (AL Y Y)<|Zm Y<|Aj (t:=47) Y V (fun k6=>?_) (fun k6=>?_);·
  refine A7 Y V<|A7 Y V<|A7 Y V<|A7 Y V<|A7 Y V<|A7 Y V<|A7 Y V<|Zv (AQ Y Y)<|Z0<|Zn [2,3,55] ?_;refine Zx<|CW Y<|A0<|A3 Y<|AJ<|Zt<|AO V Wg Y (by exact ⟨EX (fun e=>by subst e;exact absurd V k6),V⟩)
 refine Yf 7 C4 V rfl HU Y<|Yl V1 Y ?_;refine Yg (AY Hs Y)<|Yf 7 C4 V rfl HU Y<|Yl V1 Y ?_;refine Yg (AY Hs Y)<|Yg (Dp Y Y)<|Zv (AL Y Y)<|Z0<|Zn [2,3,55] ?_;refine Zx<|Aq Y (fun k7=>?_) (fun k7=>?_);·
  refine A0<|A3 Y<|AJ<|Zt<|AO V Wg Y (by exact ⟨EX (fun e=>by subst e;exact absurd V k7),V⟩)
 have O:a.tb=b.tb/\a.cl=b.cl/\a.lo=b.lo/\a.hi=b.hi/\a.ct=b.ct/\a.fi=b.fi:=by omega
 have gy:a.paths.length=b.paths.length:=by omega
 refine AC<|Zx<|Zq<|A0<|A3 Y<|AR<|Zb [5,2,3] ?_;refine BA (e0:=[(5,_)]) (fun m e H=>∃(i:Nat),m=a.paths.length -i/\(i<=a.paths.length/\∀j,j<i->a.paths[j]?=b.paths[j]?)/\e=[(5,I4 (i:Int))]/\H=[]) (by exact ⟨0,V,⟨C0 _,by intro j hj;omega⟩,V,V⟩) Wp ?_;rintro _ _ _ ⟨i,rfl,⟨hi,g⟩,rfl,rfl⟩;refine Zq<|A0<|Zm Y<|Zh 7 C4 V rfl HU Y<|Zl V1 Y ?_;refine Zv (AY Hs Y)<|Zv (Au Y Y)<|A5<|Aq Y (fun d9=>?_) (fun d9=>?_);·
  obtain ⟨x,hx⟩:∃x,a.paths[i]?=some x:=⟨_,B3 A1⟩;obtain ⟨y,hy⟩:∃y,b.paths[i]?=some y:=⟨_,B3 A1⟩;obtain ⟨qx,cx,gB,g1,j5,G,T1,ic,rfl,ek,J⟩:=cu i x hx;obtain ⟨qy,cy,gF,g2,kv,I,T2,j3,rfl,gm,K⟩:=cO i y hy;refine AC<|Zx<|Zq<|AR<|Zq<|Az (n:=12) (0::1::0::7::15::0::32::0::224::480::1023::2047::[]) 1024 A6 A6 V<|A2 0 V (AB (off:=7) C4 V rfl HU Y)<|B2 1 V V1 Y ?_;refine A2 2 rfl (AP Y)<|A2 3 rfl (CB Hs HB Y Y X2)<|CQ (b:=g1) (x:= .cells G T1 ic) (D':=31) 4 rfl rfl rfl (by simp [ek]) (BP Hc Y J) ?_;refine A2 5 V (AB (off:=7) C4 V rfl HU Y)<|B2 6 V V1 Y ?_;refine A2 7 rfl (AP Y)<|A2 8 rfl (CB Hs HB Y Y X2)<|CQ (b:=g2) (x:= .cells I T2 j3) (D':=1023) 9 rfl rfl rfl (by simp [gm]) (BP Hc Y K) ?_;refine Yw 10 2047 V (Zu [_,_] Y call102 Y V (ik gB gF))<|CT<|A2 11 V (Av Y)<|Ag<|Zn [2,3,5,6] ?_;refine Zx<|A0<|Zm Y<|Zv (D7 Y)<|A5<|Aq Y (fun hd=>?_) (fun hd=>?_);·
   refine A0<|A3 Y<|AJ<|Ad<|Zt<|Zt<|Ad<|Zt<|AO rfl Wg Y (by exact ⟨EX (fun e=>by rw [e,hy]at hx;injection hx with hx;exact hd hx.symm),rfl⟩)
  have bn:x=y:=HI.1 hd;refine AC<|A8<|Zx<|Zg<|Zm Y<|Ya (n:=1) Y Y<|AG Y<|Zn [5,2,3] ?_;refine Ab (e':=[(5,_)]) (by exact ⟨i+1,rfl,⟨by omega,fun j hj=>by rcases E0 j i with B|B;exact g j B;obtain rfl:j=i:=A1;rw [hx,hy];exact congrArg some bn⟩,rfl,rfl⟩)
 have gq:a.paths=b.paths:=RN gy (fun j hj=>g j A1);refine Ay<|Zt<|Zt<|AU<|Zx<|A0<|Zh 6 C4 V rfl C6 Y<|Zl F1 Y ?_;refine Zh 6 C4 V rfl C6 Y<|Zl F1 Y ?_;refine Xr [_,_] Y call103 Y V (wR Z af) ?_;refine Zm Y<|Aj (t:=81) Y V (fun h2=>?_) (fun h2=>?_);·
  refine Yf 8 C4 V rfl HB Y<|Yl Hc Y ?_;refine Yf 8 C4 V rfl HB Y<|Yl Hc Y ?_;refine Xr [_,_] Y call102 Y V (ik ax bg) ?_;refine Zv (AQ Y Y)<|AG Y<|Zn [4] ?_;refine Zx<|AJ<|AO V Wg Y (by exact ⟨by exact PQ ⟨fun B=>pM.2 ⟨gq,O,h2,B⟩,fun B=>(pM.1 B).2.2.2⟩,V⟩)
 refine A7 Y V<|A7 Y V<|A7 Y V<|A7 Y V<|A7 Y V<|Zv (AL Y Y)<|AG Y<|Zn [4] ?_;refine Zx<|AJ<|AO V Wg Y (by exact ⟨by exact EX (fun e=>h2 (pM.1 e).2.2.1),V⟩)
end Go.Proofs.YtfhjaegddfehhaaGreatDoor
