/- The reference of layer 4: Log, as a function. -/
import Derived.Test.YtelliknjeemfoaaGreatDoorLd1
import Derived.ProofKit
import Derived.OpenShut
import Derived.Stop.LaidErr
import Derived.Test.YtelliknjeemfoaaGreatDoorRows
set_option linter.unusedVariables false
set_option linter.unusedSimpArgs false
namespace Go.Proofs.YtelliknjeemfoaaGreatDoor
open Go.Proofs.Tryz
open Go Go.RowKit Gw
set_option maxRecDepth 100000
attribute [local irreducible] Gw.At Gw.Nx Gw.Ops
set_option maxHeartbeats 4000000 in
theorem wu{M:List A8}{v:A2}{xs:List (List Int)}(hX:WB M v xs)(hx:xs.length<=1000):BQ prog 5 #[v] [M] (fun r H'=>∃(l:List BJ) (s:List A8),Ew l/\l.length<=xs.length/\l.map BJ.cs=Sy xs/\EQ s r l/\H'=[s,M]):=by
 have MK:=mL;obtain ⟨px,Hf,rfl,P6,zq⟩:=id hX;refine Se func5 ntmps5 [0] ?_;intro u R;refine A3<|AH Y<|A3<|AH Y<|A3<|Zc [] Y call25 Y V (tp) ?_;rintro _ _ ⟨_,⟨sp,rfl,rfl⟩,rfl⟩;refine D2 Y<|A3<|AH Y<|AP<|Bc<|Bc<|Bc<|Zb [3,5,0,4] ?_;refine Ay (e0:=[(3,_),(5,_)]) (fun m e H=>∃(i:Nat) (B:List BJ) (w wo:A2) (sv so MM:List A8),m=xs.length -i/\(i<=xs.length/\Ew B/\B.length<=i/\BX 5 61 w (BP B).length (Ad (BP B)) sv/\BX 2 26 wo B.length (Dy B) so/\(∀r∈B,CE MM (.slice r.q r.cs.length r.cap) r.cs)/\B.map BJ.cs=Sy (xs.take i))/\e=[(3,wo),(5,I0 (i:Int))]/\H=[[(sp,.cells #[w,I0 (B.length:Int)] 83 (0,0))],sv,so,MM]) (by exact ⟨0,[],.slice none 0 0,.slice none 0 0,[],[],[],V,⟨C7 _,(by intro i r h;cases h),CT _,Bi 5 _,Bi 2 _,by simp,V⟩,V,V⟩) Wp ?_;rintro _ _ _ ⟨i,B,w,wo,sv,so,MM,rfl,⟨hi,Z,P5,kv,j5,p8,ow⟩,rfl,rfl⟩;obtain ⟨qw,ql,rfl⟩:=kv.form;obtain ⟨qo,Gw,rfl⟩:=j5.form;obtain ⟨y5,Gl⟩:=Z.all;have yt:=PY kv A0
 refine B7 Y<|Zm Y<|Zv (AR ew Y)<|Zv (Ar Y Y)<|A5<|Ap Y (fun sM=>?_) (fun sM=>?_);·
  obtain ⟨z,qb⟩:∃z,xs[i]?=some z:=⟨_,BE sM⟩;obtain ⟨h6,o9,g,off,cur,T,zz,rfl,hm,sj⟩:=zq i z qb;refine B4<|Zq<|AP<|A3<|D2 Y<|A3<|AH Y<|AP<|Bc<|Zb [6,7,0,3,4,5] ?_;refine Ay (e0:=[(6,_),(7,_)]) (fun m e H=>∃(k:Nat) (w2:A2) (cs:List Chg) (sl:List A8),m=3 -k/\(k<=3/\cs.length<=k/\BX 10 59 w2 cs.length (Cj cs) sl/\cs=GM (BP B) z k)/\e=[(6,w2),(7,I0 (k:Int))]/\H=[sl]) (by exact ⟨0,.slice none 0 0,[],[],V,⟨C7 _,CT _,Bi 10 _,V⟩,V,V⟩) Wp ?_;rintro _ _ _ ⟨k,w2,cs,sl,rfl,⟨ME,MB,G,cu⟩,rfl,rfl⟩;obtain ⟨gw,cw,rfl⟩:=G.form;have MC:=Ez G
  refine B7 Y<|Zv (Ar (n:=3) Y Y)<|A5<|Ap Y (fun hk=>?_) (fun hk=>?_);·
   obtain ⟨za,ax⟩:∃n,z[2*k]?=some n:=⟨_,BE A0⟩;obtain ⟨zb,bn⟩:∃n,z[2*k+1]?=some n:=⟨_,BE A0⟩;have MP:=o9 za (E7 ax)
   have MS:=o9 zb (E7 bn);have zf:=sj _ _ ax
   have zi:=sj _ _ bn;refine B4<|Zq<|AP<|AN Y<|Zm Y<|Zm Y<|Ba (Ee (m:=2) Y Y A0)<|Ba (AZ ew sizeOf79 Y Y A0)<|Ba (IZ underlying79 A6 Y Y A0)<|CO (cs:=[(g,.cells cur T zz)]) (by simp [hm]) (BL AE Y (by(rw [P0];exact zf))) V rfl<|AH Y<|Zb [8,0,3,4,5,6,7] ?_;refine Ch (e0:=[(8,_)]) (H0:=[]) (fun e H=>∃(n:Nat),(n<=9223372036854775807/\n=M3 za)/\e=[(8,I0 (n:Int))]/\H=[]) Wp ?hx_3 ?hy_3
   case hx_3=>
    refine AN Y<|Zv (Dz Y Y)<|A5<|Ap Y (fun zt=>?_) (fun zt=>?_);·
     refine Zg<|Zm Y<|Yi Y Y ?_;refine Ba (iZ Y (IntWalk.i64_in _ A0))<|B1 Y<|HM (e:=[(8,_)]) (h:=by exact ⟨(-(za+1)).toNat,⟨by omega,jV A0⟩,by rw [show(((-(za+1)).toNat:Nat):Int)=0 -(za+1) by omega],rfl⟩)
    refine AC<|HM (e:=[(8,_)]) (h:=by exact ⟨za.toNat,⟨by omega,jU A0⟩,by rw [show((za.toNat:Nat):Int)=za by omega],rfl⟩)
   rintro _ _ ⟨n,⟨hn,j3⟩,rfl,rfl⟩;refine AN Y<|Zm Y<|Zm Y<|Ba (Ee (m:=2) Y Y A0)<|Ya (n:=1) Y Y ?_;refine Ba (AZ ew sizeOf79 Y Y A0)<|Ba (IZ underlying79 A6 Y Y A0)<|CO (cs:=[(g,.cells cur T zz)]) (by simp [hm]) (BL AE Y (by(rw [P0];exact zi))) V rfl<|AH Y<|Zb [9,0,3,4,5,6,7,8] ?_;refine Ch (e0:=[(9,_)]) (H0:=[]) (fun e H=>∃(m:Nat),(m<=9223372036854775807/\m=M3 zb)/\e=[(9,I0 (m:Int))]/\H=[]) Wp ?hx_6 ?hy_6
   case hx_6=>
    refine AN Y<|Zv (Dz Y Y)<|A5<|Ap Y (fun zu=>?_) (fun zu=>?_);·
     refine Zg<|Zm Y<|Yi Y Y ?_;refine Ba (iZ Y (IntWalk.i64_in _ A0))<|B1 Y<|HM (e:=[(9,_)]) (h:=by exact ⟨(-(zb+1)).toNat,⟨by omega,jV A0⟩,by rw [show(((-(zb+1)).toNat:Nat):Int)=0 -(zb+1) by omega],rfl⟩)
    refine AC<|HM (e:=[(9,_)]) (h:=by exact ⟨zb.toNat,⟨by omega,jU A0⟩,by rw [show((zb.toNat:Nat):Int)=zb by omega],rfl⟩)
   rintro _ _ ⟨m,⟨MJ,ic⟩,rfl,rfl⟩;refine AN Y<|Ba (Gm (n:=3) Y Y A0)<|Zm Y<|Ba (K5 (n:=3) Y Y A0 A0)<|Ba (Gm (n:=9) Y Y A0)<|Ya (m:=1) Y Y<|Zv (BM (vs:=[(0,_),(1,_)]) (cs:=#[_,_,_,_,_,_,_,_,_,_]) Y (Aa (pl:=#[(0,1),(1,1),(2,1),(3,3),(6,1),(7,3)]) OK CC (fun _=>by kernel_rfl) V))<|Ze (Al OK #[_,_,_,_,_,_,_,_,_,_])<|AF fun cb=>Xe (BF Cd Y Y (by(simp [Value.oneCell',Value.cells];done)) Wu (by exact (rfl:_=(#[I0 ((n%3:Nat):Int),I0 ((1+n/3%9:Nat):Int),.bool false,I0 0,I0 0,I0 0,.bool false,I0 0,I0 0,I0 0]:AM))) Fm (by exact CT _) (by exact BA _))<|A5<|AN Y<|Zh 0 CC rfl rfl A6 Y<|Zl AE Y<|Zh 1 CC rfl rfl A6 Y<|Zl AE Y<|Xr [_,_,_] Y call26 Y rfl (qN sp qw ql (B.length:Int) ((n%3:Nat):Int) ((1+n/3%9:Nat):Int) (BP B) sv yt A0 y5) ?_;obtain ⟨I,sw⟩:∃I,I=Fu (BP B) ((n%3:Nat):Int) ((1+n/3%9:Nat):Int):=⟨_,rfl⟩;rw [<-sw];refine Zm Y<|Zd Y V<|Zd Y V<|Ze (Al G1 #[_,_,_,_,_])<|AF fun ob=>Xe (Xw B3 #[I0 I.1.t,I0 I.1.k,I0 I.1.v.a,I0 I.1.v.b,I0 I.1.v.c])<|B1 Y<|Zn [0,3,4,5,6,7,8,9,10,11,12] ?_;refine Zx<|AN Y<|Zh 2 CC rfl rfl FA Y<|Xe (Zs FA Y Y rfl (hc:=by exact (rfl:_=(#[I0 ((n%3:Nat):Int),I0 ((1+n/3%9:Nat):Int),.bool I.2,I0 0,I0 0,I0 0,.bool false,I0 0,I0 0,I0 0]:AM))) (hi:=by(simp;done)))<|A5<|A3<|Zh 2 H3 rfl rfl E0 Y<|Zo Wh (Pa #[_,_,_] HS E0 Y)<|Zh 3 CC rfl rfl E0 Y<|Xe (BF E0 Y Y HT Wu (by exact (rfl:_=(#[I0 ((n%3:Nat):Int),I0 ((1+n/3%9:Nat):Int),.bool I.2,I0 I.1.v.a,I0 I.1.v.b,I0 I.1.v.c,.bool false,I0 0,I0 0,I0 0]:AM))) Fm B9 (by exact BA _))<|A5<|Zb [12,0,3,4,5,6,7,8,9,10] ?_;refine Ch (e0:=[(12,_)]) (H0:=[[(cb,.cells #[I0 ((n%3:Nat):Int),I0 ((1+n/3%9:Nat):Int),.bool I.2,I0 I.1.v.a,I0 I.1.v.b,I0 I.1.v.c,.bool false,I0 0,I0 0,I0 0] 59 (0,0))]]) (fun e H=>∃(hb:Bool),(hb=yB I.2 m)/\e=[]/\H=[[(cb,.cells #[I0 ((n%3:Nat):Int),I0 ((1+n/3%9:Nat):Int),.bool I.2,I0 I.1.v.a,I0 I.1.v.b,I0 I.1.v.c,.bool hb,I0 0,I0 0,I0 0] 59 (0,0))]]) Wp ?hx_9 ?hy_9
   case hx_9=>
    refine Zg<|Zm Y<|Zv (Bh Y)<|Zm Y<|Ab (t:=77) Y V (fun hh=>?_) (fun hh=>?_);focus
     refine AG<|C5<|Zv (AL Y Y) ?_
    rotate_left
    focus
     refine Zf Y Y<|HY Y (Gm (n:=4) Y Y A0) V rfl ?_;refine Yg (Df (n:=0) Y Y)<|Zv (AO Y Y) ?_
    all_goals
     refine Zh 6 CC V rfl FA Y<|Xe (Zs FA Y Y V (hi:=by(simp;done)))<|Z0<|Zn [0,3,4,5,6,7,8,9,10] ?_;refine BU (e':=[]) (H':=[[(cb,.cells #[_,_,_,_,_,_,_,_,_,_] 59 (0,0))]]) ?_;exact ⟨_,by unfold yB;(rw [hh];rfl),V,V⟩
   rintro _ _ ⟨hb,qz,rfl,rfl⟩;refine Zb [9,0,3,4,5,6,7,8,10] ?_;refine Ch (e0:=[(9,_)]) (H0:=[[(cb,.cells #[I0 ((n%3:Nat):Int),I0 ((1+n/3%9:Nat):Int),.bool I.2,I0 I.1.v.a,I0 I.1.v.b,I0 I.1.v.c,.bool hb,I0 0,I0 0,I0 0] 59 (0,0))]]) (fun e H=>∃(c:Chg),(c=jR I n m)/\e=[]/\H=[[(cb,.cells c.A87 59 (0,0))]]) Wp ?hx_10 ?hy_10
   case hx_10=>
    refine A3<|Zh 6 CC V rfl FA Y<|Zl GW Y<|A5<|AY Y (fun p9=>?_) (fun p9=>?_);·
     refine Zg<|Zm Y<|Ba (K5 (n:=4) Y Y A0 A0)<|Ba (Gm (n:=10) Y Y A0)<|Zm Y<|Ba (K5 (n:=40) Y Y A0 A0)<|Ba (Gm (n:=9) Y Y A0)<|Ya (m:=1) Y Y<|Zm Y<|Ba (K5 (n:=400) Y Y A0 A0)<|Ba (Gm (n:=40) Y Y A0)<|Ba (Gu Y Y (IntWalk.i64_in _ A0))<|Zv (BM (vs:=[(0,_),(1,_),(2,_)]) (cs:=#[_,_,_]) Y (Dt fL K0 A6 rfl))<|Zh 7 CC rfl rfl E0 Y<|Xe (BF E0 Y Y (by(simp [Value.oneCell',Value.cells];done)) Wu B2 Fm (by exact CT _) (by exact BA _))<|Z0<|Zn [0,3,4,5,6,7,8,10] ?_;refine BU (e':=[]) (H':=[[(cb,.cells #[_,_,_,_,_,_,_,_,_,_] 59 (0,0))]]) ?_;exact ⟨⟨_,_,_,I.1.v,_,⟨_,_,_⟩⟩,by unfold jR;(rw [<-qz,B0 p9];rfl),V,V⟩
    refine AC<|Zn [0,3,4,5,6,7,8,10] ?_;refine BU (e':=[]) (H':=[[(cb,.cells #[_,_,_,_,_,_,_,_,_,_] 59 (0,0))]]) ?_;exact ⟨⟨_,_,_,I.1.v,_,⟨_,_,_⟩⟩,by unfold jR;(rw [<-qz,p9];rfl),V,V⟩
   rintro _ _ ⟨c,r9,rfl,rfl⟩;have gm:c=Qc (BP B) n m:=by rw [r9,sw];rfl
   refine A3<|D2 Y<|A3<|AH Y<|AP<|Zb [13,14,0,3,4,5,6,7,8,10] ?_;refine Ay (e0:=[(13,_),(14,_)]) (fun m e H=>∃(j:Nat) (b:Bool),m=cs.length -j/\(j<=cs.length/\b=(cs.take j).any (bZ c))/\e=[(13,.bool b),(14,I0 (j:Int))]/\H=[]) (by exact ⟨0,false,V,⟨C7 _,V⟩,V,V⟩) Wp ?_;rintro _ _ _ ⟨j,b,rfl,⟨hj,K⟩,rfl,rfl⟩;refine B7 Y<|Zm Y<|Zv (AR GO Y)<|Zv (Ar Y Y)<|A5<|Ap Y (fun sD=>?_) (fun sD=>?_);·
    refine B4<|Zq<|AP ?_;obtain ⟨y,hy⟩:∃y,cs[j]?=some y:=⟨_,BE sD⟩;obtain ⟨gl,qj,qx,zl,q9,pz,sJ,d9⟩:=E9 G A0;injection q9 with hv1 hv2 hv3
    subst hv1 pz;obtain ⟨l5,qa⟩:=uy d9 hy;refine Aw (n:=22) (0::1::3::3::15::31::63::3::131::511::1023::2047::2047::8191::16383::32767::2047::67583::262143::524287::1048575::2097151::[]) 0 AD AD V<|A1 0 V (AQ Y)<|A1 1 V (AQ Y)<|Cb (t:=105) Y (fun O=>?_) (fun O=>?_);focus
     rw [O];refine AW 2 V<|AW 3 V<|AW 4 V<|AW 5 V<|AW 6 V<|AW 7 V<|AW 8 V<|AW 9 V<|AW 10 V<|AW 11 V<|AW 12 V<|AW 13 V<|AW 14 V<|AW 15 V<|AW 16 V<|AW 17 V<|AW 18 V<|AW 19 V<|A1 20 V (AL Y Y) ?_
    rotate_left
    focus
     rw [O];refine B5 2 V (AQ Y)<|B5 3 V (AQ Y)<|B5 4 V (AZ GO Cd Y Y A0)<|B5 5 V (Ai (off:=0) CC V rfl A6 Y)<|Fk 6 V Wh (BL AE Y (by simpa using l5))<|B5 7 V (AB (off:=0) CC V rfl A6 Y)<|Fk 8 V Wh (BL AE Y B2)<|B5 9 V (CJ Y Y)<|B5 10 V (AQ Y)<|Dh (t:=114) Y (fun O=>?_) (fun O=>?_);focus
      rw [DO O];refine B5 11 V (AQ Y)<|B5 12 V (AQ Y)<|B5 13 V (AZ GO Cd Y Y A0)<|B5 14 V (Ai (off:=1) CC V rfl A6 Y)<|Fk 15 V Wh (BL AE Y (by simpa using qa))<|B5 16 V (AB (off:=1) CC V rfl A6 Y)<|Fk 17 V Wh (BL AE Y B2)<|B5 18 V (CJ Y Y)<|B5 19 V (AL Y Y)<|A1 20 V (AO Y Y) ?_
     rotate_left
     focus
      rw [F0 O];refine AW 11 V<|AW 12 V<|AW 13 V<|AW 14 V<|AW 15 V<|AW 16 V<|AW 17 V<|AW 18 V<|B5 19 V (AO Y Y)<|A1 20 V (AO Y Y) ?_
    all_goals
     refine A1 21 V (BI Y)<|Ao<|Zn [0,3,4,5,6,7,8,10,13,14] ?_;refine A9<|Zx<|Zg<|Zm Y<|Ya (n:=1) Y Y<|B1 Y<|DM (e:=[(13,_),(14,_)]) (h:=by exact ⟨j+1,_,V,⟨by omega,A11 hy K (by unfold bZ;(simp_all;done))⟩,V,V⟩)
   have ej:j=cs.length:=by omega
   subst ej;rw [HI]at K;refine BB<|Zt<|Zt<|AV<|Zx<|Zb [8,13,0,3,4,5,6,7,10] ?_;refine Ch (e0:=[(8,_),(13,_)]) (H0:=[]) (fun e H=>(¬Jt cs c k n)/\e=[]/\H=[]) Wp ?hx_15 ?hy_15
   case hx_15=>
    refine AN Y<|Zm Y<|Ab (t:=126) Y V (fun J=>?_) (fun J=>?_);·
     refine AG<|AG<|AG<|AG<|AG<|AG<|C5<|BT Y Y<|Zm Y<|AG<|AG<|AG<|C5<|BT Y Y<|Z0<|Zn [0,3,4,5,6,7,10,149] ?_;refine Zx<|Cg Y<|BB<|Zt<|AV<|Zx<|Zg<|Zm Y<|Ya (n:=1) Y Y<|B1 Y<|DM (e:=[(6,_),(7,_)]) (h:=by exact ⟨k+1,_,cs,sl,rfl,⟨by omega,by omega,G,Q9 cu ax bn j3 ic gm (by first|exact X|(unfold Jt;rw [<-K];first|(simp_all;done)|(simp_all;omega)))⟩,rfl,rfl⟩)
    refine Yf 2 CC V rfl FA Y<|Yl GW Y<|Zf Y Y<|Ab (t:=129) Y V (fun J=>?_) (fun J=>?_);focus
     refine Yf 6 CC V rfl FA Y<|Yl GW Y<|Yg (AL Y Y)<|Zf Y Y<|Ab (t:=133) Y V (fun J=>?_) (fun J=>?_);focus
      refine Yf 3 CC V rfl E0 Y<|DY Y Wh (AA (cs:=#[_,_,_]) HS E0 Y B9 B2) V rfl<|Yf 7 CC V rfl E0 Y<|DY Y Wh (Pa #[_,_,_] HS E0 Y) V rfl<|Yg (KX AD K0 D3 AE A6 Y Y) ?_;refine Yg (AL Y Y)<|BW Y Y<|Zm Y<|Ae (t:=141) Y V (fun J=>?_) (fun J=>?_);refine AG<|AG<|AG<|C5<|BT Y Y<|Z0<|Zn [0,3,4,5,6,7,10,149] ?_;refine Zx<|Cg Y<|BB<|Zt<|AV<|Zx<|Zg<|Zm Y<|Ya (n:=1) Y Y<|B1 Y<|DM (e:=[(6,_),(7,_)]) (h:=by exact ⟨k+1,_,cs,sl,rfl,⟨by omega,by omega,G,Q9 cu ax bn j3 ic gm (by first|exact X|(unfold Jt;rw [<-K];first|(simp_all;done)|(simp_all;omega)))⟩,rfl,rfl⟩)
     rotate_left
     focus
      refine AG<|AG<|C5<|Yg (AO Y Y)<|BW Y Y<|Zm Y ?_
    rotate_left 2
    focus
     refine AG<|Yg (AO Y Y)<|Zf Y Y<|AG<|AG<|C5<|Yg (AO Y Y)<|BW Y Y<|Zm Y ?_
    all_goals
     refine Zf Y Y<|Yg (Df (n:=0) Y Y)<|Zf Y Y<|Ae (t:=144) Y V (fun J=>?_) (fun J=>?_);·
      refine Zf Y Y<|HY Y (Gm (n:=5) Y Y A0) V rfl ?_;refine Yg (Bl (n:=0) Y Y)<|Yg (AL Y Y)<|BW Y Y<|Z0<|Zn [0,3,4,5,6,7,10,149] ?_;refine Zx<|Ap Y (fun zk=>?_) (fun zk=>?_);·
       have X:Jt cs c k n:=by unfold Jt;rw [<-K];(simp_all;done)
       refine BB<|Zt<|AV<|Zx<|Zg<|Zm Y<|Ya (n:=1) Y Y<|B1 Y<|DM (e:=[(6,_),(7,_)]) (h:=by exact ⟨k+1,_,cs,sl,rfl,⟨by omega,by omega,G,Q9 cu ax bn j3 ic gm (by first|exact X|(unfold Jt;rw [<-K];first|(simp_all;done)|(simp_all;omega)))⟩,rfl,rfl⟩)
      have X:¬Jt cs c k n:=by unfold Jt;rw [<-K];(simp_all;done)
      refine AC<|Hx (by exact ⟨(by exact X),V,V⟩)
     refine AG<|C5<|Yg (AO Y Y)<|BW Y Y<|Z0<|Zn [0,3,4,5,6,7,10,149] ?_;refine Zx<|DW Y<|AC<|Hx (by exact ⟨(by(unfold Jt;rw [<-K];first|(simp_all;done)|(simp_all;omega))),rfl,rfl⟩)
   rintro _ _ ⟨X,rfl,rfl⟩;refine AN Y<|Zv (AR GO Y)<|AH Y<|Zb [15,0,3,4,5,6,7,10] ?_;refine Ch (e0:=[(15,_)]) (H0:=[]) (fun e H=>∃(j:Nat),(j<=cs.length/\Pk cs c cs.length=j)/\e=[(15,I0 (j:Int))]/\H=[]) Wp ?hx_27 ?hy_27
   case hx_27=>
    refine AP<|Zb [15,0,3,4,5,6,7,10] ?_;refine Ay (e0:=[(15,_)]) (fun m e H=>∃(j:Nat),m=0+j/\(j<=cs.length/\Pk cs c j=Pk cs c cs.length)/\e=[(15,I0 (j:Int))]/\H=[]) (by exact ⟨cs.length,V,⟨CT _,V⟩,V,V⟩) Wp ?_;rintro _ _ _ ⟨j,rfl,⟨hj,af⟩,rfl,rfl⟩;refine Zq<|Zq<|Aw (n:=35) (0::1::3::7::7::23::63::127::255::7::519::2047::4095::8191::8191::24575::65535::131071::262143::8191::532479::2097151::4194303::8388607::8388607::25165823::67108863::134217727::268435455::8388607::545259519::2147483647::4294967295::8589934591::17179869183::[]) 0 AD AD V<|A1 0 V (AQ Y)<|A1 1 V (Df (n:=0) Y Y)<|A1 2 V (AQ Y)<|Dh (t:=154) Y (fun gy=>?_) (fun gy=>?_);·
     rw [DO gy];obtain ⟨y,hy⟩:∃y,cs[j -1]?=some y:=⟨_,BE A0⟩;obtain ⟨gl,qj,qx,zl,q9,pz,sJ,d9⟩:=E9 G A0;injection q9 with hv1 hv2 hv3
     subst hv1 pz;obtain ⟨l5,qa⟩:=uy d9 hy;refine B5 3 V (AQ Y)<|B5 4 V (AQ Y)<|B5 5 V (CQ (n:=1) Y Y A0 A0)<|B5 6 V (AZ GO Cd Y Y A0)<|B5 7 V (Ai (off:=0) CC V rfl A6 Y)<|Fk 8 V Wh (BL AE Y (by simpa using l5))<|B5 9 V (AB (off:=0) CC V rfl A6 Y)<|Fk 10 V Wh (BL AE Y B2)<|B5 11 V (Ev Y Y)<|B5 12 V (AQ Y)<|Dh (t:=164) Y (fun U=>?_) (fun U=>?_);focus
      rw [DO U];refine AW 13 V<|AW 14 V<|AW 15 V<|AW 16 V<|AW 17 V<|AW 18 V<|AW 19 V<|AW 20 V<|AW 21 V<|AW 22 V<|AW 23 V<|AW 24 V<|AW 25 V<|AW 26 V<|AW 27 V<|AW 28 V<|AW 29 V<|AW 30 V<|AW 31 V<|AW 32 V<|B5 33 V (AL Y Y)<|A1 34 V (AL Y Y)<|Ao<|Zn [0,3,4,5,6,7,10,15,186] ?_;refine Zx<|Cg Y ?_
     rotate_left
     focus
      rw [F0 U];refine B5 13 V (AQ Y)<|B5 14 V (AQ Y)<|B5 15 V (CQ (n:=1) Y Y A0 A0)<|B5 16 V (AZ GO Cd Y Y A0)<|B5 17 V (Ai (off:=0) CC V rfl A6 Y)<|Fk 18 V Wh (BL AE Y (by simpa using l5))<|B5 19 V (AB (off:=0) CC V rfl A6 Y)<|Fk 20 V Wh (BL AE Y B2)<|B5 21 V (CJ Y Y)<|B5 22 V (AQ Y)<|Dh (t:=174) Y (fun U=>?_) (fun U=>?_);focus
       rw [DO U];refine B5 23 V (AQ Y)<|B5 24 V (AQ Y)<|B5 25 V (CQ (n:=1) Y Y A0 A0)<|B5 26 V (AZ GO Cd Y Y A0)<|B5 27 V (Ai (off:=1) CC V rfl A6 Y)<|Fk 28 V Wh (BL AE Y (by simpa using qa))<|B5 29 V (AB (off:=1) CC V rfl A6 Y)<|Fk 30 V Wh (BL AE Y B2)<|B5 31 V (Ev Y Y)<|B5 32 V (AL Y Y)<|B5 33 V (AO Y Y)<|A1 34 V (AL Y Y)<|Ao<|Zn [0,3,4,5,6,7,10,15,186] ?_;refine Zx<|Ap Y (fun zm=>?_) (fun zm=>?_);rotate_left;refine BB<|Zt<|Zt<|AV<|Hx (by exact ⟨j,⟨hj,af.symm.trans (by exact YT A0 hy (by unfold Ns;first|omega|(simp_all;omega)))⟩,rfl,rfl⟩)
      rotate_left
      rw [F0 U];refine AW 23 V<|AW 24 V<|AW 25 V<|AW 26 V<|AW 27 V<|AW 28 V<|AW 29 V<|AW 30 V<|AW 31 V<|B5 32 V (AO Y Y)<|B5 33 V (AO Y Y)<|A1 34 V (AL Y Y)<|Ao<|Zn [0,3,4,5,6,7,10,15,186] ?_;refine Zx<|DW Y<|BB<|Zt<|Zt<|AV<|Hx (by exact ⟨j,⟨hj,af.symm.trans (by exact YT A0 hy (by unfold Ns;first|omega|(simp_all;omega)))⟩,rfl,rfl⟩)
     all_goals
      refine B4<|AP<|Zg<|Zm Y<|Yb (n:=1) Y Y<|B1 Y<|A9<|HB (by exact ⟨j -1,V,⟨by omega,(qh gy hy (by unfold Ns;omega)).symm.trans af⟩,V,V⟩)
    rw [F0 gy];refine AW 3 V<|AW 4 V<|AW 5 V<|AW 6 V<|AW 7 V<|AW 8 V<|AW 9 V<|AW 10 V<|AW 11 V<|AW 12 V<|AW 13 V<|AW 14 V<|AW 15 V<|AW 16 V<|AW 17 V<|AW 18 V<|AW 19 V<|AW 20 V<|AW 21 V<|AW 22 V<|AW 23 V<|AW 24 V<|AW 25 V<|AW 26 V<|AW 27 V<|AW 28 V<|AW 29 V<|AW 30 V<|AW 31 V<|AW 32 V<|AW 33 V<|A1 34 V (AO Y Y)<|Ao<|Zn [0,3,4,5,6,7,10,15,186] ?_;refine Zx<|DW Y<|BB<|Zt<|Zt<|AV<|Hx (by exact ⟨j,⟨hj,af.symm.trans (by exact qg A0)⟩,V,V⟩)
   rintro _ _ ⟨j,⟨hj,FT⟩,rfl,rfl⟩;refine Aw (n:=12) (0::0::0::7::0::16::0::0::192::496::1023::2047::[]) 1568 AD AD V<|A1 0 V (AQ Y)<|A1 1 V (AQ Y)<|A1 2 V (AQ Y)<|A1 3 V (OY GO Cd Y Y Y A0)<|GB 4 V Wh (Pa #[_,_,_,_,_,_,_,_,_,_] HG Cd Y)<|A1 6 V (AQ Y)<|A1 7 V (AQ Y)<|A1 8 V (Bw GO Cd Y Y A0)<|Yw 5 511 V (Ah (vs:=[_]) (cs:=[_,_,_,_,_,_,_,_,_,_]) GO Cd OK Y V rfl V rfl V)<|AF fun gb=>Yw 9 1023 V (BS (by_:=80) (sz:=10) GO (V:Tryz.prog.info? 59=some Tryz.t59) V rfl V rfl Y (Gs 10 59 gb 1 (Cj [c]) V An) Y (Js G j (cs.length -j) _ A0) Wo Wo (by exact fun u hu=>Kl cs u (MD hu)) A0 A0) ?_;rintro _ _ ⟨P7,l9,rfl⟩;obtain ⟨LP,HZ,rfl⟩:=l9.form;refine Yw 10 2047 V (Qn (by_:=80) (sz:=10) GO (V:Tryz.prog.info? 59=some Tryz.t59) V rfl V rfl Y (Jr G j _ hj) Y (iQ l9) Wo Wo A0 A0 A0) ?_;rintro _ _ ⟨Pn,o8,rfl⟩;have ve:=Bb o8 (n':=(cs.take j++[c]++cs.drop j).length) (xs':=Cj (cs.take j++[c]++cs.drop j)) (by simp only [C2,Cl,D0,G0];omega) (by rw [Iq,Iq,UY,UZ,DG])
   obtain ⟨Mx,LD,rfl⟩:=o8.form;refine A1 11 V (BI Y)<|Ao<|A9<|Zx<|Zg<|Zm Y<|Ya (n:=1) Y Y<|B1 Y<|DM (e:=[(6,_),(7,_)]) (h:=by exact ⟨k+1,_,cs.take j++[c]++cs.drop j,_,V,⟨by omega,by simp only [C2,Cl,D0,G0];omega,ve,ut cu ax bn j3 ic gm X FT⟩,V,V⟩)
  have l8:cs=GM (BP B) z 3:=by have e3:k=3:=A0;subst e3;exact cu
  refine BB<|Zt<|Zt<|AV<|Zx<|AN Y<|Zp Y V<|Zh 1 N6 V rfl A6 Y<|Zl AE Y<|Ya (n:=1) Y Y<|Zm Y<|Zv (BM (vs:=[(0,_),(1,_)]) (cs:=#[_,_]) Y (Aa (pl:=#[(0,1),(1,1)]) Tl GF (fun _=>by kernel_rfl) V))<|Ze (Al Tl #[_,_])<|AF fun rb=>Xe (BF Fi Y Y (by(simp [Value.oneCell',Value.cells];done)) Wu (by exact (rfl:_=(#[I0 ((B.length:Int)+1),.slice gw cs.length cw]:AM))) Fm (by exact CT _) (by exact BA _))<|A5<|AN Y<|Zo Wh (Pa #[_,_] Hh Fi Y)<|Zc [_,_] Y call27 Y rfl (qO sp (B.length:Int) ((B.length:Int)+1) _ (BP B) sv sl gw cw cs kv (Mf G A0) y5 Gl A0) ?_;rintro _ _ ⟨_,vw,rfl⟩;rcases vw with⟨ek,v2,y9,rfl,wz,rfl⟩|⟨ek,rfl,rfl⟩
  ·
   refine B1 Y<|Zn [0,3,4,5,16,17] ?_;refine Zx<|AN Y<|Zv (Bl (n:=0) Y Y)<|A5<|Ap Y (fun he=>?_) (fun he=>?_);·
    have pg:Ew (B++[⟨(B.length:Int)+1,gw,cw,cs⟩]):=Z.snoc ek (by show cs.length<=3;omega);have pq:(((B++[(⟨(B.length:Int)+1,gw,cw,cs⟩:BJ)]).length:Nat):Int)=(B.length:Int)+1:=by rw [C2,G0];omega
    have x9:BX 5 61 v2 (BP (B++[⟨(B.length:Int)+1,gw,cw,cs⟩])).length (Ad (BP (B++[⟨(B.length:Int)+1,gw,cw,cs⟩]))) y9:=by rw [Gh];exact wz
    have qy:∀r∈B++[(⟨(B.length:Int)+1,gw,cw,cs⟩:BJ)],CE (MM++sl) (.slice r.q r.cs.length r.cap) r.cs:=by
     intro r hr;rcases CI.1 hr with hr|hr
     · exact Jd (p8 r hr) sl
     · rw [CH.1 hr];exact H6 (Mf G A0) MM
    refine CK (s1:=MM) (s2:=sl) Wo Wo ?_;refine Zg<|Zm Y<|Zo Wh (Pa #[_,_] Hh Fi Y)<|Ze (Ah (vs:=[_]) (cs:=[_,_]) HA Fi Tl Y V rfl V rfl V)<|AF fun gq=>Ze (BS (by_:=32) (sz:=2) HA (V:Tryz.prog.info? 26=some Tryz.t26) V rfl V rfl Y (j5) Y (Dn 2 gq 1 1 26 (0,0) [I0 ((B.length:Int)+1),.slice gw cs.length cw] V) Wo Wo HQ A0 A0) ?_;rintro _ _ ⟨sO,vo,rfl⟩;have vz:=Bb vo (n':=(B++[(⟨(B.length:Int)+1,gw,cw,cs⟩:BJ)]).length) (xs':=Dy (B++[⟨(B.length:Int)+1,gw,cw,cs⟩])) (by rw [C2,G0]) (by rw [KU];rfl)
    obtain ⟨gO,cO,rfl⟩:=vo.form;refine B1 Y<|A9<|Zx<|Zg<|Zm Y<|Ya (n:=1) Y Y<|B1 Y<|DM (e:=[(3,_),(5,_)]) (h:=by exact ⟨i+1,B++[⟨(B.length:Int)+1,gw,cw,cs⟩],_,_,y9,sO,MM++sl,rfl,⟨by omega,pg,by rw [C2,G0];omega,x9,vz,qy,xQ qb ow l8 ek⟩,rfl,by rw [pq]⟩)
   exact absurd V he
  refine B1 Y<|Zn [0,3,4,5,16,17] ?_;refine Zx<|AN Y<|Zv (Bl (n:=0) Y Y)<|A5<|Ap Y (fun he=>by cases he)<|fun he=>AC<|A9<|Zx<|Zg<|Zm Y<|Ya (n:=1) Y Y<|B1 Y<|DM (e:=[(3,_),(5,_)]) (h:=by exact ⟨i+1,B,_,_,sv,so,MM,V,⟨by omega,Z,by omega,kv,j5,p8,uc qb ow l8 ek⟩,V,V⟩)
 refine BB<|Zt<|Zt<|AV<|Zx<|Zq<|CK (s1:=so) (s2:=MM) Wo Wo ?_;refine Zg<|Zm Y<|Ax Y<|AX rfl results5 Y (by exact ⟨B,_,Z,by omega,by rw [ow,LS A0],Jv j5 A0 p8,rfl⟩)
end Go.Proofs.YtelliknjeemfoaaGreatDoor
namespace Go.Proofs.YtelliknjeemfoaaGreatDoor
open Go.Proofs.Tryz
open Go Go.RowKit Gw
set_option maxRecDepth 100000
attribute [local irreducible] Gw.At Gw.Nx Gw.Ops
open Go.ChangeShapes Go.WideShapes Go.Deep
theorem sy(g:Addr):g.add 0=g:=by simp [Addr.add]
theorem vP{w:A4}{a:Addr}{v:A2}(h:w.cell? a=some v):a=⟨a.block,a.off,none⟩:=by
 cases a with|mk b o s=>
 cases s with
 |none=>rfl
 |some s=>
  simp only [World.cell?]at h;split at h<;>simp at h
theorem Vw{w:A4}{g i:Nat}{v:A2}(h:w.cell? ⟨g,i,none⟩=some v):∃cur T z,w.heap[g]?=some (.cells cur T z)/\cur[i]?=some v:=by
 unfold World.cell? at h;simp only at h;split at h
 · rename_i c T z hc
   exact ⟨c,T,z,hc,by simpa using h⟩
 · cases h
section
variable{H:Type}{enc:AK×A2->H}{P:Program}{w:A4}{base:Nat}{held:Bool}
end
def WM(w:A4):List A8:=(List.range w.heap.size).filterMap fun b=>(w.heap[b]?).map fun o=>(b,o)
theorem Va{w:A4}{b:Nat}{o:Obj}:(b,o)∈WM w↔w.heap[b]?=some o:=by
 unfold WM;rw [cN];constructor
 · rintro ⟨a,_,m⟩
   obtain ⟨o',g,h2⟩:=pN.1 m;injection h2 with e1 e2
   subst e1 e2;exact g
 · intro h
   refine ⟨b,?_,by rw [h];rfl⟩;rw [My];rcases Ft b w.heap.size with g|g
   · exact g
   · simp [LR g]at h
theorem bF(w:A4):((WM w).map (·.1)).Nodup:=by
 have:∀l:List Nat,((l.filterMap fun b=>(w.heap[b]?).map fun o=>(b,o)).map (·.1)).Sublist l:=by
  intro l;induction l with
  |nil=>simp
  |cons a l ih=>
   rw [nb];cases h:w.heap[a]?with
   |none=>simp only [Option.map_none];exact ih.cons a
   |some o=>simp only [Pr,F2];exact ih.cons_cons a
 exact List.Nodup.sublist (this _) kj
def Mv(w:A4)(ks:List Nat):List A8:=(WM w).filter fun c=>!ks.contains c.1
theorem Oe{w:A4}{g:List Nat}{b:Nat}{o:Obj}(h:w.heap[b]?=some o)(m:b∉g):(b,o)∈Mv w g:=by
 unfold Mv;rw [GP];exact ⟨Va.2 h,by simp [m]⟩
theorem ll{P:Program}{f:FuncId}{args:AM}{v:A2}{w:A4}(L:List A8)(U:∀c∈L,w.heap[c.1]?=some c.2)(hn:(L.map (·.1)).Nodup){H:Hp}(B:H.flatten=L++Mv w (L.map (·.1)))(h:Az P f args H v):
 Calls P f args w fun e O=>e= .returned v/\Below w.heap.size w O:=by
 have K:Sat w (H++[]) w:=by
  refine ⟨V,V,V,?_,?_⟩
  · rw [DQ,B,CN,HN]
    refine ⟨hn,?_,?_⟩;· exact List.Nodup.sublist (Z1.map _) (bF w)
    · intro a ha b hb e
      subst e;obtain ⟨c,hc,rfl⟩:=CM.1 hb;unfold Mv at hc;have:=(GP.1 hc).2
      simp only [V2,List.contains_eq_mem,PB]at this;exact this ha
  · intro p I
    rw [DQ,B,CI]at I;rcases I with I|I
    · exact U p I
    · exact Va.1 (GP.1 I).1
 refine Calls.mono (h w [] w K) fun e O he=>?_;rcases he with⟨v',H',rfl,⟨rfl,rfl⟩,m⟩|⟨_,_,_,hf,_⟩
 · refine ⟨rfl,m.os,m.tape,m.output,?_,?_⟩
   · rcases S3 w.heap.size with h0|h0
     · omega
     · have X:w.heap.size -1<w.heap.size:=by omega
       have J:w.heap[w.heap.size -1]?=some w.heap[w.heap.size -1]:=I3 X;have:O.heap[w.heap.size -1]?=some w.heap[w.heap.size -1]:=by
        by_cases G:(w.heap.size -1)∈L.map (·.1)
        · obtain ⟨c,hc,G⟩:=CM.1 G
          have g:=m.get c (by rw [DQ,B];exact Fc _ hc);have h2:=U c hc
          rw [G]at g h2;rw [g,<-h2,J]
        · exact m.get (_,_) (by rw [DQ,B];exact HC _ (Oe J G))
       rcases Ft (w.heap.size -1) O.heap.size with g|g
       · omega
       · rw [LR g]at this;cases this
   · intro k G
     have J:w.heap[k]?=some w.heap[k]:=I3 G;by_cases Z:k∈L.map (·.1)
     · obtain ⟨c,hc,rfl⟩:=CM.1 Z
       have g:=m.get c (by rw [DQ,B];exact Fc _ hc);rw [g,U c hc]
     · rw [J]
       exact m.get (_,_) (by rw [DQ,B];exact HC _ (Oe J Z))
 · exact hf.elim
theorem Xp{P:Program}{w:A4}{n:String}{g:Nat}{cs:AM}(m:P.globalNamed n=some g)(h:w.var? P n=some cs):∃T z,w.heap[g]?=some (.cells cs T z):=by
 unfold World.var? at h;rw [m,Lk]at h;split at h
 · rename_i c T z hc
   injection h with e
   subst e;exact ⟨T,z,hc⟩
 · cases h
theorem uI:Tryz.prog.globalNamed "cachetier/digest.round"=some 4:=by kernel_rfl
theorem A20:(Tryz.prog.globals[4]?).map (·.type)=some 417:=by kernel_rfl
theorem c32:Tryz.prog.cellsOf 288=1:=by kernel_rfl
theorem zX:Tryz.prog.cellsOf 417=64:=by kernel_rfl
theorem s8:Tryz.prog.globalNamed "internal/strconv.uint64pow10"=some 1:=by kernel_rfl
theorem yf:(Tryz.prog.globals[1]?).map (·.type)=some 337:=by kernel_rfl
theorem c64:Tryz.prog.cellsOf 290=1:=by kernel_rfl
theorem zc:Tryz.prog.cellsOf 337=20:=by kernel_rfl
def qD:List Int:=Ec.map fun x=>(x.toNat:Int)
theorem cZ:(Rows.laid_cachetier_digest_round:DataW Unit)=Lib.tabData .u32 qD:=by kernel_rfl
theorem YG:(qD.map fun z=>Value.int .u32 z).toArray=(Ec.map Cq).toArray:=by kernel_rfl
theorem qf:(Rows.laid_internal_strconv_uint64pow10:DataW Unit)=Lib.tabData .u64 Lib.pow10Tab:=by kernel_rfl
def QD(W:A4)(Tg:AK)(zg:Nat×Nat)(Tp:AK)(zp:Nat×Nat):Prop:=W.heap[4]?=some (.cells (Ec.map Cq).toArray Tg zg)/\W.heap[1]?=some (.cells (Lib.pow10Tab.map fun z=>Value.int .u64 z).toArray Tp zp)
theorem rW{a b:String×DataW Unit}{r:List (String×DataW Unit)}{W:A4}(h:laidMet prog (a::b::("internal/strconv.uint64pow10",Rows.laid_internal_strconv_uint64pow10)::("cachetier/digest.round",Rows.laid_cachetier_digest_round)::r) W):
 ∃Tg zg Tp zp,QD W Tg zg Tp zp:=by
 have h1:=h.tail.tail;have h3:=h1.tail
 rw [qf]at h1;rw [cZ]at h3;have h2:=Lib.tabIs_of_head s8 yf underlying337 aE c64 zc h1
 have h5:=Lib.tabIs_of_head uI A20 cU W3 c32 zX h3;unfold Lib.TabIs at h2 h5;rw [YG]at h5;obtain ⟨Tg,zg,hb⟩:=Xp uI h5;obtain ⟨Tp,zp,hc⟩:=Xp s8 h2;exact ⟨Tg,zg,Tp,zp,hb,hc⟩
def tZ:A2->Bool
 | .string _=>true
 | .slice _ _ _=>true
 | .bool _=>true
 | .int .i64 _=>true
 |_=>false
theorem ZU{W:A4}{J K:AK}{O U:Nat×Nat}(G:QD W J O K U)
 {g i:Nat}{cur:AM}{T:AK}{z:Nat×Nat}(B:W.heap[g]?=some (.cells cur T z)){y:A2}(hc:cur[i]?=some y)(I:tZ y=true):g∉ [4,1]:=by
 intro m;simp only [Dg,T0,Sf]at m;rcases m with m|m
 · subst m
   rw [G.1]at B;injection B with e
   injection e with e1 _ _
   subst e1;rw [kc,FF]at hc;obtain ⟨u,_,rfl⟩:=pN.1 hc;simp [Cq,tZ]at I
 · subst m
   rw [G.2]at B;injection B with e
   injection e with e1 _ _
   subst e1;rw [kc,FF]at hc;obtain ⟨u,_,rfl⟩:=pN.1 hc;simp [tZ]at I
theorem xX{f:FuncId}{args:AM}{v:A2}{W:A4}{g m:AK}{B G:Nat×Nat}(I:QD W g B m G)
 (h:Az prog f args [[(4,.cells (Ec.map Cq).toArray g B)],[(1,.cells (Lib.pow10Tab.map fun z=>Value.int .u64 z).toArray m G)],Mv W [4,1]] v):
 Calls prog f args W fun e J=>e= .returned v/\Below W.heap.size W J:=
 ll [(4,.cells (Ec.map Cq).toArray g B),(1,.cells (Lib.pow10Tab.map fun z=>Value.int .u64 z).toArray m G)] (by
  intro c hc;simp only [Dg,T0,Sf]at hc;rcases hc with rfl|rfl
  · exact I.1
  · exact I.2) B6 B6 h
theorem Ja{α:Type}:∀(n:Nat) (p:Nat->α->Prop),(∀i,i<n->∃o,p i o)->∃os:List α,os.length=n/\∀i o,os[i]?=some o->p i o
 |0,_,_=>⟨[],rfl,fun i o h=>by cases h⟩
 |n+1,p,h=>by
  obtain ⟨os,g,h2⟩:=Ja n p (fun i hi=>h i (by omega));obtain ⟨o,m⟩:=h n (by omega);refine ⟨os++[o],by simp [g],fun i o' hi=>?_⟩;rw [pt]at hi;split at hi;· exact h2 i o' hi
  · rename_i hlt
    have:i=n:=by
     have:=(C6.1 hi).1;simp at this;omega
    subst this;rw [g,W1]at hi;simp only [cL,Z3]at hi;subst hi;exact m
section
variable{H:Type}{enc:AK×A2->H}{P:Program}{W:A4}{base:Nat}{held:Bool}
theorem Sq{t e:AK}{s I:Nat}{cs:List A2}{x:DataW H×List MemPlace}(ht:P.underlying t=some (.slice e))(hc:P.cellsOf e=s)(hs:0<s)(h:DataW.trod enc P W base (fun _=>true) held I t cs=some x):
 ∃p len cap,cs=[.slice p len cap]/\(len<=maxLen/\len<=cap)/\∀i,i<len->∃B n z,B.length=s/\DataW.trod enc P W base (fun _=>true) held n e B=some z/\
  ∃g o cur T zz,p=some ⟨g,o,none⟩/\W.heap[g]?=some (.cells cur T zz)/\∀j,j<s->cur[o+i*s+j]?=B[j]?:=by
 rcases open_slice ht h with⟨rfl,_⟩|⟨a,len,cap,m,n,D,Pl,rfl,_,hl,hm,hmm,_,hel⟩
 · exact ⟨none,0,0,rfl,⟨C7 _,CT _⟩,fun i hi=>by omega⟩
 · simp only [J1]at hmm
   subst hmm;refine ⟨some a,len,m,V,⟨by omega,hl⟩,fun i hi=>?_⟩;have G:a=⟨a.block,a.off,none⟩:=by
    obtain ⟨cs0,Z,_⟩:=hel 0 A0;rw [hc]at Z;obtain ⟨_,af,gg⟩:=World.cells?_some Z;have g9:=gg 0 hs
    rw [BE (l:=cs0) (i:=0) A0,el,sy,sy]at g9;exact vP g9
   obtain ⟨B,h1,h2⟩:=hel i A0;rw [hc]at h1;obtain ⟨_,K,hg⟩:=World.cells?_some h1;refine ⟨B,n,_,K,h2,?_⟩;have h9:=hg 0 hs
   rw [BE (l:=B) (i:=0) A0,G,CW,CW]at h9;obtain ⟨cur,T,zz,hb,_⟩:=Vw h9;refine ⟨a.block,a.off,cur,T,zz,by rw [<-G],hb,fun j hj=>?_⟩;have O:=hg j hj
   rw [BE (l:=B) (i:=j) A0]at O⊢;rw [G,CW,CW]at O;obtain ⟨X,T2,ax,J,U⟩:=Vw O;rw [hb]at J;injection J with e
   injection e with e1 _ _
   rw [e1];exact U
end
theorem oy:Tryz.prog.cellsOf 3=1:=by kernel_rfl
theorem zZ:Tryz.prog.cellsOf 79=6:=by kernel_rfl
theorem Yo{H:Type}{enc:AK×A2->H}{W:A4}{base:Nat}{held:Bool}{Tg Tp:AK}{zg zp:Nat×Nat}(h4:QD W Tg zg Tp zp){I:Nat}{cs:List A2}{x:DataW H×List MemPlace}(h:DataW.trod enc prog W base (fun _=>true) held I 22 cs=some x):
 ∃v xs,cs=[v]/\WB (Mv W [4,1]) v xs:=by
 obtain ⟨p,len,cap,rfl,hl,X⟩:=Sq ew zZ An h;obtain ⟨xs,h1,h2⟩:=Ja len (fun i (z:List Int)=>z.length=6/\(∀n∈z,-9223372036854775808<=n/\n<=9223372036854775807)/\∃g o cur T zz,p=some ⟨g,o,none⟩/\(g,Obj.cells cur T zz)∈Mv W [4,1]/\∀(j:Nat) (n:Int),z[j]?=some n->cur[o+i*6+j]?=some (I0 n)) (fun i hi=>by
  obtain ⟨B,n,z,cu,ht,g,o,cur,T,zz,hp,hb,hc⟩:=X i hi;obtain ⟨ys,m,_,_,_,d9,hf⟩:=DataW.trod_array underlying79 ht;obtain ⟨ns,bn,U⟩:=Ja 6 (fun j (n:Int)=>(-9223372036854775808<=n/\n<=9223372036854775807)/\B[j]?=some (I0 n)) (fun j G=>by
   have f:=hf j G;rw [oy,P0,BE A0]at f;have K:j<B.length:=by omega
   have e:(B.drop j).take 1=[B[j]]:=by rw [RT K];rfl
   rw [e]at f;obtain ⟨k,Z,_,af⟩:=DataW.trod_int D3 f;injection Z with Z _
   exact ⟨k,bounds_i64 af,by rw [BE K,Z]⟩)
  have J:∀(j:Nat) (n:Int),ns[j]?=some n->cur[o+i*6+j]?=some (I0 n):=fun j n G=>by
   have cO:=(C6.1 G).1;rw [hc j A0];exact (U j n G).2
  obtain ⟨n0,ax⟩:∃n,ns[0]?=some n:=⟨_,BE A0⟩;exact ⟨ns,bn,fun n O=>by
   obtain ⟨j,G⟩:=HK O;exact (U j n G).1,g,o,cur,T,zz,hp,Oe hb (ZU h4 hb (J 0 n0 ax) V),J⟩)
 subst h1;exact ⟨_,xs,V,p,cap,V,hl,h2⟩
open Go.ChangeShapes Go.WideShapes Go.Deep
theorem eH{P:Program}{w:A4}{r:Go.Reach}{base n:Nat}{t e:AK}{v:A2}(m:P.underlying t=some (.array n e))(h:Value.okWide P w r base t v):∃cs,v= .agg cs/\cs.size=P.cellsOf t:=by
 unfold Value.okWide at h;rw [m]at h;obtain ⟨cs,rfl,g,_⟩:=h;exact ⟨cs,V,g⟩
theorem yU:Tryz.prog.cellsOf 23=5:=by kernel_rfl
theorem lY{l:List A2}(h:l.length=5):∃a b c d e,l=[a,b,c,d,e]:=by
 match l,h with
 |[a,b,c,d,e],_=>exact ⟨a,b,c,d,e,rfl⟩
theorem lG{H:Type}{enc:AK×A2->H}{W:A4}{base:Nat}{held:Bool}{B:Nat}{l:List A2}{x:DataW H×List MemPlace}(h:DataW.trod enc prog W base (fun _=>true) held B 23 l=some x)(hl:l.length=5):
 ∃a b c d e:Int,l=[I0 a,I0 b,I0 c,I0 d,I0 e]/\(-9223372036854775808<=a/\a<=9223372036854775807)/\(-9223372036854775808<=b/\b<=9223372036854775807)/\(-9223372036854775808<=c/\c<=9223372036854775807)/\(-9223372036854775808<=d/\d<=9223372036854775807)/\(-9223372036854775808<=e/\e<=9223372036854775807):=by
 obtain ⟨ys,m,_,_,_,af,hf⟩:=DataW.trod_array bm h;have g:∀j,j<5->∃n:Int,l[j]?=some (I0 n)/\-9223372036854775808<=n/\n<=9223372036854775807:=fun j g=>by
  have f:=hf j g;rw [oy,P0,BE A0]at f;have G:j<l.length:=by omega
  have e:(l.drop j).take 1=[l[j]]:=by rw [RT G];rfl
  rw [e]at f;obtain ⟨k,X,_,Z⟩:=DataW.trod_int D3 f;injection X with X _
  exact ⟨k,by rw [BE G,X],bounds_i64 Z⟩
 obtain ⟨v0,v1,v2,v3,v4,rfl⟩:=lY hl;obtain ⟨a,ha,I⟩:=g 0 An;obtain ⟨b,hb,J⟩:=g 1 An;obtain ⟨c,hc,K⟩:=g 2 An;obtain ⟨d,hd,O⟩:=g 3 An;obtain ⟨e,he,U⟩:=g 4 An;simp at ha hb hc hd he;subst ha hb hc hd he;exact ⟨a,b,c,d,e,V,I,J,K,O,U⟩
end Go.Proofs.YtelliknjeemfoaaGreatDoor
namespace Go.Proofs.YtelliknjeemfoaaGreatDoor
open Go.Proofs.Tryz
open Go Go.RowKit Gw
set_option maxRecDepth 100000
attribute [local irreducible] Gw.At Gw.Nx Gw.Ops
def NC(c:Chg):Prop:=(1<=c.k/\c.k<=9)/\(0<=c.t/\c.t<=2)
theorem nW(rs:List AU)(n m:Nat):NC (Qc rs n m):=by
 have g:=hY n (show 0<3 by decide);have h2:=hY (n/3) (show 0<9 by decide)
 refine ⟨⟨?_,?_⟩,?_,?_⟩;· show(1:Int)<=((1+n/3%9:Nat):Int);omega
 · show((1+n/3%9:Nat):Int)<=9;omega
 · show(0:Int)<=((n%3:Nat):Int);omega
 · show((n%3:Nat):Int)<=2;omega
theorem Tk(rs:List AU)(z:List Int):∀k,∀c∈GM rs z k,NC c
 |0,c,hc=>by simp [GM]at hc
 |k+1,c,hc=>by
  have g:=Tk rs z k;unfold GM Uq at hc;split at hc;· exact g c hc
  · rw [CI,CI,CH]at hc
    rcases hc with(hc|rfl)|hc
    · exact g c (R0 hc)
    · exact nW _ _ _
    · exact g c (MD hc)
theorem Vf:∀(xs:List (List Int)) (L:List (List Chg)),(∀cs∈L,∀c∈cs,NC c)->∀cs∈xs.foldl Ma L,∀c∈cs,NC c
 |[],_,h=>h
 |z::xs,L,h=>by
  rw [W8];refine Vf xs _ fun cs g=>?_;unfold Ma at g;split at g
  · rcases CI.1 g with h1|h1
    · exact h cs h1
    · rw [CH.1 h1];exact Tk _ _ 3
  · exact h cs g
theorem sV(xs:List (List Int)):∀cs∈Sy xs,∀c∈cs,NC c:=Vf xs [] fun cs h=>by simp at h
def QI(r:AU):Prop:=1<=r.k/\r.k<=9
theorem qW{rs:List AU}{c:Chg}(h:∀r∈rs,QI r)(hc:NC c):∀r∈EO rs c,QI r:=fun r g=>by
 unfold EO at g;rw [CI,CI]at g;rcases g with(g|g)|g
 · exact h r (R0 g)
 · obtain ⟨_,rfl⟩:=Ll.1 g;exact hc.1
 · exact h r (MD (MD g))
theorem SE:∀(cs:List Chg) (rs:List AU),(∀r∈rs,QI r)->(∀c∈cs,NC c)->∀r∈DI rs cs,QI r
 |[],_,h,_=>h
 |c::cs,rs,h,hc=>SE cs (EO rs c) (qW h (hc c (Fo ..))) fun d g=>hc d (G3 _ g)
theorem Uz:∀(l:List BJ) (rs:List AU),(∀r∈rs,QI r)->(∀x∈l,∀c∈x.cs,NC c)->∀r∈l.foldl (fun rs r=>DI rs r.cs) rs,QI r
 |[],_,h,_=>h
 |x::l,rs,h,hc=>Uz l _ (SE x.cs rs h (hc x (Fo ..))) fun y hy=>hc y (G3 _ hy)
theorem pu{l:List BJ}(h:∀x∈l,∀c∈x.cs,NC c):∀r∈BP l,QI r:=Uz l [] (fun r g=>by simp at g) h
theorem jT:∀(l:List Int) (a b:Int),l.Pairwise (·<·)->(∀x∈l,a<=x/\x<=b)->(l.length:Int)<=max (b -a+1) 0
 |[],_,_,_,_=>by simp;omega
 |x::l,a,b,hp,h=>by
  obtain ⟨g,h2⟩:=S4.1 hp;have hx:=h x (Fo ..)
  have m:=jT l (x+1) b h2 fun y hy=>⟨by have:=g y hy;omega,(h y (G3 _ hy)).2⟩;rw [EV];omega
theorem wP{rs:List AU}(K:BN rs)(I:∀r∈rs,QI r)(t:Int):(rs.filter fun r=>decide (r.t=t)).length<=9:=by
 have m:((rs.filter fun r=>decide (r.t=t)).map (·.k)).Pairwise (·<·):=by
  rw [W7];refine List.Pairwise.imp_of_mem ?_ (List.Pairwise.filter _ K);intro a b B G g;have O:=IF (GP.1 B).2
  have tb:=IF (GP.1 G).2;rcases g with h|⟨_,h⟩
  · omega
  · exact h
 have h2:=jT _ 1 9 m fun x hx=>by
  obtain ⟨r,J,rfl⟩:=CM.1 hx;exact I r (GP.1 J).1
 rw [Bm]at h2;omega
theorem Vq{α:Type}{f g:α->Bool}(h:∀x,f x=true->g x=true):∀l:List α,(l.filter f).length<=(l.filter g).length
 |[]=>CT _
 |x::l=>by
  have m:=Vq h l;rw [dr,dr];split
  · rename_i h1
    rw [B0 (h x h1),EV,EV];omega
  · split
    · rw [EV];omega
    · exact m
structure p5(l:List BJ):Prop where
 b:L9 l
 nine:∀a,a<=l.length->∀q,(CR (BP (l.take a)) q).length<=9
theorem xR{l:List BJ}(G:Ew l)(m:l.length<=20){xs:List (List Int)}(J:l.map BJ.cs=Sy xs):p5 l:=by
 refine ⟨G.toB m,fun a K q=>?_⟩;have g:∀x∈l.take a,∀c∈x.cs,NC c:=fun x hx c hc=>sV xs x.cs (by rw [<-J];exact Ek (R0 hx)) c hc
 have I:=wP (G.rows a K).1 (pu g) q.tb;have h2:=(ET (BP (l.take a)) q.tb q.cl.toNat q.lo q.hi).length_eq
 unfold CR;rw [h2];refine On ?_ I;refine Vq (fun r B=>?_) _;unfold inR at B;simp only [H4,Gk]at B⊢;exact B.1
theorem p5.rows{l:List BJ}(h:p5 l)(q:QM):∀b,b<=l.length->(Cf (BP (l.take b)) q).rows.length<=18:=fun b g=>by
 have m:=nK (BP (l.take b)) q;have h2:=h.nine b g q
 omega
theorem jQ{M:List A8}{q:B8}{n cap:Nat}{cs:List Chg}(h:CE M (.slice q n cap) cs){k:Nat}{c:Chg}(hc:cs[k]?=some c):∃g off cur T zz,q=some ⟨g,off,none⟩/\(g,Obj.cells cur T zz)∈M/\off+k*10+10<=cur.size/\cur.extract (off+k*10) (off+k*10+10)=c.A87:=by
 obtain ⟨G,m,e,_,B⟩:=h;injection e with e1 e2 e3
 subst e1;exact B k c hc
structure Mm(l:List BJ)(P i:Nat)(B cap:Int)(c:CZ):Prop where
 law:I7 l P c
 len:c.its.length<=i
 next:c.next<=(i:Int)
 sz:∀e∈c.PL,e.sz<=B
 cap:c.z.cap=cap
 ns:c.ns=1
theorem Mm.room{l:List BJ}{P i:Nat}{B cap:Int}{c:CZ}(h:Mm l P i B cap c)(m:0<=B):cap -(i:Int)*B<=c.z.fr:=by
 have g:=Wm h.law.ok.tookb h.sz;rw [h.cap]at g;have h2:(c.its.length:Int)*B<=(i:Int)*B:=Int.mul_le_mul_of_nonneg_right (by have:=h.len;omega) m
 omega
theorem Mm.put{l:List BJ}{P i:Nat}{B cap:Int}{c d:CZ}(h:Mm l P i B cap c)(I:I7 l P d)(g:c.like d)(J:d.next<=c.next+1){q:QM}{tn:Int}{a n:Nat}{b:Bool}(m:oH l P c d q tn a n b)(hn:1+(n:Int)<=B):Mm l P (i+1) B cap d:=by
 have K:=h.len;have h2:=h.next
 refine ⟨I,?_,by push_cast;omega,fun e G=>?_,g.cap.trans h.cap,g.ns.trans h.ns⟩
 · rcases m with⟨_,rfl,_⟩|⟨_,_,_,⟨rfl,_⟩|⟨_,y,e,_⟩⟩
   · omega
   · omega
   · rw [e,C2,G0]
     have:=RW (fun x:ItM=>decide (x.key≠str (Cs q))) c.its;omega
 · rcases m with⟨_,rfl,_⟩|⟨_,_,h3,_⟩
   · exact h.sz e G
   · rcases h3 e G with h9|h9
     · exact h.sz e h9
     · omega
theorem oH.yes{l:List BJ}{P:Nat}{c d:CZ}{q:QM}{tn:Int}{a n:Nat}{b:Bool}(m:oH l P c d q tn a n b)(h:P<=a):b=true:=by
 rcases m with⟨_,_,g⟩|⟨g,_⟩
 · exact absurd (VA h) g
 · exact g
theorem iW(x y:C8):decide (x=y)=(decide (x.rows=y.rows)&&decide (x.val=y.val)&&decide (x.fnd=y.fnd)):=by
 obtain ⟨a,b,c⟩:=x;obtain ⟨B,G,c'⟩:=y;rw [kn];simp only [H4,C8.mk.injEq,Gk];exact ⟨fun⟨g,h2,m⟩=>⟨⟨g,h2⟩,m⟩,fun⟨⟨g,h2⟩,m⟩=>⟨g,h2,m⟩⟩
theorem ww{M:List A8}{va vb:A2}{a b:List AU}(ha:DV M va a)(hb:DV M vb b):Az prog 112 #[va,vb] [M] (.bool (decide (a=b))):=by
 have j5:=mL;obtain ⟨pa,ca,rfl,ic,X⟩:=ha;obtain ⟨pb,cb,rfl,j3,Z⟩:=hb;refine Se func112 ntmps112 [0,1] ?_;intro u R;refine A3<|AH Y<|B7 Y<|Zv (AR C1 Y)<|Zm Y<|Zv (AR C1 Y)<|Zv (Dr Y Y)<|A5<|Ap Y (fun K=>?_) (fun K=>?_);·
  refine A3<|Ax Y<|Zt<|AX rfl results112 Y (by exact ⟨Ea (fun e=>K (by rw [e])),rfl⟩)
 have af:a.length=b.length:=by omega
 refine B4<|Zq<|A3<|AH Y<|AP<|Zb [5,0,1] ?_;refine Ay (e0:=[(5,_)]) (fun m e H=>∃(i:Nat),m=a.length -i/\(i<=a.length/\∀j,j<i->a[j]?=b[j]?)/\e=[(5,I0 (i:Int))]/\H=[]) (by exact ⟨0,V,⟨C7 _,by intro j hj;omega⟩,V,V⟩) Wp ?_;rintro _ _ _ ⟨i,rfl,⟨hi,g⟩,rfl,rfl⟩;refine B7 Y<|Zm Y<|Zv (AR C1 Y)<|Zv (Ar Y Y)<|A5<|Ap Y (fun ax=>?_) (fun ax=>?_);·
  obtain ⟨x,hx⟩:∃x,a[i]?=some x:=⟨_,BE A0⟩;obtain ⟨y,hy⟩:∃y,b[i]?=some y:=⟨_,BE A0⟩;obtain ⟨g1,gq,B,T1,cO,rfl,bn,ek,I⟩:=X i x hx;obtain ⟨g2,gy,G,T2,d9,rfl,cu,gm,J⟩:=Z i y hy;refine B4<|Zq<|AP<|Zq<|Aw (n:=9) (0::0::3::7::0::0::48::112::255::[]) 0 AD AD V<|A1 0 V (AQ Y)<|A1 1 V (AQ Y)<|A1 2 V (AZ C1 B3 Y Y A0)<|CS (b:=g1) (x:= .cells B T1 cO) (D':=15) 3 V rfl V (by simp [bn]) (AA (cs:=x.A88) DE B3 Y A0 I) ?_;refine A1 4 V (AQ Y)<|A1 5 V (AQ Y)<|A1 6 V (AZ C1 B3 Y Y A0)<|CS (b:=g2) (x:= .cells G T2 d9) (D':=255) 7 V rfl V (by simp [cu]) (AA (cs:=y.A88) DE B3 Y A0 J) ?_;refine A1 8 V (VU AD H3 AD An An An D3 K0 AE A6 HS E0 Y Y)<|Ao<|Zn [0,1,5,25] ?_;refine Zx<|Ap Y (fun O=>?_) (fun O=>?_);·
   refine A3<|Ax Y<|Ag<|Zt<|Zt<|Ag<|Zt<|AX rfl results112 Y (by exact ⟨Ea (fun e=>by rw [e,hy]at hx;injection hx with hx;exact O (Wl.2 hx.symm)),rfl⟩)
  have U:x=y:=Wl.1 (Kf.1 O);refine AC<|A9<|Zx<|Zg<|Zm Y<|Ya (n:=1) Y Y<|B1 Y<|HB (by exact ⟨i+1,rfl,⟨by omega,fun j hj=>by rcases Ft j i with h9|h9;exact g j h9;obtain rfl:j=i:=A0;rw [hx,hy];exact congrArg some U⟩,rfl,rfl⟩)
 refine BB<|Zt<|Zt<|AV<|CD<|Ax Y<|AX V results112 Y (by exact ⟨TY (R7 af (fun j hj=>g j A0)),V⟩)
theorem Mm.mono{l:List BJ}{P i j:Nat}{B cap:Int}{c:CZ}(h:Mm l P i B cap c)(g:i<=j):Mm l P j B cap c:=⟨h.law,On h.len g,by have:=h.next;omega,h.sz,h.cap,h.ns⟩
theorem A07{c d:CZ}{p:Int}{cs:List Chg}{q2:B8}{cap2:Nat}{zs:List C4}(g:GH c d p cs q2 cap2 zs):d.its.length<=c.its.length:=by
 have h:=Od g.ok.its.keys (b:=c.its.map ItM.key) fun k m=>by
  obtain ⟨y,hy,rfl⟩:=CM.1 m;obtain ⟨_,x,hx,hc,_⟩:=g.i1 y hy;rw [IU hc];exact Ek hx
 rw [Bm,Bm]at h;exact h
theorem Mm.apply{l:List BJ}{P i:Nat}{B cap:Int}{c d:CZ}(h:Mm l P i B cap c)(m:I7 l (P+1) d){p:Int}{cs:List Chg}{q2:B8}{cap2:Nat}{zs:List C4}(g:GH c d p cs q2 cap2 zs):Mm l (P+1) i B cap d:=⟨m,On (A07 g) h.len,by rw [g.next];exact h.next,fun e G=>h.sz e (g.PL e G),g.zcap.trans h.cap,g.ns.trans h.ns⟩
theorem Mm.part{l:List BJ}{P i:Nat}{B cap:Int}{c d:CZ}(h:Mm l P i B cap c)(I:d.ok)(g:c.like d)(G:d.next=c.next)(O:∀x∈d.its,x∈c.its)(K:d.its.length<=c.its.length)(m:∀e∈d.PL,e∈c.PL):Mm l P i B cap d:=⟨h.law.part I g O,On K h.len,by rw [G];exact h.next,fun e J=>h.sz e (m e J),g.cap.trans h.cap,g.ns.trans h.ns⟩
set_option maxHeartbeats 1000000 in
theorem qQ{M:List A8}{va vb:A2}{a b:RP}(ha:U3 M va a)(hb:U3 M vb b):Az prog 56 #[va,vb] [M] (.bool (decide (a=b))):=by
 have p9:=mL;obtain ⟨qa,pz,qj,rfl,Z,U,ax⟩:=ha;obtain ⟨qb,q9,ql,rfl,af,X,bn⟩:=hb;obtain ⟨pg,o8,rfl,ow,cO⟩:=id U;obtain ⟨pq,o9,rfl,p8,d9⟩:=id X;refine Se func56 ntmps56 [0,1] ?_;intro u R;refine A3<|Ze (Bx #[_,_,_,_,_,_,_,_,_])<|AF fun b1=>Ze (Bx #[_,_,_,_,_,_,_,_,_])<|AF fun b2=>D2 Y<|A3<|Zh 0 DA V rfl A6 Y<|Zl AE Y ?_;refine Zh 0 DA V rfl A6 Y<|Zl AE Y ?_;refine Zv (GK Y Y)<|Zm Y<|Ae (t:=12) Y V (fun k1=>?_) (fun k1=>?_);·
  refine AG<|AG<|C5<|BT Y Y<|Zm Y<|AG<|AG<|C5<|BT Y Y<|Zm Y<|AG<|AG<|C5<|BT Y Y<|Zm Y<|AG<|AG<|C5<|BT Y Y<|Zm Y<|AG<|AG<|C5<|BT Y Y<|Zm Y<|AG<|AG<|AG<|C5<|BT Y Y<|Z0<|Zn [2,3,55] ?_;refine Zx<|Cg Y<|A3<|Ax Y<|Zt<|AX V cC Y (by exact ⟨Ea (fun e=>by subst e;exact absurd V k1),V⟩)
 refine Yf 1 DA V rfl A6 Y<|Yl AE Y ?_;refine Yf 1 DA V rfl A6 Y<|Yl AE Y ?_;refine Yg (GK Y Y)<|BW Y Y<|Zm Y<|Ae (t:=19) Y V (fun k2=>?_) (fun k2=>?_);·
  refine AG<|AG<|C5<|BT Y Y<|Zm Y<|AG<|AG<|C5<|BT Y Y<|Zm Y<|AG<|AG<|C5<|BT Y Y<|Zm Y<|AG<|AG<|C5<|BT Y Y<|Zm Y<|AG<|AG<|AG<|C5<|BT Y Y<|Z0<|Zn [2,3,55] ?_;refine Zx<|Cg Y<|A3<|Ax Y<|Zt<|AX V cC Y (by exact ⟨Ea (fun e=>by subst e;exact absurd V k2),V⟩)
 refine Yf 2 DA V rfl A6 Y<|Yl AE Y ?_;refine Yf 2 DA V rfl A6 Y<|Yl AE Y ?_;refine Yg (GK Y Y)<|BW Y Y<|Zm Y<|Ae (t:=26) Y V (fun k3=>?_) (fun k3=>?_);·
  refine AG<|AG<|C5<|BT Y Y<|Zm Y<|AG<|AG<|C5<|BT Y Y<|Zm Y<|AG<|AG<|C5<|BT Y Y<|Zm Y<|AG<|AG<|AG<|C5<|BT Y Y<|Z0<|Zn [2,3,55] ?_;refine Zx<|Cg Y<|A3<|Ax Y<|Zt<|AX V cC Y (by exact ⟨Ea (fun e=>by subst e;exact absurd V k3),V⟩)
 refine Yf 3 DA V rfl A6 Y<|Yl AE Y ?_;refine Yf 3 DA V rfl A6 Y<|Yl AE Y ?_;refine Yg (GK Y Y)<|BW Y Y<|Zm Y<|Ae (t:=33) Y V (fun k4=>?_) (fun k4=>?_);·
  refine AG<|AG<|C5<|BT Y Y<|Zm Y<|AG<|AG<|C5<|BT Y Y<|Zm Y<|AG<|AG<|AG<|C5<|BT Y Y<|Z0<|Zn [2,3,55] ?_;refine Zx<|Cg Y<|A3<|Ax Y<|Zt<|AX V cC Y (by exact ⟨Ea (fun e=>by subst e;exact absurd V k4),V⟩)
 refine Yf 4 DA V rfl A6 Y<|Yl AE Y ?_;refine Yf 4 DA V rfl A6 Y<|Yl AE Y ?_;refine Yg (GK Y Y)<|BW Y Y<|Zm Y<|Ae (t:=40) Y V (fun k5=>?_) (fun k5=>?_);·
  refine AG<|AG<|C5<|BT Y Y<|Zm Y<|AG<|AG<|AG<|C5<|BT Y Y<|Z0<|Zn [2,3,55] ?_;refine Zx<|Cg Y<|A3<|Ax Y<|Zt<|AX V cC Y (by exact ⟨Ea (fun e=>by subst e;exact absurd V k5),V⟩)
 refine Yf 5 DA V rfl A6 Y<|Yl AE Y ?_;refine Yf 5 DA V rfl A6 Y<|Yl AE Y ?_;refine Yg (GK Y Y)<|BW Y Y<|Zm Y<|Ae (t:=47) Y V (fun k6=>?_) (fun k6=>?_);·
  refine AG<|AG<|AG<|C5<|BT Y Y<|Z0<|Zn [2,3,55] ?_;refine Zx<|Cg Y<|A3<|Ax Y<|Zt<|AX V cC Y (by exact ⟨Ea (fun e=>by subst e;exact absurd V k6),V⟩)
 refine Yf 7 DA V rfl SR Y<|Yl XS Y ?_;refine Yg (AR P2 Y)<|Yf 7 DA V rfl SR Y<|Yl XS Y ?_;refine Yg (AR P2 Y)<|Yg (Dr Y Y)<|BW Y Y<|Z0<|Zn [2,3,55] ?_;refine Zx<|Ap Y (fun k7=>?_) (fun k7=>?_);·
  refine A3<|Ax Y<|Zt<|AX V cC Y (by exact ⟨Ea (fun e=>by subst e;exact absurd V k7),V⟩)
 have O:a.tb=b.tb/\a.cl=b.cl/\a.lo=b.lo/\a.hi=b.hi/\a.ct=b.ct/\a.fi=b.fi:=by omega
 have ic:a.paths.length=b.paths.length:=by omega
 refine B4<|Zq<|A3<|AH Y<|AP<|Zb [5,2,3] ?_;refine Ay (e0:=[(5,_)]) (fun m e H=>∃(i:Nat),m=a.paths.length -i/\(i<=a.paths.length/\∀j,j<i->a.paths[j]?=b.paths[j]?)/\e=[(5,I0 (i:Int))]/\H=[]) (by exact ⟨0,V,⟨C7 _,by intro j hj;omega⟩,V,V⟩) Wp ?_;rintro _ _ _ ⟨i,rfl,⟨hi,g⟩,rfl,rfl⟩;refine B7 Y<|Zh 7 DA V rfl SR Y<|Zl XS Y ?_;refine Zv (AR P2 Y)<|Zv (Ar Y Y)<|A5<|Ap Y (fun ek=>?_) (fun ek=>?_);·
  obtain ⟨x,hx⟩:∃x,a.paths[i]?=some x:=⟨_,BE A0⟩;obtain ⟨y,hy⟩:∃y,b.paths[i]?=some y:=⟨_,BE A0⟩;obtain ⟨qx,cx,j3,g1,l8,G,T1,kv,rfl,gm,J⟩:=cO i x hx;obtain ⟨qy,cy,j5,g2,l9,I,T2,l5,rfl,gq,K⟩:=d9 i y hy;refine B4<|Zq<|AP<|Zq<|Aw (n:=12) (0::1::0::7::15::0::32::0::224::480::1023::2047::[]) 1024 AD AD V<|A1 0 V (AB (off:=7) DA V rfl SR Y)<|Bk 1 V XS Y ?_;refine A1 2 rfl (AQ Y)<|A1 3 rfl (Bu P2 Hc Y Y PC)<|CS (b:=g1) (x:= .cells G T1 kv) (D':=31) 4 rfl rfl rfl (by simp [gm]) (BL KK Y J) ?_;refine A1 5 V (AB (off:=7) DA V rfl SR Y)<|Bk 6 V XS Y ?_;refine A1 7 rfl (AQ Y)<|A1 8 rfl (Bu P2 Hc Y Y PC)<|CS (b:=g2) (x:= .cells I T2 l5) (D':=1023) 9 rfl rfl rfl (by simp [gq]) (BL KK Y K) ?_;refine Yw 10 2047 V (Zu [_,_] Y call110 Y V (iX j3 j5))<|F1<|A1 11 V (BI Y)<|Ao<|Zn [2,3,5,6] ?_;refine Zx<|AN Y<|Zv (Cz Y)<|A5<|Ap Y (fun hd=>?_) (fun hd=>?_);·
   refine A3<|Ax Y<|Ag<|Zt<|Zt<|Ag<|Zt<|AX rfl cC Y (by exact ⟨Ea (fun e=>by rw [e,hy]at hx;injection hx with hx;exact hd hx.symm),rfl⟩)
  have cu:x=y:=Kf.1 hd;refine AC<|A9<|Zx<|Zg<|Zm Y<|Ya (n:=1) Y Y<|B1 Y<|HB (by exact ⟨i+1,rfl,⟨by omega,fun j hj=>by rcases Ft j i with B|B;exact g j B;obtain rfl:j=i:=A0;rw [hx,hy];exact congrArg some cu⟩,rfl,rfl⟩)
 have gy:a.paths=b.paths:=R7 ic (fun j hj=>g j A0);refine BB<|Zt<|Zt<|AV<|CD<|Zh 6 DA V rfl DH Y<|Zl GS Y ?_;refine Zh 6 DA V rfl DH Y<|Zl GS Y ?_;refine Xr [_,_] Y call111 Y V (wm Z af) ?_;refine Zm Y<|Ae (t:=81) Y V (fun h2=>?_) (fun h2=>?_);·
  refine Yf 8 DA V rfl Hc Y<|Yl KK Y ?_;refine Yf 8 DA V rfl Hc Y<|Yl KK Y ?_;refine Xr [_,_] Y call110 Y V (iX ax bn) ?_;refine BT Y Y<|B1 Y<|Zn [4] ?_;refine Zx<|AJ<|AX V cC Y (by exact ⟨by exact Oz ⟨fun B=>pY.2 ⟨gy,O,h2,B⟩,fun B=>(pY.1 B).2.2.2⟩,V⟩)
 refine AG<|AG<|C5<|BW Y Y<|B1 Y<|Zn [4] ?_;refine Zx<|AJ<|AX V cC Y (by exact ⟨by exact Ea (fun e=>h2 (pY.1 e).2.2.1),V⟩)
end Go.Proofs.YtelliknjeemfoaaGreatDoor
