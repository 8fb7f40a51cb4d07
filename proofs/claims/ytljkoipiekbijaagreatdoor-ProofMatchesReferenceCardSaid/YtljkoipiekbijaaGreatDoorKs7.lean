/- The reference of layer 4: Log. -/
import Derived.Test.YtljkoipiekbijaaGreatDoorLg10
set_option linter.unusedVariables false
set_option linter.unusedSimpArgs false
namespace Go.Proofs.YtljkoipiekbijaaGreatDoor
open Go.Proofs.Tryz
open Go Go.RowKit Gw
set_option maxRecDepth 100000
attribute [local irreducible] Gw.At Gw.Nx Gw.Ops
theorem y8{M:List AR}{v:A3}{xs:List (List Int)}(hX:Nr M v xs)(hx:xs.length<=1000):CJ prog 70 #[v] [M] (fun r H'=>∃(l:List Bz) (s:List AR),Dy l/\(l.length<=xs.length/\UA l)/\DD s r l/\H'=[s,M]):=by
 have ML:=mL;obtain ⟨px,zx,rfl,P7,y9⟩:=id hX;refine Se func70 ntmps70 [0] ?_;intro u R;refine A2<|AF Y<|A2<|AF Y<|A2<|Zc [] Y call29 Y V (cK) ?_;rintro _ _ ⟨_,⟨sp,rfl,rfl⟩,rfl⟩;refine CT Y<|A2<|AF Y<|AQ<|Bi<|Bi<|Bi<|Zb [3,5,0,4] ?_;refine Av (e0:=[(3,_),(5,_)]) (fun m e H=>∃(i:Nat) (E:List Bz) (w wo:A3) (sv so MM:List AR),m=xs.length -i/\(i<=xs.length/\Dy E/\(E.length<=i/\UA E)/\BS 5 91 w (Bq E).length (Aa (Bq E)) sv/\BS 2 78 wo E.length (Dn E) so/\(∀r∈E,DJ MM (.slice r.q r.cs.length r.cap) r.cs))/\e=[(3,wo),(5,I4 (i:Int))]/\H=[[(sp,.cells #[w,I4 (E.length:Int)] 138 (0,0))],sv,so,MM]) (by exact ⟨0,[],.slice none 0 0,.slice none 0 0,[],[],[],V,⟨CD _,(by intro i r h;cases h),⟨B4 _,by intro r h;cases h⟩,BX 5 _,BX 2 _,by simp⟩,V,V⟩) Wp ?_;rintro _ _ _ ⟨i,E,w,wo,sv,so,MM,rfl,⟨hi,U,l8,ax,af,ek⟩,rfl,rfl⟩;obtain ⟨qw,o9,rfl⟩:=ax.form;obtain ⟨qo,zw,rfl⟩:=af.form;obtain ⟨sj,zm⟩:=U.all;have vo:=Kq ax A0
 refine Zq<|A2<|Sk 2 V<|Zv (AJ eo Y)<|Zv (Ak Y Y)<|A6<|Ad Y (fun q9=>?_) (fun q9=>?_);·
  obtain ⟨z,zo⟩:∃z,xs[i]?=some z:=⟨_,Bk q9⟩;obtain ⟨h6,d9,g,off,cur,T,zz,rfl,hm,pg⟩:=y9 i z zo;refine B3<|Zq<|AQ<|A2<|CT Y<|A2<|AF Y<|AQ<|Bi<|Zb [6,7,0,3,4,5] ?_;refine Av (e0:=[(6,_),(7,_)]) (fun m e H=>∃(k:Nat) (w2:A3) (cs:List Chg) (sl:List AR),m=3 -k/\(k<=3/\cs.length<=k/\BS 10 126 w2 cs.length (DT cs) sl)/\e=[(6,w2),(7,I4 (k:Int))]/\H=[sl]) (by exact ⟨0,.slice none 0 0,[],[],V,⟨CD _,B4 _,BX 10 _⟩,V,V⟩) Wp ?_;rintro _ _ _ ⟨k,w2,cs,sl,rfl,⟨M3,Hf,G⟩,rfl,rfl⟩;obtain ⟨X,W,rfl⟩:=G.form;have HZ:=Ew G
  refine C0 Y<|Zv (Ak (n:=3) Y Y)<|A6<|Ad Y (fun hk=>?_) (fun hk=>?_);·
   obtain ⟨za,sw⟩:∃n,z[2*k]?=some n:=⟨_,Bk A0⟩;obtain ⟨zb,tT⟩:∃n,z[2*k+1]?=some n:=⟨_,Bk A0⟩;have P5:=d9 za (Fm sw)
   have P6:=d9 zb (Fm tT);have vw:=pg _ _ sw
   have vz:=pg _ _ tT;refine B3<|Zq<|AQ<|A2<|Sk 3 V ?_;refine BN (Dl (m:=2) Y Y A0)<|BN (A9 eo sizeOf184 Y Y A0)<|BN (Cf gi A4 Y Y A0)<|Cj (cs:=[(g,.cells cur T zz)]) (by simp [hm]) (BZ A5 Y (by(rw [MA];exact vw))) V rfl<|AF Y<|Zb [8,0,3,4,5,6,7] ?_;refine C9 (e0:=[(8,_)]) (H0:=[]) (fun e H=>∃(n:Nat),(n<=9223372036854775807)/\e=[(8,I4 (n:Int))]/\H=[]) Wp ?hx_3 ?hy_3
   case hx_3=>
    refine B7 Y<|Zv (Dq Y Y)<|A6<|Ad Y (fun zh=>?_) (fun zh=>?_);·
     refine Zg<|Zm Y<|Yi Y Y ?_;refine BN (TA Y (IntWalk.i64_in _ A0))<|AN Y<|FF (e:=[(8,_)]) (h:=by exact ⟨(-(za+1)).toNat,by omega,by rw [show(((-(za+1)).toNat:Nat):Int)=0 -(za+1) by omega],rfl⟩)
    refine AB<|FF (e:=[(8,_)]) (h:=by exact ⟨za.toNat,by omega,by rw [show((za.toNat:Nat):Int)=za by omega],rfl⟩)
   rintro _ _ ⟨n,hn,rfl,rfl⟩;refine A2<|Sk 3 V ?_;refine BN (Dl (m:=2) Y Y A0)<|Ya (n:=1) Y Y ?_;refine BN (A9 eo sizeOf184 Y Y A0)<|BN (Cf gi A4 Y Y A0)<|Cj (cs:=[(g,.cells cur T zz)]) (by simp [hm]) (BZ A5 Y (by(rw [MA];exact vz))) V rfl<|AF Y<|Zb [9,0,3,4,5,6,7,8] ?_;refine C9 (e0:=[(9,_)]) (H0:=[]) (fun e H=>∃(m:Nat),(m<=9223372036854775807)/\e=[(9,I4 (m:Int))]/\H=[]) Wp ?hx_6 ?hy_6
   case hx_6=>
    refine B7 Y<|Zv (Dq Y Y)<|A6<|Ad Y (fun zk=>?_) (fun zk=>?_);·
     refine Zg<|Zm Y<|Yi Y Y ?_;refine BN (TA Y (IntWalk.i64_in _ A0))<|AN Y<|FF (e:=[(9,_)]) (h:=by exact ⟨(-(zb+1)).toNat,by omega,by rw [show(((-(zb+1)).toNat:Nat):Int)=0 -(zb+1) by omega],rfl⟩)
    refine AB<|FF (e:=[(9,_)]) (h:=by exact ⟨zb.toNat,by omega,by rw [show((zb.toNat:Nat):Int)=zb by omega],rfl⟩)
   rintro _ _ ⟨m,MC,rfl,rfl⟩;refine B7 Y<|BN (Gm (n:=3) Y Y A0)<|Zm Y<|BN (L6 (n:=3) Y Y A0 A0)<|BN (Gm (n:=9) Y Y A0)<|Ya (m:=1) Y Y<|Zv (BK (vs:=[(0,_),(1,_)]) (cs:=#[_,_,_,_,_,_,_,_,_,_]) Y (AY (pl:=#[(0,1),(1,1),(2,1),(3,3),(6,1),(7,3)]) MT CM (fun _=>by kernel_rfl) V))<|Ze (Al MT #[_,_,_,_,_,_,_,_,_,_])<|AE fun cb=>Xe (Ao D2 Y Y (by(simp [Value.oneCell',Value.cells];done)) Wu (by exact (rfl:_=(#[I4 ((n%3:Nat):Int),I4 ((1+n/3%9:Nat):Int),.bool false,I4 0,I4 0,I4 0,.bool false,I4 0,I4 0,I4 0]:As))) DO (by exact B4 _) (by exact Aw _))<|A6<|B7 Y<|Zh 0 CM rfl rfl A4 Y<|Zl A5 Y<|Zh 1 CM rfl rfl A4 Y<|Zl A5 Y<|Xr [_,_,_] Y call75 Y rfl (oO sp qw o9 (E.length:Int) ((n%3:Nat):Int) ((1+n/3%9:Nat):Int) (Bq E) sv vo A0 sj) ?_;obtain ⟨I,y5⟩:∃I,I=Gq (Bq E) ((n%3:Nat):Int) ((1+n/3%9:Nat):Int):=⟨_,rfl⟩;rw [<-y5];refine Sk 3 V<|Ze (Al DS #[_,_,_,_,_])<|AE fun ob=>Xe (Xw AW #[I4 I.1.t,I4 I.1.k,I4 I.1.v.a,I4 I.1.v.b,I4 I.1.v.c])<|AN Y<|Zn [0,3,4,5,6,7,8,9,10,11,12] ?_;refine Zx<|B7 Y<|Zh 2 CM rfl rfl DP Y<|Xe (Zs DP Y Y rfl (hc:=by exact (rfl:_=(#[I4 ((n%3:Nat):Int),I4 ((1+n/3%9:Nat):Int),.bool I.2,I4 0,I4 0,I4 0,.bool false,I4 0,I4 0,I4 0]:As))) (hi:=by(simp;done)))<|A6<|A2<|Zh 2 F1 rfl rfl Dg Y<|Zo Wh (Pa #[_,_,_] Hv Dg Y)<|Zh 3 CM rfl rfl Dg Y<|Xe (Ao Dg Y Y Ft Wu (by exact (rfl:_=(#[I4 ((n%3:Nat):Int),I4 ((1+n/3%9:Nat):Int),.bool I.2,I4 I.1.v.a,I4 I.1.v.b,I4 I.1.v.c,.bool false,I4 0,I4 0,I4 0]:As))) DO BW (by exact Aw _))<|A6<|Zb [12,0,3,4,5,6,7,8,9,10] ?_;refine C9 (e0:=[(12,_)]) (H0:=[[(cb,.cells #[I4 ((n%3:Nat):Int),I4 ((1+n/3%9:Nat):Int),.bool I.2,I4 I.1.v.a,I4 I.1.v.b,I4 I.1.v.c,.bool false,I4 0,I4 0,I4 0] 126 (0,0))]]) (fun e H=>∃(hb:Bool),(True)/\e=[]/\H=[[(cb,.cells #[I4 ((n%3:Nat):Int),I4 ((1+n/3%9:Nat):Int),.bool I.2,I4 I.1.v.a,I4 I.1.v.b,I4 I.1.v.c,.bool hb,I4 0,I4 0,I4 0] 126 (0,0))]]) Wp ?hx_9 ?hy_9
   case hx_9=>
    refine Zg<|Zm Y<|Zv (CR Y)<|Zm Y<|Ae (t:=77) Y V (fun hh=>?_) (fun hh=>?_);focus
     refine Sk 4 V ?_
    rotate_left
    focus
     refine Zf Y Y<|ER Y (Gm (n:=4) Y Y A0) V rfl ?_;refine Yg (CW (n:=0) Y Y)<|Zv (BC Y Y) ?_
    all_goals
     refine Zh 6 CM V rfl DP Y<|Xe (Zs DP Y Y V (hi:=by(simp;done)))<|Z0<|Zn [0,3,4,5,6,7,8,9,10] ?_;refine BD (e':=[]) (H':=[[(cb,.cells #[_,_,_,_,_,_,_,_,_,_] 126 (0,0))]]) ?_;exact ⟨_,trivial,V,V⟩
   rintro _ _ ⟨hb,_,rfl,rfl⟩;refine Zb [9,0,3,4,5,6,7,8,10] ?_;refine C9 (e0:=[(9,_)]) (H0:=[[(cb,.cells #[I4 ((n%3:Nat):Int),I4 ((1+n/3%9:Nat):Int),.bool I.2,I4 I.1.v.a,I4 I.1.v.b,I4 I.1.v.c,.bool hb,I4 0,I4 0,I4 0] 126 (0,0))]]) (fun e H=>∃(c:Chg),(True)/\e=[]/\H=[[(cb,.cells c.Ax2 126 (0,0))]]) Wp ?hx_10 ?hy_10
   case hx_10=>
    refine A2<|Zh 6 CM V rfl DP Y<|Zl Fc Y<|A6<|Af Y (fun yt=>?_) (fun yt=>?_);focus
     refine Zg<|Zm Y<|BN (L6 (n:=4) Y Y A0 A0)<|BN (Gm (n:=10) Y Y A0)<|Zm Y<|BN (L6 (n:=40) Y Y A0 A0)<|BN (Gm (n:=9) Y Y A0)<|Ya (m:=1) Y Y<|Zm Y<|BN (L6 (n:=400) Y Y A0 A0)<|BN (Gm (n:=40) Y Y A0)<|BN (GI Y Y (IntWalk.i64_in _ A0))<|Zv (BK (vs:=[(0,_),(1,_),(2,_)]) (cs:=#[_,_,_]) Y (DN cL HS A4 rfl))<|Zh 7 CM rfl rfl Dg Y<|Xe (Ao Dg Y Y (by(simp [Value.oneCell',Value.cells];done)) Wu B5 DO (by exact B4 _) (by exact Aw _))<|Z0 ?_
    rotate_left
    focus
     refine AB ?_
    all_goals
     refine Zn [0,3,4,5,6,7,8,10] ?_;refine BD (e':=[]) (H':=[[(cb,.cells #[_,_,_,_,_,_,_,_,_,_] 126 (0,0))]]) ?_;exact ⟨⟨_,_,_,I.1.v,_,⟨_,_,_⟩⟩,trivial,V,V⟩
   rintro _ _ ⟨c,_,rfl,rfl⟩;refine A2<|CT Y<|A2<|AF Y<|AQ<|Zb [13,14,0,3,4,5,6,7,8,10] ?_;refine Av (e0:=[(13,_),(14,_)]) (fun m e H=>∃(j:Nat) (b:Bool),m=cs.length -j/\(j<=cs.length)/\e=[(13,.bool b),(14,I4 (j:Int))]/\H=[]) (by exact ⟨0,false,V,CD _,V,V⟩) Wp ?_;rintro _ _ _ ⟨j,b,rfl,hj,rfl,rfl⟩;refine Zq<|A2<|Sk 2 V<|Zv (AJ GF Y)<|Zv (Ak Y Y)<|A6<|Ad Y (fun pq=>?_) (fun pq=>?_);·
    refine B3<|Zq<|AQ ?_;obtain ⟨y,hy⟩:∃y,cs[j]?=some y:=⟨_,Bk pq⟩;obtain ⟨gl,o8,oq,zl,lv,l9,pz,Z⟩:=EG G A0;injection lv with hv1 hv2 hv3
    subst hv1 l9;obtain ⟨bf,mR⟩:=sN Z hy;refine Au (n:=22) (0::1::3::3::15::31::63::3::131::511::1023::2047::2047::8191::16383::32767::2047::67583::262143::524287::1048575::2097151::[]) 0 AG AG V<|A1 0 V (AA Y)<|A1 1 V (AA Y)<|CQ (t:=105) Y (fun K=>?_) (fun K=>?_);focus
     rw [K];refine AK 2 V<|AK 3 V<|AK 4 V<|AK 5 V<|AK 6 V<|AK 7 V<|AK 8 V<|AK 9 V<|AK 10 V<|AK 11 V<|AK 12 V<|AK 13 V<|AK 14 V<|AK 15 V<|AK 16 V<|AK 17 V<|AK 18 V<|AK 19 V<|A1 20 V (Ay Y Y) ?_
    rotate_left
    focus
     rw [K];refine B1 2 V (AA Y)<|B1 3 V (AA Y)<|B1 4 V (A9 GF D2 Y Y A0)<|B1 5 V (Aj (off:=0) CM V rfl A4 Y)<|DG 6 V Wh (BZ A5 Y (by simpa using bf))<|B1 7 V (AL (off:=0) CM V rfl A4 Y)<|DG 8 V Wh (BZ A5 Y B5)<|B1 9 V (Bd Y Y)<|B1 10 V (AA Y)<|CS (t:=114) Y (fun K=>?_) (fun K=>?_);focus
      rw [Cp K];refine B1 11 V (AA Y)<|B1 12 V (AA Y)<|B1 13 V (A9 GF D2 Y Y A0)<|B1 14 V (Aj (off:=1) CM V rfl A4 Y)<|DG 15 V Wh (BZ A5 Y (by simpa using mR))<|B1 16 V (AL (off:=1) CM V rfl A4 Y)<|DG 17 V Wh (BZ A5 Y B5)<|B1 18 V (Bd Y Y)<|B1 19 V (Ay Y Y)<|A1 20 V (BC Y Y) ?_
     rotate_left
     focus
      rw [CC K];refine AK 11 V<|AK 12 V<|AK 13 V<|AK 14 V<|AK 15 V<|AK 16 V<|AK 17 V<|AK 18 V<|B1 19 V (BC Y Y)<|A1 20 V (BC Y Y) ?_
    all_goals
     refine A1 21 V (Aq Y)<|Am<|Zn [0,3,4,5,6,7,8,10,13,14] ?_;refine A8<|Zx<|Zg<|Zm Y<|Ya (n:=1) Y Y<|AN Y<|DH (e:=[(13,_),(14,_)]) (h:=by exact ⟨j+1,_,V,by omega,V,V⟩)
   refine Az<|Zt<|Zt<|AU<|Zx<|Zb [8,13,0,3,4,5,6,7,10] ?_;refine C9 (e0:=[(8,_),(13,_)]) (H0:=[]) (fun e H=>(True)/\e=[]/\H=[]) Wp ?hx_15 ?hy_15
   case hx_15=>
    refine A2<|Sk 2 V ?_;refine Ae (t:=126) Y V (fun J=>?_) (fun J=>?_);·
     refine Sk 23 V<|Z0<|Zn [0,3,4,5,6,7,10,149] ?_;refine Zx<|BV Y<|Az<|Zt<|AU<|Zx<|Zg<|Zm Y<|Ya (n:=1) Y Y<|AN Y<|DH (e:=[(6,_),(7,_)]) (h:=by exact ⟨k+1,_,cs,sl,V,⟨by omega,by omega,G⟩,V,V⟩)
    refine Yf 2 CM V rfl DP Y<|Yl Fc Y<|Zf Y Y<|Ae (t:=129) Y V (fun J=>?_) (fun J=>?_);focus
     refine Yf 6 CM V rfl DP Y<|Yl Fc Y<|Sk 2 V ?_;refine Ae (t:=133) Y V (fun J=>?_) (fun J=>?_);focus
      refine Yf 3 CM V rfl Dg Y<|DK Y Wh (A7 (cs:=#[_,_,_]) Hv Dg Y BW B5) V rfl<|Yf 7 CM V rfl Dg Y<|DK Y Wh (Pa #[_,_,_] Hv Dg Y) V rfl<|Yg (Li AG HS Ge A5 A4 Y Y) ?_;refine Sk 3 V ?_;refine AZ (t:=141) Y V (fun J=>?_) (fun J=>?_);refine Sk 8 V<|Z0<|Zn [0,3,4,5,6,7,10,149] ?_;refine Zx<|BV Y<|Az<|Zt<|AU<|Zx<|Zg<|Zm Y<|Ya (n:=1) Y Y<|AN Y<|DH (e:=[(6,_),(7,_)]) (h:=by exact ⟨k+1,_,cs,sl,V,⟨by omega,by omega,G⟩,V,V⟩)
     rotate_left
     focus
      refine Sk 8 V ?_
    rotate_left 2
    focus
     refine Sk 12 V ?_
    all_goals
     refine Zf Y Y<|Yg (CW (n:=0) Y Y)<|Zf Y Y<|AZ (t:=144) Y V (fun J=>?_) (fun J=>?_);focus
      refine Zf Y Y<|ER Y (Gm (n:=5) Y Y A0) V rfl ?_;refine Yg (Bg (n:=0) Y Y)<|Sk 2 V<|Z0<|Zn [0,3,4,5,6,7,10,149] ?_;refine Zx<|Ad Y (fun wz=>?_) (fun wz=>?_);refine Az<|Zt<|AU<|Zx<|Zg<|Zm Y<|Ya (n:=1) Y Y<|AN Y<|DH (e:=[(6,_),(7,_)]) (h:=by exact ⟨k+1,_,cs,sl,V,⟨by omega,by omega,G⟩,V,V⟩)
     rotate_left
     focus
      refine Sk 5 V<|Z0<|Zn [0,3,4,5,6,7,10,149] ?_;refine Zx<|DY Y ?_
     all_goals
      refine AB<|HC (by exact ⟨trivial,V,V⟩)
   rintro _ _ ⟨_,rfl,rfl⟩;refine B7 Y<|Zv (AJ GF Y)<|AF Y<|Zb [15,0,3,4,5,6,7,10] ?_;refine C9 (e0:=[(15,_)]) (H0:=[]) (fun e H=>∃(j:Nat),(j<=cs.length)/\e=[(15,I4 (j:Int))]/\H=[]) Wp ?hx_27 ?hy_27
   case hx_27=>
    refine AQ<|Zb [15,0,3,4,5,6,7,10] ?_;refine Av (e0:=[(15,_)]) (fun m e H=>∃(j:Nat),m=0+j/\(j<=cs.length)/\e=[(15,I4 (j:Int))]/\H=[]) (by exact ⟨cs.length,V,B4 _,V,V⟩) Wp ?_;rintro _ _ _ ⟨j,rfl,hj,rfl,rfl⟩;refine Zq<|Zq<|Au (n:=35) (0::1::3::7::7::23::63::127::255::7::519::2047::4095::8191::8191::24575::65535::131071::262143::8191::532479::2097151::4194303::8388607::8388607::25165823::67108863::134217727::268435455::8388607::545259519::2147483647::4294967295::8589934591::17179869183::[]) 0 AG AG V<|A1 0 V (AA Y)<|A1 1 V (CW (n:=0) Y Y)<|A1 2 V (AA Y)<|CS (t:=154) Y (fun gy=>?_) (fun gy=>?_);focus
     rw [Cp gy];obtain ⟨y,hy⟩:∃y,cs[j -1]?=some y:=⟨_,Bk A0⟩;obtain ⟨gl,o8,oq,zl,lv,l9,pz,Z⟩:=EG G A0;injection lv with hv1 hv2 hv3
     subst hv1 l9;obtain ⟨bf,mR⟩:=sN Z hy;refine B1 3 V (AA Y)<|B1 4 V (AA Y)<|B1 5 V (C8 (n:=1) Y Y A0 A0)<|B1 6 V (A9 GF D2 Y Y A0)<|B1 7 V (Aj (off:=0) CM V rfl A4 Y)<|DG 8 V Wh (BZ A5 Y (by simpa using bf))<|B1 9 V (AL (off:=0) CM V rfl A4 Y)<|DG 10 V Wh (BZ A5 Y B5)<|B1 11 V (EE Y Y)<|B1 12 V (AA Y)<|CS (t:=164) Y (fun O=>?_) (fun O=>?_);·
      rw [Cp O];refine AK 13 V<|AK 14 V<|AK 15 V<|AK 16 V<|AK 17 V<|AK 18 V<|AK 19 V<|AK 20 V<|AK 21 V<|AK 22 V<|AK 23 V<|AK 24 V<|AK 25 V<|AK 26 V<|AK 27 V<|AK 28 V<|AK 29 V<|AK 30 V<|AK 31 V<|AK 32 V<|B1 33 V (Ay Y Y)<|A1 34 V (Ay Y Y)<|Am<|Zn [0,3,4,5,6,7,10,15,186] ?_;refine Zx<|BV Y<|B3<|AQ<|Zg<|Zm Y<|Yb (n:=1) Y Y<|AN Y<|A8<|HN (by exact ⟨j -1,V,by omega,V,V⟩)
     focus
      rw [CC O];refine B1 13 V (AA Y)<|B1 14 V (AA Y)<|B1 15 V (C8 (n:=1) Y Y A0 A0)<|B1 16 V (A9 GF D2 Y Y A0)<|B1 17 V (Aj (off:=0) CM V rfl A4 Y)<|DG 18 V Wh (BZ A5 Y (by simpa using bf))<|B1 19 V (AL (off:=0) CM V rfl A4 Y)<|DG 20 V Wh (BZ A5 Y B5)<|B1 21 V (Bd Y Y)<|B1 22 V (AA Y)<|CS (t:=174) Y (fun O=>?_) (fun O=>?_);focus
       rw [Cp O];refine B1 23 V (AA Y)<|B1 24 V (AA Y)<|B1 25 V (C8 (n:=1) Y Y A0 A0)<|B1 26 V (A9 GF D2 Y Y A0)<|B1 27 V (Aj (off:=1) CM V rfl A4 Y)<|DG 28 V Wh (BZ A5 Y (by simpa using mR))<|B1 29 V (AL (off:=1) CM V rfl A4 Y)<|DG 30 V Wh (BZ A5 Y B5)<|B1 31 V (EE Y Y)<|B1 32 V (Ay Y Y)<|B1 33 V (BC Y Y)<|A1 34 V (Ay Y Y)<|Am<|Zn [0,3,4,5,6,7,10,15,186] ?_;refine Zx<|Ad Y (fun x9=>?_) (fun x9=>?_);refine B3<|AQ<|Zg<|Zm Y<|Yb (n:=1) Y Y<|AN Y<|A8<|HN (by exact ⟨j -1,V,by omega,V,V⟩)
      rotate_left
      focus
       rw [CC O];refine AK 23 V<|AK 24 V<|AK 25 V<|AK 26 V<|AK 27 V<|AK 28 V<|AK 29 V<|AK 30 V<|AK 31 V<|B1 32 V (BC Y Y)<|B1 33 V (BC Y Y)<|A1 34 V (Ay Y Y)<|Am<|Zn [0,3,4,5,6,7,10,15,186] ?_;refine Zx<|DY Y ?_
    rotate_left 2
    focus
     rw [CC gy];refine AK 3 V<|AK 4 V<|AK 5 V<|AK 6 V<|AK 7 V<|AK 8 V<|AK 9 V<|AK 10 V<|AK 11 V<|AK 12 V<|AK 13 V<|AK 14 V<|AK 15 V<|AK 16 V<|AK 17 V<|AK 18 V<|AK 19 V<|AK 20 V<|AK 21 V<|AK 22 V<|AK 23 V<|AK 24 V<|AK 25 V<|AK 26 V<|AK 27 V<|AK 28 V<|AK 29 V<|AK 30 V<|AK 31 V<|AK 32 V<|AK 33 V<|A1 34 V (BC Y Y)<|Am<|Zn [0,3,4,5,6,7,10,15,186] ?_;refine Zx<|DY Y ?_
    all_goals
     refine Az<|Zt<|Zt<|AU<|HC (by exact ⟨j,hj,V,V⟩)
   rintro _ _ ⟨j,hj,rfl,rfl⟩;refine Au (n:=12) (0::0::0::7::0::16::0::0::192::496::1023::2047::[]) 1568 AG AG V<|A1 0 V (AA Y)<|A1 1 V (AA Y)<|A1 2 V (AA Y)<|A1 3 V (Ey GF D2 Y Y Y A0)<|Fo 4 V Wh (Pa #[_,_,_,_,_,_,_,_,_,_] G1 D2 Y)<|A1 6 V (AA Y)<|A1 7 V (AA Y)<|A1 8 V (Bv GF D2 Y Y A0)<|Yw 5 511 V (Ah (vs:=[_]) (cs:=[_,_,_,_,_,_,_,_,_,_]) GF D2 MT Y V rfl V rfl V)<|AE fun gb=>Yw 9 1023 V (BL (by_:=80) (sz:=10) GF (V:Tryz.prog.info? 126=some Tryz.t126) V rfl V rfl Y (En 10 126 gb 1 (DT [c]) V AH) Y (Ib G j (cs.length -j) _ A0) Wo Wo (by exact fun u hu=>XT cs u (Lo hu)) A0 A0) ?_;rintro _ _ ⟨Pn,bn,rfl⟩;obtain ⟨Gl,E5,rfl⟩:=bn.form;refine Yw 10 2047 V (JK (by_:=80) (sz:=10) GF (V:Tryz.prog.info? 126=some Tryz.t126) V rfl V rfl Y (Gd G j _ hj) Y (JW bn) Wo Wo A0 A0 A0) ?_;rintro _ _ ⟨Ps,cu,rfl⟩;have qa:=BJ cu (n':=(cs.take j++[c]++cs.drop j).length) (xs':=DT (cs.take j++[c]++cs.drop j)) (by simp only [C7,CI,D4,HI];omega) (by rw [Jf,Jf,UV,UW,G0])
   obtain ⟨Gw,FT,rfl⟩:=cu.form;refine A1 11 V (Aq Y)<|Am<|A8<|Zx<|Zg<|Zm Y<|Ya (n:=1) Y Y<|AN Y<|DH (e:=[(6,_),(7,_)]) (h:=by exact ⟨k+1,_,cs.take j++[c]++cs.drop j,_,V,⟨by omega,by simp only [C7,CI,D4,HI];omega,qa⟩,V,V⟩)
  refine Az<|Zt<|Zt<|AU<|Zx<|B7 Y<|Zp Y V<|Zh 1 MD V rfl A4 Y<|Zl A5 Y<|Ya (n:=1) Y Y<|Zm Y<|Zv (BK (vs:=[(0,_),(1,_)]) (cs:=#[_,_]) Y (AY (pl:=#[(0,1),(1,1)]) SP G3 (fun _=>by kernel_rfl) V))<|Ze (Al SP #[_,_])<|AE fun rb=>Xe (Ao Fk Y Y (by(simp [Value.oneCell',Value.cells];done)) Wu (by exact (rfl:_=(#[I4 ((E.length:Int)+1),.slice X cs.length W]:As))) DO (by exact B4 _) (by exact Aw _))<|A6<|B7 Y<|Zo Wh (Pa #[_,_] J1 Fk Y)<|Zc [_,_] Y call30 Y rfl (YP sp (E.length:Int) ((E.length:Int)+1) _ (Bq E) sv sl X W cs ax (WC G A0) sj zm A0) ?_;rintro _ _ ⟨_,qx,rfl⟩;rcases qx with⟨p9,v2,ve,rfl,qz,rfl⟩|⟨p9,rfl,rfl⟩
  ·
   refine AN Y<|Zn [0,3,4,5,16,17] ?_;refine Zx<|B7 Y<|Zv (Bg (n:=0) Y Y)<|A6<|Ad Y (fun he=>?_) (fun he=>?_);·
    have gm:UA (E++[⟨(E.length:Int)+1,X,W,cs⟩]):=fun r hr=>by
     rcases GS.1 hr with hr|hr
     · exact l8.2 r hr
     · rw [HA.1 hr];exact Ew G
    have kv:Dy (E++[⟨(E.length:Int)+1,X,W,cs⟩]):=U.snoc p9 (by show cs.length<=3;omega);have kz:(((E++[(⟨(E.length:Int)+1,X,W,cs⟩:Bz)]).length:Nat):Int)=(E.length:Int)+1:=by rw [C7,HI];omega
    have r9:BS 5 91 v2 (Bq (E++[⟨(E.length:Int)+1,X,W,cs⟩])).length (Aa (Bq (E++[⟨(E.length:Int)+1,X,W,cs⟩]))) ve:=by rw [FZ];exact qz
    have p8:∀r∈E++[(⟨(E.length:Int)+1,X,W,cs⟩:Bz)],DJ (MM++sl) (.slice r.q r.cs.length r.cap) r.cs:=by
     intro r hr;rcases GS.1 hr with hr|hr
     · exact aU (ek r hr) sl
     · rw [HA.1 hr];exact PZ (WC G A0) MM
    refine ES (s1:=MM) (s2:=sl) Wo Wo ?_;refine Zg<|Zm Y<|Zo Wh (Pa #[_,_] J1 Fk Y)<|Ze (Ah (vs:=[_]) (cs:=[_,_]) G4 Fk SP Y V rfl V rfl V)<|AE fun gq=>Ze (BL (by_:=32) (sz:=2) G4 (V:Tryz.prog.info? 78=some Tryz.t78) V rfl V rfl Y (af) Y (D7 2 gq 1 1 78 (0,0) [I4 ((E.length:Int)+1),.slice X cs.length W] V) Wo Wo HH A0 A0) ?_;rintro _ _ ⟨sO,qb,rfl⟩;have qy:=BJ qb (n':=(E++[(⟨(E.length:Int)+1,X,W,cs⟩:Bz)]).length) (xs':=Dn (E++[⟨(E.length:Int)+1,X,W,cs⟩])) (by rw [C7,HI]) (by rw [Oy];rfl)
    obtain ⟨gO,cO,rfl⟩:=qb.form;refine AN Y<|A8<|Zx<|Zg<|Zm Y<|Ya (n:=1) Y Y<|AN Y<|DH (e:=[(3,_),(5,_)]) (h:=by exact ⟨i+1,E++[⟨(E.length:Int)+1,X,W,cs⟩],_,_,ve,sO,MM++sl,rfl,⟨by omega,kv,⟨by rw [C7,HI];omega,gm⟩,r9,qy,p8⟩,rfl,by rw [kz]⟩)
   exact absurd V he
  refine AN Y<|Zn [0,3,4,5,16,17] ?_;refine Zx<|B7 Y<|Zv (Bg (n:=0) Y Y)<|A6<|Ad Y (fun he=>by cases he)<|fun he=>AB<|A8<|Zx<|Zg<|Zm Y<|Ya (n:=1) Y Y<|AN Y<|DH (e:=[(3,_),(5,_)]) (h:=by exact ⟨i+1,E,_,_,sv,so,MM,V,⟨by omega,U,⟨by omega,l8.2⟩,ax,af,ek⟩,V,V⟩)
 refine Az<|Zt<|Zt<|AU<|Zx<|Zq<|ES (s1:=so) (s2:=MM) Wo Wo ?_;refine Zg<|Zm Y<|AM Y<|AO V results70 Y (by exact ⟨E,_,U,⟨by omega,l8.2⟩,NG af A0 ek,V⟩)
def K2(k:Int×Int):A3:= .agg #[I4 k.1,I4 k.2]
def KD(k:Int×Int):Prop:=(Lit.int .i64 k.1).wf=true/\(Lit.int .i64 k.2).wf=true
def SS(r:AV):A3:= .agg r.Ax3
theorem zC:∀a b,K2 a=K2 b->a=b:=by
 rintro ⟨a,b⟩ ⟨c,d⟩ h;unfold K2 at h;simp only [Value.agg.injEq,Array.mk.injEq,ml,Value.int.injEq,and_true,fX]at h;rw [h.1,h.2]
theorem Z7(P:Program)(d:Nat)(a:Int){t:An}(g:P.underlying t=some (.int .i64))(h:(Lit.int .i64 a).wf=true):P.keyLits (d+1) t [.int .i64 a]=some [.int .i64 a]:=by
 unfold Program.keyLits;rw [g];simp [h]
theorem rA:JJ prog 134 K2 KD:=JJ.ofLaw (deep_law (m:=3) (by decide) (by kernel_rfl) (by kernel_rfl) (by kernel_rfl)) (by
 rintro ⟨a,b⟩ ⟨z,E⟩;have y:Tryz.prog.types.size+1=(Tryz.prog.types.size -1)+1+1:=by
  have:0<Tryz.prog.types.size:=I2 AG;omega
 have hc:Tryz.prog.cellsOf 3=1:=by kernel_rfl
 have g:Tryz.prog.cellsOf 134=2:=by kernel_rfl
 have J:Tryz.prog.keyType 134=true:=by kernel_rfl
 have I:(K2 (a,b)).formed prog 134=true:=by
  unfold Value.formed K2;rw [gx];simp [g]
 unfold keyOf;rw [gx];simp only [J,I,Bool.and_self,Mp];obtain ⟨d,G⟩:∃d,Tryz.prog.types.size+1=d+1+1:=⟨_,y⟩;rw [G];unfold Program.keyLits;rw [gx];have K:=Z7 prog d a Ge z
 have M:=Z7 prog d b Ge E;simp [K2,Value.cells,hc,g,K,M]) zC
structure IX(l:List ((Int×Int)×A3))(rs:List AV):Prop where
 mem:∀p,p∈l↔∃r∈rs,p=((r.t,r.k),SS r)
 kd:∀r∈rs,KD (r.t,r.k)
theorem qH:IX [] []:=⟨fun p=>by simp,fun r h=>by cases h⟩
variable{l:List ((Int×Int)×A3)}{rs:List AV}
theorem IX.keys(h:IX l rs):∀p∈l,KD p.1:=fun p g=>by
 obtain ⟨r,m,rfl⟩:=(h.mem p).1 g;exact h.kd r m
theorem Y5{a b:AV}(h:SS a=SS b):a=b:=by
 obtain ⟨t,k,⟨x,y,z⟩⟩:=a;obtain ⟨m,g,⟨E,G,I⟩⟩:=b;unfold SS at h;simp only [Value.agg.injEq,Array.mk.injEq,ml,Value.int.injEq,and_true,fX]at h;obtain ⟨rfl,rfl,rfl,rfl,rfl⟩:=h;rfl
theorem IX.len{es:Array MapEntry}{y:Nat}(G:FY K2 es y l)(h:IX l rs)(J:BP rs):l.length=rs.length:=by
 have E:l.Nodup:=by
  have:=G.keys;rw [Ys,eV]at this;rw [Ys];exact this.imp (fun g e=>g (by rw [e]))
 have h2:(rs.map (fun r=>((r.t,r.k),SS r))).Nodup:=by
  rw [Ys,eV];refine J.imp (fun{a b} hab e=>?_);have z:=Y5 (Prod.mk.inj e).2
  subst z;unfold AV.lt2 at hab;omega
 have I:l.Perm (rs.map (fun r=>((r.t,r.k),SS r))):=by
  rw [fc E h2];intro p;rw [h.mem p,HX];constructor;· rintro ⟨r,m,rfl⟩;exact ⟨r,m,rfl⟩
  · rintro ⟨r,m,rfl⟩;exact ⟨r,m,rfl⟩
 rw [I.length_eq,C2]
theorem IX.get{es:Array MapEntry}{z:Nat}(G:FY K2 es z l)(h:IX l rs)(J:BP rs)(t k:Int):
 (Je (t,k) l).getD (SS AV.zero)=SS (Gq rs t k).1/\(Je (t,k) l).isSome=(Gq rs t k).2:=by
 cases hg:(Gq rs t k).2 with
 |true=>
  obtain ⟨r,m,hi,_,E⟩:=KC hg;have y:((t,k),SS r)∈l:=(h.mem _).2 ⟨r,m,by rw [show t=r.t from hi.1.symm,show k=r.k from hi.2.symm]⟩
  rw [JD G.keys y,E];exact ⟨V,V⟩
 |false=>
  have g:∀r∈rs,¬r.is t k:=fun r m hi=>by rw [LG J m hi]at hg;cases hg
  have hn:Je (t,k) l=none:=QS (fun p I e=>by
   obtain ⟨r,m,rfl⟩:=(h.mem p).1 I;injection e with e1 e2
   exact g r m ⟨e1,e2⟩)
  rw [hn,QX g];exact ⟨V,V⟩
theorem IX.put{E:List ((Int×Int)×A3)}{c:Chg}(h:IX l rs)(z:BP rs)(y:Gy rs c)(G:c.has=true)(I:KD (c.t,c.k))(J:∀p,p∈E↔p=((c.t,c.k),SS ⟨c.t,c.k,c.n⟩)\/(p∈l/\p.1≠(c.t,c.k))):IX E (Ej rs c):=by
 refine ⟨fun p=>?_,fun r m=>?_⟩
 · rw [J p]
   constructor
   · rintro (rfl|⟨g,h2⟩)
     · exact ⟨_,(Gp z y _).2 (.inr ⟨G,rfl⟩),rfl⟩
     · obtain ⟨r,m,rfl⟩:=(h.mem p).1 g
       exact ⟨r,(Gp z y _).2 (.inl ⟨m,fun hi=>h2 (by rw [show r.t=c.t from hi.1,show r.k=c.k from hi.2])⟩),rfl⟩
   · rintro ⟨r,m,rfl⟩
     rcases (Gp z y _).1 m with⟨g,h2⟩|⟨_,rfl⟩
     · exact .inr ⟨(h.mem _).2 ⟨r,g,rfl⟩,fun e=>h2 (by injection e with e1 e2;exact ⟨e1,e2⟩)⟩
     · exact .inl rfl
 · rcases (Gp z y _).1 m with⟨g,_⟩|⟨_,rfl⟩
   · exact h.kd r g
   · exact I
theorem IX.drop{G:List ((Int×Int)×A3)}{c:Chg}(h:IX l rs)(z:BP rs)(y:Gy rs c)(E:c.has=false)(I:∀p,p∈G↔p∈l/\p.1≠(c.t,c.k)):IX G (Ej rs c):=by
 refine ⟨fun p=>?_,fun r m=>?_⟩
 · rw [I p]
   constructor
   · rintro ⟨g,h2⟩
     obtain ⟨r,m,rfl⟩:=(h.mem p).1 g;exact ⟨r,(Gp z y _).2 (.inl ⟨m,fun hi=>h2 (by rw [show r.t=c.t from hi.1,show r.k=c.k from hi.2])⟩),rfl⟩
   · rintro ⟨r,m,rfl⟩
     rcases (Gp z y _).1 m with⟨g,h2⟩|⟨h9,_⟩
     · exact ⟨(h.mem _).2 ⟨r,g,rfl⟩,fun e=>h2 (by injection e with e1 e2;exact ⟨e1,e2⟩)⟩
     · rw [E]at h9;cases h9
 · rcases (Gp z y _).1 m with⟨g,_⟩|⟨h9,_⟩
   · exact h.kd r g
   · rw [E]at h9;cases h9
theorem wW{n:Int}(h:-9223372036854775808<=n/\n<=9223372036854775807):(Lit.int .i64 n).wf=true:=by
 simp [Lit.wf,IntKind.min,IntKind.max,IntKind.signed,IntKind.bits];omega
theorem sM{c:Chg}(h:c.ok):KD (c.t,c.k):=by
 obtain ⟨g,h2,_,_⟩:=h;have m:(0<=c.t/\c.t<=3)/\(1<=c.k/\c.k<=1000000):=by
  cases hh:c.had with
  |true=>
   have:c.before.ok:=Z1 (fun hn=>h2 (.inl ⟨hh,hn⟩));rw [KE hh]at this;exact this.2
  |false=>
   cases hs:c.has with
   |true=>
    have:c.after.ok:=Z1 (fun hn=>h2 (.inr ⟨hs,hn⟩));rw [Hl hs]at this;exact this.2
   |false=>exact absurd (.inl ⟨by rw [hh];decide,by rw [hs];decide⟩) g
 exact ⟨wW (by show _<=c.t/\c.t<=_;omega),wW (by show _<=c.k/\c.k<=_;omega)⟩
theorem SE(c:Chg):BB prog 73 #[.agg c.Ax2] [] (.tuple #[.agg #[I4 (Er c c.has c.n).t,I4 (Er c c.has c.n).k,I4 (Er c c.has c.n).v.a,I4 (Er c c.has c.n).v.b,I4 (Er c c.has c.n).v.c],.bool c.has]):=by
 refine Se func73 ntmps73 [0] ?_;intro u R;refine A2<|Ze (Bx #[_,_,_,_,_,_,_,_,_,_])<|AE fun g=>Ze (Al DS #[_,_,_,_,_])<|AE fun m=>AF Y<|A2<|Zo Wh (A7 (cs:=#[_,_,_,_,_,_,_,_,_,_]) G1 D2 Y BW B5)<|Zh 6 CM V rfl DP Y<|Zl Fc Y<|Zh 7 CM V rfl Dg Y<|Zo Wh (A7 (cs:=#[_,_,_]) Hv Dg Y BW B5)<|Xr [_,_,_] Y call140 Y V (WZ c c.has c.n)<|Sk 2 V<|Xe (Xw AW _)<|AN Y<|Zn [2,3] ?_;refine Zx<|AC<|Bo V results73 Y Wh (Ai C5 AW Wn (V)) Y (by exact ⟨V,V⟩)
theorem nV:CJ prog 24 #[] [] (fun r H'=>∃sp g,r=I5 sp/\H'=[[(sp,.cells #[.map (some g),I4 0] 131 (0,0))],[(g,.map #[] 0)]]):=by
 refine Se func24 ntmps24 [] ?_;intro u R;refine A2<|AF Y<|A2<|Ze (Po)<|AE fun g=>Zv (BK (vs:=[(0,_)]) (cs:=#[_,_]) Y (AY (pl:=#[(0,1),(1,1)]) zeroValue129 cH (fun _=>by kernel_rfl) V))<|Zv (BK (vs:=[(0,_)]) (cs:=#[_,_]) Y (AY (pl:=#[(0,2)]) zeroValue131 cI (fun _=>by kernel_rfl) V))<|Ze (Bx #[_,_])<|AE fun sp=>AM Y<|AO V results24 Y (by exact ⟨sp,g,V,V⟩)
theorem uQ(sp mb:Nat)(p rp:Int)(es:Array MapEntry)(ck:Nat)(lm:List ((Int×Int)×A3))(rs:List AV)(M:List AR)(q:C1)(cap:Nat)(cs:List Chg)(hm:FY K2 es ck lm)(hR:IX lm rs)(hO:DJ M (.slice q cs.length cap) cs)(hs:BP rs)(hn:rs.length<=2000)(Z:Ns rs p rp cs):
 BB prog 72 #[I5 sp,.agg #[I4 rp,.slice q cs.length cap]] [[(sp,.cells #[.map (some mb),I4 p] 131 (0,0))],[(mb,.map es ck)],M] (.bool true):=by
 have kv:=mL;obtain ⟨p9,gm,e9,kz,hg⟩:=id hO;injection e9 with e91 e92 e93
 subst e91 e93;have E:=Z.ok
 have l8:=Z.pos;have gy:=E.len
 have l9:=E.pos;have gq:=U2 E.ord
 have cu:=hR.len hm hs;refine Se func72 ntmps72 [0,1] ?_;intro u R;refine A2<|Ze (Bx #[_,_])<|AE fun b1=>CT Y<|Zq<|Au (n:=14) (0::1::3::7::15::31::15::79::207::463::975::1999::4095::8191::[]) 2 AG AG V<|Fo 0 V Wh (A7 (cs:=#[_,_]) J1 Fk Y BW B5)<|Yw 1 3 V (Zu [_] Y call139 Y V (Q3 rp q cap cs M hO)) ?_;rintro _ _ ⟨rfl,rfl⟩;rw [Cp E];refine A1 2 V (CR Y)<|A1 3 V (AA Y)<|CQ (t:=13) Y (fun X=>?_) (fun X=>?_);·
  rw [X];cases X
 rw [X];refine B1 4 V (AL (off:=0) G3 V rfl A4 Y)<|DG 5 V Wh (BZ A5 Y B5)<|B1 6 V (AA Y)<|B1 7 V (EY Y V)<|B1 8 V (AL (off:=0) cI V rfl dr Y)<|B1 9 V (Aj (off:=1) cH V rfl A4 Y)<|DG 10 V Wh (BZ A5 Y B5)<|B1 11 V (Fw Y Y (IntWalk.i64_in _ A0))<|B1 12 V (ED Y Y)<|A1 13 V (BC Y Y)<|Am<|Zn [0,3,23] ?_;refine Zx<|Ad Y (fun h2=>?_) (fun h2=>?_);·
  exfalso;contradiction
 refine B3<|B7 Y<|Zp Y V<|Zh 0 cI V rfl dr Y<|Zv (Aj (off:=0) cH V rfl sizeOf127 Y)<|Zl isAgg127 Y<|Zo Wh (kR hG hm Y)<|CT Y<|A2<|Zh 1 G3 V rfl ID Y<|Zl J0 Y<|Zv (AJ GF Y)<|Zm Y<|A6<|AQ<|Zb [5,33,0,31,32] ?_;refine Av (e0:=[(5,_),(33,_)]) (fun m e H=>∃(i:Nat),m=cs.length -i/\(i<=cs.length)/\e=[(5,I4 (IG rs (cs.take i))),(33,I4 (i:Int))]/\H=[]) (by exact ⟨0,rfl,CD _,by rw [cu];rfl,rfl⟩) Wp ?_;rintro _ _ _ ⟨i,rfl,hi,rfl,rfl⟩;have d9:=Om rs cs i
 refine A2<|Zv (Ak Y Y)<|A6<|Zq<|Ad Y (fun W=>?_) (fun W=>?_);·
  obtain ⟨x,hx⟩:∃x,cs[i]?=some x:=⟨_,Bk W⟩;obtain ⟨g,off,cur,T,zz,rfl,cO,lv,ax⟩:=hg i x hx;have ek:=E.all i x hx
  have bn:=sM ek;obtain ⟨bf,O⟩:=Z.fit x (Fm hx);have G:=hR.get hm hs x.t x.k
  obtain ⟨I,U⟩:∃I,I=Gq rs x.t x.k:=⟨_,rfl⟩;rw [<-U]at G bf O;clear U;refine B3<|Zq<|AQ<|A2<|BN (A9 GF D2 Y Y A0)<|Cj (cs:=[(g,.cells cur T zz)]) (by simp [cO]) (A7 (cs:=x.Ax2) G1 D2 Y A0 ax) V rfl<|Ze (Al MT #[_,_,_,_,_,_,_,_,_,_])<|AE fun cb=>Xe (Xw D2 x.Ax2)<|A6<|Zq<|Au (n:=17) (0::1::3::7::15::0::32::0::128::480::1023::2047::4095::4095::0::24575::65535::[]) 49152 AG AG V<|A1 0 V (AA Y)<|A1 1 V (EY Y V)<|A1 2 V (AL (off:=0) cI V rfl dr Y)<|A1 3 V (Aj (off:=0) cH V rfl sizeOf127 Y)<|B6 4 V isAgg127 Y<|A1 5 V (AL (off:=0) CM V rfl A4 Y)<|B6 6 V A5 Y<|A1 7 V (AL (off:=1) CM V rfl A4 Y)<|B6 8 V A5 Y<|A1 9 V (BK (vs:=[(0,_),(1,_)]) (cs:=#[_,_]) Y (AY (pl:=#[(0,1),(1,1)]) zeroValue134 gx (fun _=>by kernel_rfl) V))<|Fo 10 V Wh (QO rA hG DS hm hR.keys (bn) (G) Y Y)<|A1 11 V (AA Y)<|A1 12 V (Bn Y V)<|A1 13 V (Bn Y V)<|Zz (l:=[14])<|C6 [true,true,true,true] [(10,(_,_)),(8,(_,_)),(6,(_,_)),(4,(_,_))] V rfl (Al DS #[_,_,_,_,_]) ?_ (fun _ _ h=>h.elim) Ar;rintro _ _ ⟨ob,rfl,rfl⟩;refine CA<|Yw 15 65535 V (Xw AW #[I4 I.1.t,I4 I.1.k,I4 I.1.v.a,I4 I.1.v.b,I4 I.1.v.c])<|DA<|A1 16 V (Aq Y)<|Am<|Zn [0,5,7,8,9,31,32,33] ?_;refine Zx<|C0 Y<|Zh 2 CM V rfl DP Y<|Zl Fc Y<|Zv (Ho MY Y Y)<|Zm Y<|AZ (t:=55) Y V (fun af=>?_) (fun af=>?_);·
   exfalso;contradiction
  refine Sk 2 V ?_;refine Ae (t:=57) Y V (fun J=>?_) (fun J=>?_);focus
   refine Yf 2 F1 V rfl Dg Y<|DK Y Wh (A7 (cs:=#[_,_,_]) Hv Dg Y BW B5) V rfl<|Yf 3 CM V rfl Dg Y<|DK Y Wh (A7 (cs:=#[_,_,_]) Hv Dg Y BW B5) V rfl<|Yg (Lh AG HS Ge A5 A4 Y Y) ?_;refine Sk 2 V<|Z0<|Zn [0,5,7,31,32,33,64] ?_;refine Zx<|Ad Y (fun K=>?_) (fun K=>?_);exfalso;exact K (O J)
  rotate_left
  focus
   refine Sk 7 V<|Z0<|Zn [0,5,7,31,32,33,64] ?_;refine Zx<|DY Y ?_
  all_goals
   refine B3<|Zq<|A2<|Zh 2 CM V rfl DP Y<|Zl Fc Y<|A6<|Af Y (fun z=>?_) (fun z=>?_);·
    refine Zg<|Zm Y<|BN (GI Y Y (IntWalk.i64_in _ A0))<|AF Y<|A2<|Zh 6 CM V rfl DP Y<|Zl Fc Y<|A6<|Af Y (fun y=>?_) (fun y=>?_);·
     refine Zg<|Zm Y<|Yi Y Y<|AN Y<|A8<|Zx<|GP Y Y Y<|DH (e:=[(5,_),(33,_)]) (h:=by exact ⟨i+1,rfl,by omega,by rw [wY hx z y],rfl⟩)
    refine AB<|A8<|Zx<|GP Y Y Y<|DH (e:=[(5,_),(33,_)]) (h:=by exact ⟨i+1,rfl,by omega,by rw [wZ hx z y],rfl⟩)
   refine AB<|BT<|Zh 6 CM V rfl DP Y<|Zl Fc Y<|A6<|Af Y (fun y=>?_) (fun y=>?_);·
    refine Zg<|Zm Y<|Yi Y Y<|AN Y<|A8<|Zx<|GP Y Y Y<|DH (e:=[(5,_),(33,_)]) (h:=by exact ⟨i+1,rfl,by omega,by rw [wh hx z y],rfl⟩)
   refine AB<|A8<|Zx<|GP Y Y Y<|DH (e:=[(5,_),(33,_)]) (h:=by exact ⟨i+1,rfl,by omega,by rw [wm hx z y],rfl⟩)
 have ei:i=cs.length:=by omega
 subst ei;rw [HJ]at d9⊢;refine Az<|Zt<|Zt<|AU<|Zx<|B7 Y<|Zv (JB Y Y)<|AM Y<|AO rfl results72 Y (by exact ⟨by rw [Cp Z.size],rfl⟩)
theorem nW(sp O:Nat)(p rp:Int)(es:Array MapEntry)(G:Nat)(lm:List ((Int×Int)×A3))(rs:List AV)(M:List AR)(q:C1)(cap:Nat)(cs:List Chg)(hm:FY K2 es G lm)(hR:IX lm rs)(hO:DJ M (.slice q cs.length cap) cs)(hs:BP rs)(hn:rs.length<=2000)(hA:Ns rs p rp cs):
 CJ prog 28 #[I5 sp,.agg #[I4 rp,.slice q cs.length cap]] [[(sp,.cells #[.map (some O),I4 p] 131 (0,0))],[(O,.map es G)],M] (fun r H'=>r=I4 0/\∃X U d9,FY K2 X U d9/\IX d9 (Du rs cs)/\H'=[[(sp,.cells #[.map (some O),I4 rp] 131 (0,0))],[(O,.map X U)],M]):=by
 have mR:=mL;obtain ⟨p9,l9,e9,o8,hg⟩:=id hO;injection e9 with e91 e92 e93
 subst e91 e93;have z:=hA.ok
 have o9:=hA.pos;have lv:=z.len
 have oq:=z.pos;have ax:=U2 z.ord
 refine Se func28 ntmps28 [0,1] ?_;intro u R;refine A2<|Ze (Bx #[_,_])<|AE fun b1=>CT Y<|AQ<|B7 Y<|Zv (G9 hQ Y Y)<|AF Y<|Af Y (fun h1=>by cases h1)<|fun h1=>B7 Y<|Zo Wh (A7 (cs:=#[_,_]) J1 Fk Y BW B5) ?_;refine Xr [_,_] Y call72 Y V (uQ sp O p rp es G lm rs M q cap cs hm hR hO hs hn hA) ?_;refine Zv (CR Y)<|AF Y<|Af Y (fun h2=>by cases h2)<|fun h2=>AB<|A8<|Zx<|Zq<|A2<|Zh 1 G3 V rfl ID Y<|Zl J0 Y ?_;refine Zv (AJ GF Y)<|Zm Y<|Z0<|Zn [0,3,19,20,21] ?_;refine Zx<|AQ<|Zb [21,0,3,19,20] ?_;refine Av (e0:=[(21,_)]) (fun m e H=>∃(i:Nat) (es:Array MapEntry) (G:Nat) (lm:List ((Int×Int)×A3)),m=cs.length -i/\(i<=cs.length/\FY K2 es G lm/\IX lm (Du rs (cs.take i)))/\e=[(21,I4 (i:Int))]/\H=[[(O,.map es G)]]) (by exact ⟨0,es,G,lm,rfl,⟨CD _,hm,by rw [Hh];exact hR⟩,rfl,rfl⟩) Wp ?_;rintro _ _ _ ⟨i,gm,ek,l8,rfl,⟨hi,J,y⟩,rfl,rfl⟩;refine A2<|Zv (Ak Y Y)<|A6<|Zq<|Ad Y (fun bn=>?_) (fun bn=>?_);·
  obtain ⟨x,hx⟩:∃x,cs[i]?=some x:=⟨_,Bk bn⟩;obtain ⟨g,off,cur,T,zz,rfl,kv,p8,gq⟩:=hg i x hx;have kz:=z.all i x hx
  have I:=sM kz;obtain ⟨cO,gy⟩:=LH hs ax hA.fit i hi;have bf:=gy i x (B4 _) hx
  refine B3<|Zq<|AQ<|A2<|BN (A9 GF D2 Y Y A0)<|Cj (cs:=[(g,.cells cur T zz)]) (by simp [kv]) (A7 (cs:=x.Ax2) G1 D2 Y A0 gq) V rfl ?_;refine Ze (Al MT #[_,_,_,_,_,_,_,_,_,_])<|AE fun cb=>Xe (Xw D2 x.Ax2) ?_;refine A6<|A2<|Zh 0 CM V rfl A4 Y<|Zl A5 Y ?_;refine Zh 1 CM V rfl A4 Y<|Zl A5 Y ?_;refine Zv (BK (vs:=[(0,_),(1,_)]) (cs:=#[_,_]) Y (AY (pl:=#[(0,1),(1,1)]) zeroValue134 gx (fun _=>by kernel_rfl) V))<|Ze (Al zeroValue134 #[_,_])<|AE fun kb=>Xe (Ao sizeOf134 Y Y (by(simp [Value.oneCell',Value.cells];done)) Wu (by exact (rfl:_=(#[I4 x.t,I4 x.k]:As))) DO AH (by exact Aw _)) ?_;refine A6<|A2<|Zo Wh (A7 (cs:=#[_,_,_,_,_,_,_,_,_,_]) G1 D2 Y BW B5) ?_;refine Xr [_] Y call73 Y V (SE x) ?_;refine Sk 3 V<|Ze (Al DS #[_,_,_,_,_])<|AE fun xb=>Xe (Xw AW #[I4 (Er x x.has x.n).t,I4 (Er x x.has x.n).k,I4 (Er x x.has x.n).v.a,I4 (Er x x.has x.n).v.b,I4 (Er x x.has x.n).v.c]) ?_;refine AN Y<|Zn [0,3,7,8,9,19,20,21] ?_;refine Zx<|B7 Y<|A6<|Af Y (fun hh=>?_) (fun hh=>?_);focus
   rw [rC hh];refine Au (n:=8) (0::1::3::7::15::0::0::127::[]) 128 AG AG V<|A1 0 V (AA Y)<|A1 1 V (EY Y V)<|A1 2 V (AL (off:=0) cI V rfl dr Y)<|A1 3 V (Aj (off:=0) cH V rfl sizeOf127 Y)<|B6 4 V isAgg127 Y ?_;refine Fo 5 V Wh (A7 (cs:=#[_,_]) isAgg134 sizeOf134 Y BW B5) ?_;refine Fo 6 V Wh (A7 (cs:=#[_,_,_,_,_]) C5 AW Y BW B5) ?_;refine Yw 7 255 V (MH rA hG J y.keys (I) Y Y Y Wo) ?_;rintro _ _ ⟨rfl,Z,W,E,cu,K,rfl⟩;have af:IX E (Du rs (cs.take (i+1))):=by rw [Gi rs cs i x hx];exact y.put cO bf hh I K
  rotate_left
  focus
   refine Au (n:=7) (0::1::3::7::15::0::63::[]) 64 AG AG V<|A1 0 V (AA Y)<|A1 1 V (EY Y V)<|A1 2 V (AL (off:=0) cI V rfl dr Y)<|A1 3 V (Aj (off:=0) cH V rfl sizeOf127 Y)<|B6 4 V isAgg127 Y ?_;refine Fo 5 V Wh (A7 (cs:=#[_,_]) isAgg134 sizeOf134 Y BW B5) ?_;refine Yw 6 127 V (mi rA hG J y.keys (I) Y Y Wo) ?_;rintro _ _ ⟨rfl,Z,W,E,cu,K,rfl⟩;have af:IX E (Du rs (cs.take (i+1))):=by rw [Gi rs cs i x hx];exact y.drop cO bf hh K
  all_goals
   refine Am<|A8<|Zx<|GP Y Y Y<|HN (by exact ⟨i+1,Z,W,E,V,⟨by omega,cu,af⟩,V,V⟩)
 have ei:i=cs.length:=by omega
 subst ei;rw [HJ]at y;refine Az<|Zt<|Zt<|AU<|Zx<|B7 Y<|Zh 0 G3 V rfl A4 Y<|Zl A5 Y ?_;refine Zp Y V<|Zh 0 cI V rfl dr Y<|Zv (Aj (off:=1) cH V rfl A4 Y)<|Xe (Zs A4 Y Y V (hc:=by exact (V:_=(#[.map (some O),I4 rp]:As))) (hi:=by(simp;done))) ?_;refine A6<|A2<|AM Y<|AO V results28 Y (by exact ⟨V,gm,ek,l8,J,y,V⟩)
theorem zP(q:C1)(cap:Nat)(l:List Bz)(M:List AR)(W:DD M (.slice q l.length cap) l)(z:Dy l)(hl:l.length<=1000000)(k:Nat)(hk:k<=l.length):
 CJ prog 6 #[.slice q l.length cap,I4 (k:Int)] [M] (fun r H'=>∃sp G es y lm,r= .tuple #[I5 sp,I4 0]/\FY K2 es y lm/\IX lm (Bq (l.take k))/\H'=[[(sp,.cells #[.map (some G),I4 (k:Int)] 131 (0,0))],[(G,.map es y)],M]):=by
 have ek:=mL;obtain ⟨p9,cO,e9,⟨gm,d9⟩,hg⟩:=id W;injection e9 with e91 e92 e93
 subst e91 e93;refine Se func6 ntmps6 [0,1] ?_;intro u R;refine A2<|Za Y<|AF Y<|C0 Y<|Zv (Ak (n:=0) Y Y)<|Zm Y<|AZ (t:=11) Y V (fun h1=>?_) (fun h1=>?_);·
  exfalso;(cases h1;done)
 refine Sk 2 V<|Yg (AJ G4 Y)<|Yg (CW Y Y)<|H3 Y Y<|A6<|Ad Y (fun h2=>by omega)<|fun h2=>AB<|BT<|Zc [] Y call24 Y V (nV) ?_;rintro _ _ ⟨_,⟨sp,G,rfl,rfl⟩,rfl⟩;refine CT Y<|A2<|Sk 2 V ?_;refine BN (Bb G4 Fk Y Y A0)<|Zv (AJ G4 Y)<|Zm Y<|Z0<|Zn [6,20,21,22] ?_;refine Zx<|AQ<|Zb [22,6,20,21] ?_;refine Av (e0:=[(22,_)]) (fun m e H=>∃(i:Nat) (es:Array MapEntry) (y:Nat) (lm:List ((Int×Int)×A3)),m=k -i/\(i<=k/\FY K2 es y lm/\IX lm (Bq (l.take i)))/\e=[(22,I4 (i:Int))]/\H=[[(sp,.cells #[.map (some G),I4 (i:Int)] 131 (0,0))],[(G,.map es y)]]) (by exact ⟨0,#[],0,[],rfl,⟨CD _,TP _,by rw [Hh];exact qH⟩,rfl,rfl⟩) Wp ?_;rintro _ _ _ ⟨i,es,y,lm,rfl,⟨hi,hm,hR⟩,rfl,rfl⟩;refine A2<|Zv (Ak Y Y)<|A6<|Zq<|Ad Y (fun af=>?_) (fun af=>?_);·
  obtain ⟨r,hr⟩:∃r,l[i]?=some r:=⟨_,Bk A0⟩;obtain ⟨K,g,off,cur,T,zz,rfl,bf,gq,X⟩:=hg i r hr;obtain ⟨hA,h3⟩:=z i r hr;have bn:=hA.pos
  obtain ⟨cu,Z⟩:=z.rows i A0;refine B3<|Zq<|AQ<|A2<|BN (A9 G4 Fk Y Y A0)<|Cj (cs:=[(g,.cells cur T zz)]) (by simp [bf]) (A7 (cs:=#[_,_]) J1 Fk Y A0 X) V rfl<|Ze (Al SP #[_,_])<|AE fun rb=>Xe (Xw Fk #[I4 r.p,.slice r.q r.cs.length r.cap])<|A6<|B7 Y<|Zo Wh (A7 (cs:=#[_,_]) J1 Fk Y BW B5)<|Zc [_,_] Y call28 Y V (nW sp G (i:Int) r.p es y lm (Bq (l.take i)) M r.q r.cap r.cs hm hR K cu Z hA) ?_;rintro _ _ ⟨_,⟨rfl,J,I,E,ax,O,rfl⟩,rfl⟩;have U:IX E (Bq (l.take (i+1))):=by rw [OK,hr];show IX E (Bq (l.take i++[r]));rw [FZ];exact O
  rw [show r.p=((i+1:Nat):Int) by rw [bn];rfl];refine Zv (Cb (n:=0) Y Y)<|A6<|Ad Y (fun h4=>?_) (fun h4=>?_);·
   exfalso;exact h4 rfl
  refine AB<|A8<|Zx<|GP Y Y Y<|HN (by exact ⟨i+1,J,I,E,V,⟨by omega,ax,U⟩,V,V⟩)
 have ei:i=k:=by omega
 subst ei;refine Az<|Zt<|Zt<|AU<|BT<|Sk 2 V<|AM Y<|Cn V results6 Y Y (by exact ⟨sp,G,es,y,lm,V,hm,hR,V⟩)
theorem Qr(sp:Nat)(p rp:Int)(v:A3)(rs:List AV)(E M:List AR)(q:C1)(g:Nat)(cs:List Chg)(y:BS 5 91 v rs.length (Aa rs) E)(I:DJ M (.slice q cs.length g) cs)(K:BP rs)(hn:rs.length<=2000)(J:0<=p/\p<=10000)(G:Ns rs p rp cs):
 CJ prog 30 #[I5 sp,.agg #[I4 rp,.slice q cs.length g]] [[(sp,.cells #[v,I4 p] 138 (0,0))],E,M] (fun r H'=>r=I4 0/\∃z m,BS 5 91 z (Du rs cs).length (Aa (Du rs cs)) m/\H'=[[(sp,.cells #[z,I4 rp] 138 (0,0))],m,M]):=
 KG.mono (YP sp p rp v rs E M q g cs y I K hn J) (fun r H' h=>by
  rcases h with⟨_,z,m,rfl,h,rfl⟩|⟨h,_⟩
  · exact ⟨rfl,z,m,h,rfl⟩
  · exact absurd G h) (fun _ _ h=>h)
theorem ze(q:C1)(cap:Nat)(l:List Bz)(M:List AR)(O:DD M (.slice q l.length cap) l)(y:Dy l)(hl:l.length<=9000)(k:Nat)(hk:k<=l.length):
 CJ prog 7 #[.slice q l.length cap,I4 (k:Int)] [M] (fun r H'=>∃sp w z,r= .tuple #[I5 sp,I4 0]/\BS 5 91 w (Bq (l.take k)).length (Aa (Bq (l.take k))) z/\H'=[[(sp,.cells #[w,I4 (k:Int)] 138 (0,0))],z,M]):=by
 have cu:=mL;obtain ⟨p9,bf,e9,⟨cO,bn⟩,hg⟩:=id O;injection e9 with e91 e92 e93
 subst e91 e93;refine Se func7 ntmps7 [0,1] ?_;intro u R;refine A2<|Za Y<|AF Y<|C0 Y<|Zv (Ak (n:=0) Y Y)<|Zm Y<|AZ (t:=11) Y V (fun h1=>?_) (fun h1=>?_);·
  exfalso;(cases h1;done)
 refine Sk 2 V<|Yg (AJ G4 Y)<|Yg (CW Y Y)<|H3 Y Y<|A6<|Ad Y (fun h2=>by omega)<|fun h2=>AB<|BT<|Zc [] Y call29 Y V (cK) ?_;rintro _ _ ⟨_,⟨sp,rfl,rfl⟩,rfl⟩;refine CT Y<|A2<|AN Y<|Zn [0,1,6,7] ?_;refine Zx<|AQ<|Bi<|Zb [7,0,1,6] ?_;refine Av (e0:=[(7,_)]) (fun m e H=>∃(i:Nat) (w:A3) (z:List AR),m=k -i/\(i<=k/\BS 5 91 w (Bq (l.take i)).length (Aa (Bq (l.take i))) z)/\e=[(7,I4 (i:Int))]/\H=[[(sp,.cells #[w,I4 (i:Int)] 138 (0,0))],z]) (by exact ⟨0,.slice none 0 0,[],rfl,⟨CD _,by rw [Hh];exact BX 5 _⟩,rfl,rfl⟩) Wp ?_;rintro _ _ _ ⟨i,w,z,rfl,⟨hi,G⟩,rfl,rfl⟩;refine Zq<|A2<|Sk 2 V<|Zv (Ak Y Y)<|A6<|Ad Y (fun X=>?_) (fun X=>?_);·
  obtain ⟨r,hr⟩:∃r,l[i]?=some r:=⟨_,Bk A0⟩;obtain ⟨K,g,off,cur,T,zz,rfl,Z,d9,U⟩:=hg i r hr;obtain ⟨hA,h3⟩:=y i r hr;have af:=hA.pos
  obtain ⟨ax,W⟩:=y.rows i A0;refine B3<|Zq<|AQ<|A2<|Sk 3 V ?_;refine BN (A9 G4 Fk Y Y A0)<|Cj (cs:=[(g,.cells cur T zz)]) (by simp [Z]) (A7 (cs:=#[_,_]) J1 Fk Y A0 U) V rfl<|Zc [_,_] Y call30 Y V (Qr sp (i:Int) r.p w (Bq (l.take i)) z M r.q r.cap r.cs G K ax W A0 hA) ?_;rintro _ _ ⟨_,⟨rfl,v2,E,I,rfl⟩,rfl⟩;have J:BS 5 91 v2 (Bq (l.take (i+1))).length (Aa (Bq (l.take (i+1)))) E:=by rw [OK,hr];show BS 5 91 v2 (Bq (l.take i++[r])).length (Aa (Bq (l.take i++[r]))) E;rw [FZ];exact I
  rw [show r.p=((i+1:Nat):Int) by rw [af];rfl];refine AF Y<|B7 Y<|Zv (Cb (n:=0) Y Y)<|A6<|Ad Y (fun h4=>?_) (fun h4=>?_);·
   exfalso;exact h4 rfl
  refine AB<|A8<|Zx<|Zg<|Zm Y<|Ya (n:=1) Y Y<|AN Y<|HN (by exact ⟨i+1,v2,E,V,⟨by omega,J⟩,V,V⟩)
 have ei:i=k:=by omega
 subst ei;refine Az<|Zt<|Zt<|AU<|BT<|Sk 2 V<|AM Y<|Cn V results7 Y Y (by exact ⟨sp,w,z,V,G,V⟩)
def Dz(r:AV)(c:Nat):Int:=if c=0 then r.k else if c=1 then r.v.a else if c=2 then r.v.b else r.v.c
variable{c:Nat}
theorem uH{r:AV}(g:1<=c)(m:c<=3):(r.Ax3:As)[0+2+(c -1)]?=some (I4 (Dz r c)):=by
 rcases (by omega:c=1\/c=2\/c=3)with rfl|rfl|rfl<;>rfl
theorem MS(r:AV)(c:Nat)(hc:c<=3):BB prog 40 #[.agg r.Ax3,I4 (c:Int)] [] (I4 (Dz r c)):=by
 refine Se func40 ntmps40 [0,1] ?_;intro u R;refine A2<|Ze (Bx #[_,_,_,_,_])<|AE fun m=>AF Y<|C0 Y<|Zv (Bg (n:=0) Y Y)<|A6<|Ad Y (fun h0=>?_) (fun h0=>?_);·
  refine A2<|Zh 1 F1 rfl rfl A4 Y<|Zl A5 Y<|AM Y<|Zt<|AO rfl results40 Y (by exact ⟨by unfold Dz;rw [B2 A0],rfl⟩)
 refine B3<|C0 Y<|Xr [_,_,_] Y call97 Y V (Jn (c:Int) 1 3)<|A6<|Ad Y (fun g=>?_) (fun g=>?_);·
  refine B7 Y<|Yb (n:=1) Y Y<|Zh 2 F1 V rfl Dg Y<|BN (Cf HS A4 Y Y A0)<|Zo Wh (BZ (v:=I4 (Dz r c)) A5 Y (by simpa using uH (r:=r) (c:=c) A0 hc))<|AM Y<|Zt<|AO V results40 Y (by exact ⟨V,V⟩)
 refine AB<|BT<|AM Y<|AO V results40 Y (by exfalso;omega)
def QE(c:Nat)(out:List AV)(v:Int):Nat:=(out.reverse.dropWhile (fun r=>decide (v<Dz r c))).length
theorem VP{out:List AV}{v:Int}{k:Nat}(G:k<=out.length)(z:∀(j:Nat) (r:AV),k<=j->out[j]?=some r->v<Dz r c)(h2:k=0\/∃r,out[k -1]?=some r/\Dz r c<=v):QE c out v=k:=by
 unfold QE;have e:out.reverse=(out.drop k).reverse++(out.take k).reverse:=by rw [<-cA,Ln]
 rw [e,List.dropWhile_append_of_pos]
 · rcases h2 with rfl|⟨r,g,hv⟩
   · simp
   · have E:=(D3.1 g).1
     rcases P2 k with rfl|hp
     · simp
     · obtain ⟨m,rfl⟩:∃m,k=m+1:=⟨k -1,by omega⟩
       rw [S5]at g;rw [OK,g];simp only [Option.toList,cA,List.reverse_cons,List.reverse_nil,ON,cX];rw [List.dropWhile_cons,Ax Of];simp only [GB,eR,CI];omega
 · intro r g
   rw [jx]at g;obtain ⟨j,y⟩:=JT g;rw [Ly]at y;simpa using z (k+j) r A0 y
def UO(c:Nat)(out:List AV)(x:AV):List AV:=out.take (QE c out (Dz x c))++[x]++out.drop (QE c out (Dz x c))
def inR(t:Int)(c:Nat)(lo hi:Int)(r:AV):Bool:=decide (r.t=t/\lo<=Dz r c/\Dz r c<=hi)
def D8(rs:List AV)(t:Int)(c:Nat)(lo hi:Int):List AV:=(rs.filter (inR t c lo hi)).foldl (UO c) []
theorem jv{t:Int}{lo hi:Int}{i:Nat}{x:AV}(hx:rs[i]?=some x)(h:x.t=t/\lo<=Dz x c/\Dz x c<=hi):D8 (rs.take (i+1)) t c lo hi=UO c (D8 (rs.take i) t c lo hi) x:=by
 have g:inR t c lo hi x=true:=Cp h;unfold D8;rw [OK,hx];simp [Lz,g,RM]
theorem bg{t:Int}{lo hi:Int}{i:Nat}{x:AV}(hx:rs[i]?=some x)(h:¬(x.t=t/\lo<=Dz x c/\Dz x c<=hi)):D8 (rs.take (i+1)) t c lo hi=D8 (rs.take i) t c lo hi:=by
 have g:inR t c lo hi x=false:=CC h;unfold D8;rw [OK,hx];simp [Lz,g]
theorem YN(sp:Nat)(p:Int)(v:A3)(rs:List AV)(sv:List AR)(t:Int)(c:Nat)(lo hi:Int)(I:BS 5 91 v rs.length (Aa rs) sv)(hn:rs.length<=2000)(hc:c<=3):
 CJ prog 38 #[I5 sp,I4 t,I4 (c:Int),I4 lo,I4 hi] [[(sp,.cells #[v,I4 p] 138 (0,0))],sv] (fun r H'=>∃J,BS 5 91 r (D8 rs t c lo hi).length (Aa (D8 rs t c lo hi)) J/\H'=[J,[(sp,.cells #[v,I4 p] 138 (0,0))],sv]):=by
 have qx:=mL;obtain ⟨qv,mR,rfl⟩:=I.form;obtain ⟨p9,l9,e9,qy,hg⟩:=Kq I A0;injection e9 with e91 e92 e93
 subst e91 e93;refine Se func38 ntmps38 [0,1,2,3,4] ?_;intro u R;refine A2<|AF Y<|C0 Y<|Zv (Ak (n:=0) Y Y)<|Zm Y<|AZ (t:=18) Y V (fun h1=>?_) (fun h1=>?_);·
  exfalso;(cases h1;done)
 refine Zf Y Y<|Yg (El (n:=4) Y Y)<|H3 Y Y<|A6<|Ad Y (fun h2=>by omega)<|fun h2=>AB<|BT<|CT Y<|A2<|AF Y<|AQ<|Bi<|Zb [11,12,0,1,2,3,4] ?_;refine Av (e0:=[(11,_),(12,_)]) (fun m e H=>∃(i:Nat) (o:List AV) (w:A3) (J:List AR),m=rs.length -i/\(i<=rs.length/\o=D8 (rs.take i) t c lo hi/\o.length<=i/\BS 5 91 w o.length (Aa o) J)/\e=[(11,w),(12,I4 (i:Int))]/\H=[J]) (by exact ⟨0,[],.slice none 0 0,[],rfl,⟨CD _,by rw [Hh];rfl,B4 _,BX 5 _⟩,rfl,rfl⟩) Wp ?_;rintro _ _ _ ⟨i,o,w,J,rfl,⟨qw,ho,o8,z⟩,rfl,rfl⟩;obtain ⟨qo,lv,rfl⟩:=z.form;have qb:=Ew z
 refine Zq<|A2<|Sk 2 V<|Zp Y V<|Zh 0 MD V rfl Cl Y<|Zl DQ Y<|Zv (AJ B0 Y)<|Zv (Ak Y Y)<|A6<|Ad Y (fun X=>?_) (fun X=>?_);·
  obtain ⟨x,hx⟩:∃x,rs[i]?=some x:=⟨_,Bk X⟩;obtain ⟨g,off,cur,T,zz,rfl,gq,qz,af⟩:=hg i x hx;refine B3<|Zq<|AQ<|B7 Y<|Zp Y V<|Zh 0 MD V rfl Cl Y<|Zl DQ Y<|Zm Y<|BN (A9 B0 AW Y Y A0)<|Cj (cs:=[(g,.cells cur T zz)]) (by simp [gq]) (A7 (cs:=x.Ax3) C5 AW Y A0 af) V rfl<|Ze (Al DS #[_,_,_,_,_])<|AE fun xb=>Xe (Xw AW x.Ax3)<|Z0<|Zn [0,1,2,3,4,11,12,13] ?_;refine BT<|Zo Wh (Pa #[_,_,_,_,_] C5 AW Y)<|Zm Y<|Xr [_,_] Y Q2 Y V (MS x c hc)<|CT Y<|A2<|Zh 0 F1 V rfl A4 Y<|Zl A5 Y<|Zm Y<|Zv (ED Y Y)<|Zm Y<|AZ (t:=45) Y V (fun ax=>?_) (fun ax=>?_);focus
   refine Sk 9 V<|Z0<|Zn [0,1,2,3,4,11,12,13,14,54] ?_;refine Zx<|BV Y ?_
  rotate_left
  focus
   refine Sk 2 V<|Yg (Dq Y Y)<|Sk 2 V ?_;refine AZ (t:=50) Y V (fun bf=>?_) (fun bf=>?_);focus
    refine Sk 4 V<|Z0<|Zn [0,1,2,3,4,11,12,13,14,54] ?_;refine Zx<|BV Y ?_
   rotate_left
   focus
    refine Sk 2 V<|Yg (EE Y Y)<|H3 Y Y<|Z0<|Zn [0,1,2,3,4,11,12,13,14,54] ?_;refine Zx<|Ad Y (fun bn=>?_) (fun bn=>?_);rotate_left;refine B3<|B7 Y<|Zv (AJ B0 Y)<|AF Y<|Zb [14,15,0,1,2,3,4,11,12,13] ?_;refine C9 (e0:=[(14,_),(15,_)]) (H0:=[]) (fun e H=>∃(k:Nat),(k<=o.length/\QE c o (Dz x c)=k)/\e=[(15,I4 (k:Int))]/\H=[]) Wp ?hx_5 ?hy_5
    case hx_5=>
     refine AQ<|Zb [15,0,1,2,3,4,11,12,13,14] ?_;refine Av (e0:=[(15,_)]) (fun m e H=>∃(k:Nat),m=0+k/\(k<=o.length/\(∀(j:Nat) (r:AV),k<=j->o[j]?=some r->Dz x c<Dz r c))/\e=[(15,I4 (k:Int))]/\H=[]) (by exact ⟨o.length,V,⟨B4 _,by intro j r hj M;have:=(D3.1 M).1;omega⟩,V,V⟩) Wp ?_;rintro _ _ _ ⟨k,rfl,⟨hk,K⟩,rfl,rfl⟩;refine C0 Y<|Zv (CW (n:=0) Y Y)<|Zm Y<|AZ (t:=59) Y V (fun ek=>?_) (fun ek=>?_);·
      obtain ⟨y,hy⟩:∃y,o[k -1]?=some y:=⟨_,Bk A0⟩;obtain ⟨p8,l8,e8,o9,cu⟩:=Kq z A0;injection e8 with e81 e82 e83
      subst e81 e83;obtain ⟨g8,pg,O,T8,kz,kv,gm,oq,U⟩:=cu (k -1) y hy;subst kv;refine Sk 2 V ?_;refine ER Y (C8 (n:=1) Y Y A0 A0) V rfl ?_;refine ER Y (A9 B0 AW Y Y A0) V rfl ?_;refine Mg Y (cs:=[(g8,.cells O T8 kz)]) (by simp [gm]) (A7 (cs:=y.Ax3) C5 AW Y A0 U) V rfl ?_;refine Zf Y Y<|Xr [_,_] Y Q2 Y V (MS y c hc)<|Zf Y Y<|Yg (EE Y Y)<|HR Y Y<|Z0<|Zn [0,1,2,3,4,11,12,13,14,15,69] ?_;refine Zx<|Ad Y (fun cO=>?_) (fun cO=>?_);·
       refine B3<|AQ<|Zg<|Zm Y<|Yb (n:=1) Y Y<|AN Y<|A8<|HN (by exact ⟨k -1,rfl,⟨by omega,by intro j r hj M;rcases FA j k with h9|h9;(have e:j=k -1:=by omega);subst e;rw [hy]at M;injection M with M;subst M;omega;exact K j r h9 M⟩,rfl,rfl⟩)
      refine Az<|Zt<|Zt<|AU<|HC (by exact ⟨k,⟨hk,VP hk K (.inr ⟨y,hy,by omega⟩)⟩,V,V⟩)
     refine Sk 10 V<|Z0<|Zn [0,1,2,3,4,11,12,13,14,15,69] ?_;refine Zx<|DY Y<|Az<|Zt<|Zt<|AU<|HC (by exact ⟨k,⟨hk,VP hk K (.inl A0)⟩,V,V⟩)
    rintro _ _ ⟨k,⟨d9,gy⟩,rfl,rfl⟩;refine Au (n:=12) (0::0::0::7::0::16::0::0::192::496::1023::2047::[]) 1568 AG AG V<|A1 0 V (AA Y)<|A1 1 V (AA Y)<|A1 2 V (AA Y)<|A1 3 V (Ey B0 AW Y Y Y A0)<|Fo 4 V Wh (Pa #[_,_,_,_,_] C5 AW Y)<|A1 6 V (AA Y)<|A1 7 V (AA Y)<|A1 8 V (Bv B0 AW Y Y A0)<|Yw 5 511 V (Ah (vs:=[_]) (cs:=[_,_,_,_,_]) B0 AW DS Y V rfl V rfl V)<|AE fun gb=>Yw 9 1023 V (BL (by_:=40) (sz:=5) B0 (V:Tryz.prog.info? 91=some Tryz.t91) V rfl V rfl Y (En 5 91 gb 1 (Aa [x]) V AH) Y (Ib z k (o.length -k) _ A0) Wo Wo (by exact fun u hu=>CK o u (Lo hu)) A0 A0) ?_;rintro _ _ ⟨r9,E,rfl⟩;obtain ⟨q9,pq,rfl⟩:=E.form;refine Yw 10 2047 V (JK (by_:=40) (sz:=5) B0 (V:Tryz.prog.info? 91=some Tryz.t91) V rfl V rfl Y (Gd z k _ d9) Y (JW E) Wo Wo A0 A0 A0) ?_;rintro _ _ ⟨sj,G,rfl⟩;have Z:=BJ G (n':=(o.take k++[x]++o.drop k).length) (xs':=Aa (o.take k++[x]++o.drop k)) (by simp only [C7,CI,D4,HI];omega) (by rw [BR,BR,DV,DF,G0])
    have W:o.take k++[x]++o.drop k=D8 (rs.take (i+1)) t c lo hi:=by rw [jv hx A0,<-ho];unfold UO;rw [gy]
    obtain ⟨qa,pz,rfl⟩:=G.form;refine A1 11 V (Aq Y)<|Am<|A8<|Zx<|Zg<|Zm Y<|Ya (n:=1) Y Y<|AN Y<|DH (e:=[(11,_),(12,_)]) (h:=by exact ⟨i+1,o.take k++[x]++o.drop k,_,_,V,⟨by omega,W,by simp only [C7,CI,D4,HI];omega,Z⟩,V,V⟩)
  all_goals
   refine Az<|Zt<|AU<|Zx<|Zg<|Zm Y<|Ya (n:=1) Y Y<|AN Y<|DH (e:=[(11,_),(12,_)]) (h:=by exact ⟨i+1,o,_,J,rfl,⟨by omega,by rw [ho,bg hx A0],by omega,z⟩,rfl,rfl⟩)
 have ei:i=rs.length:=by omega
 subst ei;rw [HJ]at ho;subst ho;refine Az<|Zt<|Zt<|AU<|Zx<|B7 Y<|AM Y<|AO V results38 Y (by exact ⟨J,z,V⟩)
end Go.Proofs.YtljkoipiekbijaaGreatDoor
