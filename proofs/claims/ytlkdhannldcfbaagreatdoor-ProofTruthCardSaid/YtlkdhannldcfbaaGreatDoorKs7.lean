/- The reference of layer 4: Log. -/
import Derived.Test.YtlkdhannldcfbaaGreatDoorLg10
set_option linter.unusedVariables false
set_option linter.unusedSimpArgs false
namespace Go.Proofs.YtlkdhannldcfbaaGreatDoor
open Go.Proofs.Tryz
open Go Go.RowKit Gw
set_option maxRecDepth 100000
attribute [local irreducible] Gw.At Gw.Nx Gw.Ops
theorem x8{M:List AU}{v:A4}{xs:List (List Int)}(hX:Pm M v xs)(hx:xs.length<=1000):Bz prog 55 #[v] [M] (fun r H'=>∃(l:List Bg) (s:List AU),DN l/\(l.length<=xs.length/\WP l)/\Cw s r l/\H'=[s,M]):=by
 have L9:=mL;obtain ⟨px,zm,rfl,P5,wz⟩:=id hX;refine Se func55 ntmps55 [0] ?_;intro u R;refine A1<|A3 Y<|A1<|A3 Y<|A1<|Zc [] Y call24 Y V (bX) ?_;rintro _ _ ⟨_,⟨sp,rfl,rfl⟩,rfl⟩;refine A3 Y<|Zq<|A1<|A3 Y<|AX<|Bl<|Bl<|Bl<|Zb [3,5,0,4] ?_;refine BB (e0:=[(3,_),(5,_)]) (fun m e H=>∃(i:Nat) (E:List Bg) (w wo:A4) (sv so MM:List AU),m=xs.length -i/\(i<=xs.length/\DN E/\(E.length<=i/\WP E)/\BZ 5 98 w (Bd E).length (Ac (Bd E)) sv/\BZ 2 81 wo E.length (Dl E) so/\(∀r∈E,Dq MM (.slice r.q r.cs.length r.cap) r.cs))/\e=[(3,wo),(5,I4 (i:Int))]/\H=[[(sp,.cells #[w,I4 (E.length:Int)] 130 (0,0))],sv,so,MM]) (by exact ⟨0,[],.slice none 0 0,.slice none 0 0,[],[],[],V,⟨C2 _,(by intro i r h;cases h),⟨B8 _,by intro r h;cases h⟩,Ba 5 _,Ba 2 _,by simp⟩,V,V⟩) Wp ?_;rintro _ _ _ ⟨i,E,w,wo,sv,so,MM,rfl,⟨hi,U,lv,bn,bf,gy⟩,rfl,rfl⟩;obtain ⟨qw,p9,rfl⟩:=bn.form;obtain ⟨qo,zk,rfl⟩:=bf.form;obtain ⟨qA,yt⟩:=U.all;have tT:=Kj bn A0
 refine Zq<|A1<|Zm Y<|Zm Y<|Zv (AP cV Y)<|Zv (Au Y Y)<|AD<|Ak Y (fun qb=>?_) (fun qb=>?_);·
  obtain ⟨z,zh⟩:∃z,xs[i]?=some z:=⟨_,zn qb⟩;obtain ⟨h6,gm,g,off,cur,T,zz,rfl,hm,q8⟩:=wz i z zh;refine AB<|Zx<|Zq<|AX<|A1<|A3 Y<|Zq<|A1<|A3 Y<|AX<|Bl<|Zb [6,7,0,3,4,5] ?_;refine BB (e0:=[(6,_),(7,_)]) (fun m e H=>∃(k:Nat) (w2:A4) (cs:List Chg) (W:List AU),m=3 -k/\(k<=3/\cs.length<=k/\BZ 10 106 w2 cs.length (D9 cs) W)/\e=[(6,w2),(7,I4 (k:Int))]/\H=[W]) (by exact ⟨0,.slice none 0 0,[],[],V,⟨C2 _,B8 _,Ba 10 _⟩,V,V⟩) Wp ?_;rintro _ _ _ ⟨k,w2,cs,W,rfl,⟨Hf,Gl,G⟩,rfl,rfl⟩;obtain ⟨Z,X,rfl⟩:=G.form;have Gw:=Ex G
  refine Zq<|A1<|Zm Y<|Zv (Au (n:=3) Y Y)<|AD<|Ak Y (fun hk=>?_) (fun hk=>?_);·
   obtain ⟨za,r9⟩:∃n,z[2*k]?=some n:=⟨_,zn A0⟩;obtain ⟨zb,sj⟩:∃n,z[2*k+1]?=some n:=⟨_,zn A0⟩;have MC:=gm za (Cd r9)
   have ML:=gm zb (Cd sj);have ve:=q8 _ _ r9
   have vo:=q8 _ _ sj;refine AB<|Zx<|Zq<|AX<|A1<|Zm Y<|Zm Y<|Zm Y<|Ap (Df (m:=2) Y Y A0)<|Ap (AO cV sizeOf189 Y Y A0)<|Ap (BK eV A5 Y Y A0)<|Ca (cs:=[(g,.cells cur T zz)]) (by simp [hm]) (Bj AE Y (by(rw [Iv];exact ve))) V rfl<|A3 Y<|Zb [8,0,3,4,5,6,7] ?_;refine CL (e0:=[(8,_)]) (H0:=[]) (fun e H=>∃(n:Nat),(n<=9223372036854775807)/\e=[(8,I4 (n:Int))]/\H=[]) Wp ?hx_3 ?hy_3
   case hx_3=>
    refine A1<|Zm Y<|Zv (ET Y Y)<|AD<|Ak Y (fun y5=>?_) (fun y5=>?_);·
     refine Zg<|Zm Y<|Yi Y Y ?_;refine Ap (TA Y (IntWalk.i64_in _ A0))<|AH Y<|Zn [8,0,3,4,5,6,7] ?_;refine Aq (e':=[(8,_)]) (by exact ⟨(-(za+1)).toNat,by omega,by rw [show(((-(za+1)).toNat:Nat):Int)=0 -(za+1) by omega],rfl⟩)
    refine AB<|Zn [8,0,3,4,5,6,7] ?_;refine Aq (e':=[(8,_)]) (by exact ⟨za.toNat,by omega,by rw [show((za.toNat:Nat):Int)=za by omega],rfl⟩)
   rintro _ _ ⟨n,hn,rfl,rfl⟩;refine A1<|Zm Y<|Zm Y<|Zm Y<|Ap (Df (m:=2) Y Y A0)<|Ya (n:=1) Y Y ?_;refine Ap (AO cV sizeOf189 Y Y A0)<|Ap (BK eV A5 Y Y A0)<|Ca (cs:=[(g,.cells cur T zz)]) (by simp [hm]) (Bj AE Y (by(rw [Iv];exact vo))) V rfl<|A3 Y<|Zb [9,0,3,4,5,6,7,8] ?_;refine CL (e0:=[(9,_)]) (H0:=[]) (fun e H=>∃(m:Nat),(m<=9223372036854775807)/\e=[(9,I4 (m:Int))]/\H=[]) Wp ?hx_6 ?hy_6
   case hx_6=>
    refine A1<|Zm Y<|Zv (ET Y Y)<|AD<|Ak Y (fun y9=>?_) (fun y9=>?_);·
     refine Zg<|Zm Y<|Yi Y Y ?_;refine Ap (TA Y (IntWalk.i64_in _ A0))<|AH Y<|Zn [9,0,3,4,5,6,7,8] ?_;refine Aq (e':=[(9,_)]) (by exact ⟨(-(zb+1)).toNat,by omega,by rw [show(((-(zb+1)).toNat:Nat):Int)=0 -(zb+1) by omega],rfl⟩)
    refine AB<|Zn [9,0,3,4,5,6,7,8] ?_;refine Aq (e':=[(9,_)]) (by exact ⟨zb.toNat,by omega,by rw [show((zb.toNat:Nat):Int)=zb by omega],rfl⟩)
   rintro _ _ ⟨m,HZ,rfl,rfl⟩;refine A1<|Zm Y<|Ap (De (n:=3) Y Y A0)<|Zm Y<|Ap (Kw (n:=3) Y Y A0 A0)<|Ap (De (n:=9) Y Y A0)<|Ya (m:=1) Y Y<|Zv (BQ (vs:=[(0,_),(1,_)]) (cs:=#[_,_,_,_,_,_,_,_,_,_]) Y (Aa (pl:=#[(0,1),(1,1),(2,1),(3,3),(6,1),(7,3)]) K1 B9 (fun _=>by kernel_rfl) V))<|Ze (Al K1 #[_,_,_,_,_,_,_,_,_,_])<|AF fun cb=>Xe (BN C5 Y Y (by(simp [Value.oneCell',Value.cells];done)) Wu (by exact (rfl:_=(#[I4 ((n%3:Nat):Int),I4 ((1+n/3%9:Nat):Int),.bool false,I4 0,I4 0,I4 0,.bool false,I4 0,I4 0,I4 0]:AN))) Ek (by exact B8 _) (by exact BU _))<|AD<|A1<|Zm Y<|Zh 0 B9 rfl rfl A5 Y<|Zl AE Y<|Zh 1 B9 rfl rfl A5 Y<|Zl AE Y<|Xr [_,_,_] Y call61 Y rfl (nk sp qw p9 (E.length:Int) ((n%3:Nat):Int) ((1+n/3%9:Nat):Int) (Bd E) sv tT A0 qA) ?_;obtain ⟨J,vz⟩:∃J,J=GZ (Bd E) ((n%3:Nat):Int) ((1+n/3%9:Nat):Int):=⟨_,rfl⟩;rw [<-vz];refine Zm Y<|Zd Y V<|Zd Y V<|Ze (Al Dd #[_,_,_,_,_])<|AF fun ob=>Xe (Xw Ax #[I4 J.1.t,I4 J.1.k,I4 J.1.v.a,I4 J.1.v.b,I4 J.1.v.c])<|AH Y<|Zn [0,3,4,5,6,7,8,9,10,11,12] ?_;refine Zx<|A1<|Zm Y<|Zh 2 B9 rfl rfl Cl Y<|Xe (Zs Cl Y Y rfl (hc:=by exact (rfl:_=(#[I4 ((n%3:Nat):Int),I4 ((1+n/3%9:Nat):Int),.bool J.2,I4 0,I4 0,I4 0,.bool false,I4 0,I4 0,I4 0]:AN))) (hi:=by(simp;done)))<|AD<|A1<|Zh 2 Ds rfl rfl CD Y<|Zo Wh (Pa #[_,_,_] HB CD Y)<|Zh 3 B9 rfl rfl CD Y<|Xe (BN CD Y Y HU Wu (by exact (rfl:_=(#[I4 ((n%3:Nat):Int),I4 ((1+n/3%9:Nat):Int),.bool J.2,I4 J.1.v.a,I4 J.1.v.b,I4 J.1.v.c,.bool false,I4 0,I4 0,I4 0]:AN))) Ek B5 (by exact BU _))<|AD<|Zb [12,0,3,4,5,6,7,8,9,10] ?_;refine CL (e0:=[(12,_)]) (H0:=[[(cb,.cells #[I4 ((n%3:Nat):Int),I4 ((1+n/3%9:Nat):Int),.bool J.2,I4 J.1.v.a,I4 J.1.v.b,I4 J.1.v.c,.bool false,I4 0,I4 0,I4 0] 106 (0,0))]]) (fun e H=>∃(hb:Bool),(True)/\e=[]/\H=[[(cb,.cells #[I4 ((n%3:Nat):Int),I4 ((1+n/3%9:Nat):Int),.bool J.2,I4 J.1.v.a,I4 J.1.v.b,I4 J.1.v.c,.bool hb,I4 0,I4 0,I4 0] 106 (0,0))]]) Wp ?hx_9 ?hy_9
   case hx_9=>
    refine Zg<|Zm Y<|Zv (Cj Y)<|Zm Y<|Ah (t:=77) Y V (fun hh=>?_) (fun hh=>?_);·
     refine A7 Y V<|A7 Y V<|A7 Y V<|Zv (AR Y Y)<|Zh 6 B9 V rfl Cl Y<|Xe (Zs Cl Y Y V (hi:=by(simp;done)))<|Z0<|Zn [0,3,4,5,6,7,8,9,10] ?_;refine Aq (e':=[]) (H':=[[(cb,.cells #[_,_,_,_,_,_,_,_,_,_] 106 (0,0))]]) ?_;exact ⟨_,trivial,V,V⟩
    refine Zf Y Y<|DV Y (De (n:=4) Y Y A0) V rfl ?_;refine Yg (CO (n:=0) Y Y)<|Zv (AL Y Y)<|Zh 6 B9 V rfl Cl Y<|Xe (Zs Cl Y Y V (hi:=by(simp;done)))<|Z0<|Zn [0,3,4,5,6,7,8,9,10] ?_;refine Aq (e':=[]) (H':=[[(cb,.cells #[_,_,_,_,_,_,_,_,_,_] 106 (0,0))]]) ?_;exact ⟨_,trivial,V,V⟩
   rintro _ _ ⟨hb,_,rfl,rfl⟩;refine Zb [9,0,3,4,5,6,7,8,10] ?_;refine CL (e0:=[(9,_)]) (H0:=[[(cb,.cells #[I4 ((n%3:Nat):Int),I4 ((1+n/3%9:Nat):Int),.bool J.2,I4 J.1.v.a,I4 J.1.v.b,I4 J.1.v.c,.bool hb,I4 0,I4 0,I4 0] 106 (0,0))]]) (fun e H=>∃(c:Chg),(True)/\e=[]/\H=[[(cb,.cells c.Ao4 106 (0,0))]]) Wp ?hx_10 ?hy_10
   case hx_10=>
    refine A1<|Zh 6 B9 V rfl Cl Y<|Zl DH Y<|AD<|Ad Y (fun x9=>?_) (fun x9=>?_);·
     refine Zg<|Zm Y<|Ap (Kw (n:=4) Y Y A0 A0)<|Ap (De (n:=10) Y Y A0)<|Zm Y<|Ap (Kw (n:=40) Y Y A0 A0)<|Ap (De (n:=9) Y Y A0)<|Ya (m:=1) Y Y<|Zm Y<|Ap (Kw (n:=400) Y Y A0 A0)<|Ap (De (n:=40) Y Y A0)<|Ap (HV Y Y (IntWalk.i64_in _ A0))<|Zv (BQ (vs:=[(0,_),(1,_),(2,_)]) (cs:=#[_,_,_]) Y (Cv V0 G1 A5 rfl))<|Zh 7 B9 rfl rfl CD Y<|Xe (BN CD Y Y (by(simp [Value.oneCell',Value.cells];done)) Wu An Ek (by exact B8 _) (by exact BU _))<|Z0<|Zn [0,3,4,5,6,7,8,10] ?_;refine Aq (e':=[]) (H':=[[(cb,.cells #[_,_,_,_,_,_,_,_,_,_] 106 (0,0))]]) ?_;exact ⟨⟨_,_,_,J.1.v,_,⟨_,_,_⟩⟩,trivial,V,V⟩
    refine AB<|Zn [0,3,4,5,6,7,8,10] ?_;refine Aq (e':=[]) (H':=[[(cb,.cells #[_,_,_,_,_,_,_,_,_,_] 106 (0,0))]]) ?_;exact ⟨⟨_,_,_,J.1.v,_,⟨_,_,_⟩⟩,trivial,V,V⟩
   rintro _ _ ⟨c,_,rfl,rfl⟩;refine A1<|A3 Y<|Zq<|A1<|A3 Y<|AX<|Zb [13,14,0,3,4,5,6,7,8,10] ?_;refine BB (e0:=[(13,_),(14,_)]) (fun m e H=>∃(j:Nat) (b:Bool),m=cs.length -j/\(j<=cs.length)/\e=[(13,.bool b),(14,I4 (j:Int))]/\H=[]) (by exact ⟨0,false,V,C2 _,V,V⟩) Wp ?_;rintro _ _ _ ⟨j,b,rfl,hj,rfl,rfl⟩;refine Zq<|A1<|Zm Y<|Zm Y<|Zv (AP Fk Y)<|Zv (Au Y Y)<|AD<|Ak Y (fun q9=>?_) (fun q9=>?_);·
    refine AB<|Zx<|Zq<|AX ?_;obtain ⟨y,hy⟩:∃y,cs[j]?=some y:=⟨_,zn q9⟩;obtain ⟨gl,p8,pg,zl,o8,mR,qa,ax⟩:=EE G A0;injection o8 with hv1 hv2 hv3
    subst hv1 mR;obtain ⟨cu,o9⟩:=rR ax hy;refine BJ (n:=22) (0::1::3::3::15::31::63::3::131::511::1023::2047::2047::8191::16383::32767::2047::67583::262143::524287::1048575::2097151::[]) 0 AG AG V<|A2 0 V (AJ Y)<|A2 1 V (AJ Y)<|Ck (t:=105) Y (fun K=>?_) (fun K=>?_);·
     rw [K];refine AW 2 V<|AW 3 V<|AW 4 V<|AW 5 V<|AW 6 V<|AW 7 V<|AW 8 V<|AW 9 V<|AW 10 V<|AW 11 V<|AW 12 V<|AW 13 V<|AW 14 V<|AW 15 V<|AW 16 V<|AW 17 V<|AW 18 V<|AW 19 V<|A2 20 V (AR Y Y)<|A2 21 V (BF Y)<|Ao<|Zn [0,3,4,5,6,7,8,10,13,14] ?_;refine A8<|Zx<|Zg<|Zm Y<|Ya (n:=1) Y Y<|AH Y<|Zn [13,14,0,3,4,5,6,7,8,10] ?_;refine AZ (e':=[(13,_),(14,_)]) (by exact ⟨j+1,_,V,by omega,V,V⟩)
    rw [K];refine B1 2 V (AJ Y)<|B1 3 V (AJ Y)<|B1 4 V (AO Fk C5 Y Y A0)<|B1 5 V (Aj (off:=0) B9 V rfl A5 Y)<|D4 6 V Wh (Bj AE Y (by simpa using cu))<|B1 7 V (AV (off:=0) B9 V rfl A5 Y)<|D4 8 V Wh (Bj AE Y An)<|B1 9 V (Br Y Y)<|B1 10 V (AJ Y)<|Cc (t:=114) Y (fun K=>?_) (fun K=>?_);·
     rw [CA K];refine B1 11 V (AJ Y)<|B1 12 V (AJ Y)<|B1 13 V (AO Fk C5 Y Y A0)<|B1 14 V (Aj (off:=1) B9 V rfl A5 Y)<|D4 15 V Wh (Bj AE Y (by simpa using o9))<|B1 16 V (AV (off:=1) B9 V rfl A5 Y)<|D4 17 V Wh (Bj AE Y An)<|B1 18 V (Br Y Y)<|B1 19 V (AR Y Y)<|A2 20 V (AL Y Y)<|A2 21 V (BF Y)<|Ao<|Zn [0,3,4,5,6,7,8,10,13,14] ?_;refine A8<|Zx<|Zg<|Zm Y<|Ya (n:=1) Y Y<|AH Y<|Zn [13,14,0,3,4,5,6,7,8,10] ?_;refine AZ (e':=[(13,_),(14,_)]) (by exact ⟨j+1,_,V,by omega,V,V⟩)
    rw [Bm K];refine AW 11 V<|AW 12 V<|AW 13 V<|AW 14 V<|AW 15 V<|AW 16 V<|AW 17 V<|AW 18 V<|B1 19 V (AL Y Y)<|A2 20 V (AL Y Y)<|A2 21 V (BF Y)<|Ao<|Zn [0,3,4,5,6,7,8,10,13,14] ?_;refine A8<|Zx<|Zg<|Zm Y<|Ya (n:=1) Y Y<|AH Y<|Zn [13,14,0,3,4,5,6,7,8,10] ?_;refine AZ (e':=[(13,_),(14,_)]) (by exact ⟨j+1,_,V,by omega,V,V⟩)
   refine Aw<|Zt<|Zt<|AQ<|Zx<|Zb [8,13,0,3,4,5,6,7,10] ?_;refine CL (e0:=[(8,_),(13,_)]) (H0:=[]) (fun e H=>(True)/\e=[]/\H=[]) Wp ?hx_15 ?hy_15
   case hx_15=>
    refine A1<|Zm Y<|Zm Y<|Ah (t:=126) Y V (fun I=>?_) (fun I=>?_);·
     refine A7 Y V<|A7 Y V<|A7 Y V<|A7 Y V<|A7 Y V<|A7 Y V<|A7 Y V<|A7 Y V<|A7 Y V<|A7 Y V<|A7 Y V<|A7 Y V<|A7 Y V<|Zv (AR Y Y)<|Zm Y<|A7 Y V<|A7 Y V<|A7 Y V<|A7 Y V<|A7 Y V<|A7 Y V<|A7 Y V<|Zv (AR Y Y)<|Z0<|Zn [0,3,4,5,6,7,10,149] ?_;refine Zx<|CQ Y<|Aw<|Zt<|AQ<|Zx<|Zg<|Zm Y<|Ya (n:=1) Y Y<|AH Y<|Zn [6,7,0,3,4,5] ?_;refine AZ (e':=[(6,_),(7,_)]) (by exact ⟨k+1,_,cs,W,V,⟨by omega,by omega,G⟩,V,V⟩)
    refine Yf 2 B9 V rfl Cl Y<|Yl DH Y<|Zf Y Y<|Ah (t:=129) Y V (fun I=>?_) (fun I=>?_);·
     refine Yf 6 B9 V rfl Cl Y<|Yl DH Y<|Yg (AR Y Y)<|Zf Y Y<|Ah (t:=133) Y V (fun I=>?_) (fun I=>?_);·
      refine Yf 3 B9 V rfl CD Y<|DF Y Wh (A9 (cs:=#[_,_,_]) HB CD Y B5 An) V rfl<|Yf 7 B9 V rfl CD Y<|DF Y Wh (Pa #[_,_,_] HB CD Y) V rfl<|Yg (Lr AG G1 F0 AE A5 Y Y) ?_;refine Yg (AR Y Y)<|Zv (AL Y Y)<|Zm Y<|Ai (t:=141) Y V (fun I=>?_) (fun I=>?_);·
       refine A7 Y V<|A7 Y V<|A7 Y V<|A7 Y V<|A7 Y V<|A7 Y V<|A7 Y V<|Zv (AR Y Y)<|Z0<|Zn [0,3,4,5,6,7,10,149] ?_;refine Zx<|CQ Y<|Aw<|Zt<|AQ<|Zx<|Zg<|Zm Y<|Ya (n:=1) Y Y<|AH Y<|Zn [6,7,0,3,4,5] ?_;refine AZ (e':=[(6,_),(7,_)]) (by exact ⟨k+1,_,cs,W,V,⟨by omega,by omega,G⟩,V,V⟩)
      refine Zf Y Y<|Yg (CO (n:=0) Y Y)<|Zf Y Y<|Ai (t:=144) Y V (fun I=>?_) (fun I=>?_);·
       refine Zf Y Y<|DV Y (De (n:=5) Y Y A0) V rfl ?_;refine Yg (Bb (n:=0) Y Y)<|Yg (AR Y Y)<|Zv (AL Y Y)<|Z0<|Zn [0,3,4,5,6,7,10,149] ?_;refine Zx<|Ak Y (fun af=>?_) (fun af=>?_);·
        refine Aw<|Zt<|AQ<|Zx<|Zg<|Zm Y<|Ya (n:=1) Y Y<|AH Y<|Zn [6,7,0,3,4,5] ?_;refine AZ (e':=[(6,_),(7,_)]) (by exact ⟨k+1,_,cs,W,V,⟨by omega,by omega,G⟩,V,V⟩)
       refine AB<|Zn [0,3,4,5,6,7,10] ?_;refine Aq (e':=[]) (by exact ⟨trivial,V,V⟩)
      refine A7 Y V<|A7 Y V<|A7 Y V<|Yg (AL Y Y)<|Zv (AL Y Y)<|Z0<|Zn [0,3,4,5,6,7,10,149] ?_;refine Zx<|Dj Y<|AB<|Zn [0,3,4,5,6,7,10] ?_;refine Aq (e':=[]) (by exact ⟨trivial,V,V⟩)
     refine A7 Y V<|A7 Y V<|A7 Y V<|A7 Y V<|A7 Y V<|Yg (AL Y Y)<|Zv (AL Y Y)<|Zm Y<|Zf Y Y<|Yg (CO (n:=0) Y Y)<|Zf Y Y<|Ai (t:=144) Y V (fun I=>?_) (fun I=>?_);·
      refine Zf Y Y<|DV Y (De (n:=5) Y Y A0) V rfl ?_;refine Yg (Bb (n:=0) Y Y)<|Yg (AR Y Y)<|Zv (AL Y Y)<|Z0<|Zn [0,3,4,5,6,7,10,149] ?_;refine Zx<|Ak Y (fun af=>?_) (fun af=>?_);·
       refine Aw<|Zt<|AQ<|Zx<|Zg<|Zm Y<|Ya (n:=1) Y Y<|AH Y<|Zn [6,7,0,3,4,5] ?_;refine AZ (e':=[(6,_),(7,_)]) (by exact ⟨k+1,_,cs,W,V,⟨by omega,by omega,G⟩,V,V⟩)
      refine AB<|Zn [0,3,4,5,6,7,10] ?_;refine Aq (e':=[]) (by exact ⟨trivial,V,V⟩)
     refine A7 Y V<|A7 Y V<|A7 Y V<|Yg (AL Y Y)<|Zv (AL Y Y)<|Z0<|Zn [0,3,4,5,6,7,10,149] ?_;refine Zx<|Dj Y<|AB<|Zn [0,3,4,5,6,7,10] ?_;refine Aq (e':=[]) (by exact ⟨trivial,V,V⟩)
    refine A7 Y V<|A7 Y V<|Yg (AL Y Y)<|Zf Y Y<|A7 Y V<|A7 Y V<|A7 Y V<|A7 Y V<|A7 Y V<|Yg (AL Y Y)<|Zv (AL Y Y)<|Zm Y<|Zf Y Y<|Yg (CO (n:=0) Y Y)<|Zf Y Y<|Ai (t:=144) Y V (fun I=>?_) (fun I=>?_);·
     refine Zf Y Y<|DV Y (De (n:=5) Y Y A0) V rfl ?_;refine Yg (Bb (n:=0) Y Y)<|Yg (AR Y Y)<|Zv (AL Y Y)<|Z0<|Zn [0,3,4,5,6,7,10,149] ?_;refine Zx<|Ak Y (fun af=>?_) (fun af=>?_);·
      refine Aw<|Zt<|AQ<|Zx<|Zg<|Zm Y<|Ya (n:=1) Y Y<|AH Y<|Zn [6,7,0,3,4,5] ?_;refine AZ (e':=[(6,_),(7,_)]) (by exact ⟨k+1,_,cs,W,V,⟨by omega,by omega,G⟩,V,V⟩)
     refine AB<|Zn [0,3,4,5,6,7,10] ?_;refine Aq (e':=[]) (by exact ⟨trivial,V,V⟩)
    refine A7 Y V<|A7 Y V<|A7 Y V<|Yg (AL Y Y)<|Zv (AL Y Y)<|Z0<|Zn [0,3,4,5,6,7,10,149] ?_;refine Zx<|Dj Y<|AB<|Zn [0,3,4,5,6,7,10] ?_;refine Aq (e':=[]) (by exact ⟨trivial,V,V⟩)
   rintro _ _ ⟨_,rfl,rfl⟩;refine A1<|Zm Y<|Zv (AP Fk Y)<|A3 Y<|Zb [15,0,3,4,5,6,7,10] ?_;refine CL (e0:=[(15,_)]) (H0:=[]) (fun e H=>∃(j:Nat),(j<=cs.length)/\e=[(15,I4 (j:Int))]/\H=[]) Wp ?hx_27 ?hy_27
   case hx_27=>
    refine AX<|Zb [15,0,3,4,5,6,7,10] ?_;refine BB (e0:=[(15,_)]) (fun m e H=>∃(j:Nat),m=0+j/\(j<=cs.length)/\e=[(15,I4 (j:Int))]/\H=[]) (by exact ⟨cs.length,V,B8 _,V,V⟩) Wp ?_;rintro _ _ _ ⟨j,rfl,hj,rfl,rfl⟩;refine Zq<|Zq<|BJ (n:=35) (0::1::3::7::7::23::63::127::255::7::519::2047::4095::8191::8191::24575::65535::131071::262143::8191::532479::2097151::4194303::8388607::8388607::25165823::67108863::134217727::268435455::8388607::545259519::2147483647::4294967295::8589934591::17179869183::[]) 0 AG AG V<|A2 0 V (AJ Y)<|A2 1 V (CO (n:=0) Y Y)<|A2 2 V (AJ Y)<|Cc (t:=154) Y (fun kz=>?_) (fun kz=>?_);·
     rw [CA kz];obtain ⟨y,hy⟩:∃y,cs[j -1]?=some y:=⟨_,zn A0⟩;obtain ⟨gl,p8,pg,zl,o8,mR,qa,ax⟩:=EE G A0;injection o8 with hv1 hv2 hv3
     subst hv1 mR;obtain ⟨cu,o9⟩:=rR ax hy;refine B1 3 V (AJ Y)<|B1 4 V (AJ Y)<|B1 5 V (Bo (n:=1) Y Y A0 A0)<|B1 6 V (AO Fk C5 Y Y A0)<|B1 7 V (Aj (off:=0) B9 V rfl A5 Y)<|D4 8 V Wh (Bj AE Y (by simpa using cu))<|B1 9 V (AV (off:=0) B9 V rfl A5 Y)<|D4 10 V Wh (Bj AE Y An)<|B1 11 V (EI Y Y)<|B1 12 V (AJ Y)<|Cc (t:=164) Y (fun O=>?_) (fun O=>?_);·
      rw [CA O];refine AW 13 V<|AW 14 V<|AW 15 V<|AW 16 V<|AW 17 V<|AW 18 V<|AW 19 V<|AW 20 V<|AW 21 V<|AW 22 V<|AW 23 V<|AW 24 V<|AW 25 V<|AW 26 V<|AW 27 V<|AW 28 V<|AW 29 V<|AW 30 V<|AW 31 V<|AW 32 V<|B1 33 V (AR Y Y)<|A2 34 V (AR Y Y)<|Ao<|Zn [0,3,4,5,6,7,10,15,186] ?_;refine Zx<|CQ Y<|AB<|Zx<|AX<|Zg<|Zm Y<|Yb (n:=1) Y Y<|AH Y<|A8<|Zn [15,0,3,4,5,6,7,10] ?_;refine AZ (e':=[(15,_)]) (by exact ⟨j -1,V,by omega,V,V⟩)
     rw [Bm O];refine B1 13 V (AJ Y)<|B1 14 V (AJ Y)<|B1 15 V (Bo (n:=1) Y Y A0 A0)<|B1 16 V (AO Fk C5 Y Y A0)<|B1 17 V (Aj (off:=0) B9 V rfl A5 Y)<|D4 18 V Wh (Bj AE Y (by simpa using cu))<|B1 19 V (AV (off:=0) B9 V rfl A5 Y)<|D4 20 V Wh (Bj AE Y An)<|B1 21 V (Br Y Y)<|B1 22 V (AJ Y)<|Cc (t:=174) Y (fun O=>?_) (fun O=>?_);·
      rw [CA O];refine B1 23 V (AJ Y)<|B1 24 V (AJ Y)<|B1 25 V (Bo (n:=1) Y Y A0 A0)<|B1 26 V (AO Fk C5 Y Y A0)<|B1 27 V (Aj (off:=1) B9 V rfl A5 Y)<|D4 28 V Wh (Bj AE Y (by simpa using o9))<|B1 29 V (AV (off:=1) B9 V rfl A5 Y)<|D4 30 V Wh (Bj AE Y An)<|B1 31 V (EI Y Y)<|B1 32 V (AR Y Y)<|B1 33 V (AL Y Y)<|A2 34 V (AR Y Y)<|Ao<|Zn [0,3,4,5,6,7,10,15,186] ?_;refine Zx<|Ak Y (fun vw=>?_) (fun vw=>?_);·
       refine AB<|Zx<|AX<|Zg<|Zm Y<|Yb (n:=1) Y Y<|AH Y<|A8<|Zn [15,0,3,4,5,6,7,10] ?_;refine AZ (e':=[(15,_)]) (by exact ⟨j -1,V,by omega,V,V⟩)
      refine Aw<|Zt<|Zt<|AQ<|Zn [15,0,3,4,5,6,7,10] ?_;refine Aq (e':=[(15,_)]) (by exact ⟨j,hj,V,V⟩)
     rw [Bm O];refine AW 23 V<|AW 24 V<|AW 25 V<|AW 26 V<|AW 27 V<|AW 28 V<|AW 29 V<|AW 30 V<|AW 31 V<|B1 32 V (AL Y Y)<|B1 33 V (AL Y Y)<|A2 34 V (AR Y Y)<|Ao<|Zn [0,3,4,5,6,7,10,15,186] ?_;refine Zx<|Dj Y<|Aw<|Zt<|Zt<|AQ<|Zn [15,0,3,4,5,6,7,10] ?_;refine Aq (e':=[(15,_)]) (by exact ⟨j,hj,V,V⟩)
    rw [Bm kz];refine AW 3 V<|AW 4 V<|AW 5 V<|AW 6 V<|AW 7 V<|AW 8 V<|AW 9 V<|AW 10 V<|AW 11 V<|AW 12 V<|AW 13 V<|AW 14 V<|AW 15 V<|AW 16 V<|AW 17 V<|AW 18 V<|AW 19 V<|AW 20 V<|AW 21 V<|AW 22 V<|AW 23 V<|AW 24 V<|AW 25 V<|AW 26 V<|AW 27 V<|AW 28 V<|AW 29 V<|AW 30 V<|AW 31 V<|AW 32 V<|AW 33 V<|A2 34 V (AL Y Y)<|Ao<|Zn [0,3,4,5,6,7,10,15,186] ?_;refine Zx<|Dj Y<|Aw<|Zt<|Zt<|AQ<|Zn [15,0,3,4,5,6,7,10] ?_;refine Aq (e':=[(15,_)]) (by exact ⟨j,hj,V,V⟩)
   rintro _ _ ⟨j,hj,rfl,rfl⟩;refine BJ (n:=12) (0::0::0::7::0::16::0::0::192::496::1023::2047::[]) 1568 AG AG V<|A2 0 V (AJ Y)<|A2 1 V (AJ Y)<|A2 2 V (AJ Y)<|A2 3 V (Hz Fk C5 Y Y Y A0)<|Fc 4 V Wh (Pa #[_,_,_,_,_,_,_,_,_,_] GC C5 Y)<|A2 6 V (AJ Y)<|A2 7 V (AJ Y)<|A2 8 V (Bn Fk C5 Y Y A0)<|Yw 5 511 V (Af (vs:=[_]) (cs:=[_,_,_,_,_,_,_,_,_,_]) Fk C5 K1 Y V rfl V rfl V)<|AF fun gb=>Yw 9 1023 V (BR (by_:=80) (sz:=10) Fk (V:Tryz.prog.info? 106=some Tryz.t106) V rfl V rfl Y (EX 10 106 gb 1 (D9 [c]) V AK) Y (IL G j (cs.length -j) _ A0) Wo Wo (by exact fun u hu=>XU cs u (ID hu)) A0 A0) ?_;rintro _ _ ⟨P6,d9,rfl⟩;obtain ⟨zx,zo,rfl⟩:=d9.form;refine Yw 10 2047 V (JC (by_:=80) (sz:=10) Fk (V:Tryz.prog.info? 106=some Tryz.t106) V rfl V rfl Y (IK G j _ hj) Y (Ig d9) Wo Wo A0 A0 A0) ?_;rintro _ _ ⟨P7,ek,rfl⟩;have qc:=BH ek (n':=(cs.take j++[c]++cs.drop j).length) (xs':=D9 (cs.take j++[c]++cs.drop j)) (by simp only [zq,zy,C0,FF];omega) (by rw [JU,JU,UW,UX,D2])
   obtain ⟨FT,zw,rfl⟩:=ek.form;refine A2 11 V (BF Y)<|Ao<|A8<|Zx<|Zg<|Zm Y<|Ya (n:=1) Y Y<|AH Y<|Zn [6,7,0,3,4,5] ?_;refine AZ (e':=[(6,_),(7,_)]) (by exact ⟨k+1,_,cs.take j++[c]++cs.drop j,_,V,⟨by omega,by simp only [zq,zy,C0,FF];omega,qc⟩,V,V⟩)
  refine Aw<|Zt<|Zt<|AQ<|Zx<|A1<|Zm Y<|Zp Y V<|Zh 1 Hs V rfl A5 Y<|Zl AE Y<|Ya (n:=1) Y Y<|Zm Y<|Zv (BQ (vs:=[(0,_),(1,_)]) (cs:=#[_,_]) Y (Aa (pl:=#[(0,1),(1,1)]) Pc Ft (fun _=>by kernel_rfl) V))<|Ze (Al Pc #[_,_])<|AF fun rb=>Xe (BN E6 Y Y (by(simp [Value.oneCell',Value.cells];done)) Wu (by exact (rfl:_=(#[I4 ((E.length:Int)+1),.slice Z cs.length X]:AN))) Ek (by exact B8 _) (by exact BU _))<|AD<|A1<|Zm Y<|Zo Wh (Pa #[_,_] HX E6 Y)<|Zc [_,_] Y call26 Y rfl (YV sp (E.length:Int) ((E.length:Int)+1) _ (Bd E) sv W Z X cs bn (WE G A0) qA yt A0) ?_;rintro _ _ ⟨_,qg,rfl⟩;rcases qg with⟨pz,v2,sw,rfl,qx,rfl⟩|⟨pz,rfl,rfl⟩
  ·
   refine AH Y<|Zn [0,3,4,5,16,17] ?_;refine Zx<|A1<|Zm Y<|Zv (Bb (n:=0) Y Y)<|AD<|Ak Y (fun he=>?_) (fun he=>?_);·
    have kv:WP (E++[⟨(E.length:Int)+1,Z,X,cs⟩]):=fun r hr=>by
     rcases DM.1 hr with hr|hr
     · exact lv.2 r hr
     · rw [D0.1 hr];exact Ex G
    have l8:DN (E++[⟨(E.length:Int)+1,Z,X,cs⟩]):=U.snoc pz (by show cs.length<=3;omega);have l9:(((E++[(⟨(E.length:Int)+1,Z,X,cs⟩:Bg)]).length:Nat):Int)=(E.length:Int)+1:=by rw [zq,FF];omega
    have qz:BZ 5 98 v2 (Bd (E++[⟨(E.length:Int)+1,Z,X,cs⟩])).length (Ac (Bd (E++[⟨(E.length:Int)+1,Z,X,cs⟩]))) sw:=by rw [Ew];exact qx
    have pq:∀r∈E++[(⟨(E.length:Int)+1,Z,X,cs⟩:Bg)],Dq (MM++W) (.slice r.q r.cs.length r.cap) r.cs:=by
     intro r hr;rcases DM.1 hr with hr|hr
     · exact aS (gy r hr) W
     · rw [D0.1 hr];exact PY (WE G A0) MM
    refine NZ (s1:=MM) (s2:=W) Wo Wo ?_;refine Zg<|Zm Y<|Zo Wh (Pa #[_,_] HX E6 Y)<|Ze (Af (vs:=[_]) (cs:=[_,_]) Fl E6 Pc Y V rfl V rfl V)<|AF fun gq=>Ze (BR (by_:=32) (sz:=2) Fl (V:Tryz.prog.info? 81=some Tryz.t81) V rfl V rfl Y (bf) Y (Dy 2 gq 1 1 81 (0,0) [I4 ((E.length:Int)+1),.slice Z cs.length X] V) Wo Wo GF A0 A0) ?_;rintro _ _ ⟨sO,qd,rfl⟩;have qh:=BH qd (n':=(E++[(⟨(E.length:Int)+1,Z,X,cs⟩:Bg)]).length) (xs':=Dl (E++[⟨(E.length:Int)+1,Z,X,cs⟩])) (by rw [zq,FF]) (by rw [Ow];rfl)
    obtain ⟨gO,cO,rfl⟩:=qd.form;refine AH Y<|A8<|Zx<|Zg<|Zm Y<|Ya (n:=1) Y Y<|AH Y<|Zn [3,5,0,4] ?_;refine AZ (e':=[(3,_),(5,_)]) (by exact ⟨i+1,E++[⟨(E.length:Int)+1,Z,X,cs⟩],_,_,sw,sO,MM++W,rfl,⟨by omega,l8,⟨by rw [zq,FF];omega,kv⟩,qz,qh,pq⟩,rfl,by rw [l9]⟩)
   exact absurd V he
  refine AH Y<|Zn [0,3,4,5,16,17] ?_;refine Zx<|A1<|Zm Y<|Zv (Bb (n:=0) Y Y)<|AD<|Ak Y (fun he=>by cases he)<|fun he=>AB<|A8<|Zx<|Zg<|Zm Y<|Ya (n:=1) Y Y<|AH Y<|Zn [3,5,0,4] ?_;refine AZ (e':=[(3,_),(5,_)]) (by exact ⟨i+1,E,_,_,sv,so,MM,V,⟨by omega,U,⟨by omega,lv.2⟩,bn,bf,gy⟩,V,V⟩)
 refine Aw<|Zt<|Zt<|AQ<|Zx<|Zq<|NZ (s1:=so) (s2:=MM) Wo Wo ?_;refine Zg<|Zm Y<|A3 Y<|AA<|AC V results55 Y (by exact ⟨E,_,U,⟨by omega,lv.2⟩,NJ bf A0 gy,V⟩)
def K2(k:Int×Int):A4:= .agg #[I4 k.1,I4 k.2]
def KD(k:Int×Int):Prop:=(Lit.int .i64 k.1).wf=true/\(Lit.int .i64 k.2).wf=true
def SY(r:AY):A4:= .agg r.Ao5
theorem xn:∀a b,K2 a=K2 b->a=b:=by
 rintro ⟨a,b⟩ ⟨c,d⟩ h;unfold K2 at h;simp only [Value.agg.injEq,Array.mk.injEq,kA,Value.int.injEq,and_true,c7]at h;rw [h.1,h.2]
theorem Z7(P:Program)(d:Nat)(a:Int){t:AM}(g:P.underlying t=some (.int .i64))(h:(Lit.int .i64 a).wf=true):P.keyLits (d+1) t [.int .i64 a]=some [.int .i64 a]:=by
 unfold Program.keyLits;rw [g];simp [h]
theorem qL:JB prog 145 K2 KD:=JB.ofLaw (deep_law (m:=3) (by decide) (by kernel_rfl) (by kernel_rfl) (by kernel_rfl)) (by
 rintro ⟨a,b⟩ ⟨E,G⟩;have y:Tryz.prog.types.size+1=(Tryz.prog.types.size -1)+1+1:=by
  have:0<Tryz.prog.types.size:=HH AG;omega
 have hc:Tryz.prog.cellsOf 3=1:=by kernel_rfl
 have g:Tryz.prog.cellsOf 145=2:=by kernel_rfl
 have K:Tryz.prog.keyType 145=true:=by kernel_rfl
 have J:(K2 (a,b)).formed prog 145=true:=by
  unfold Value.formed K2;rw [eW];simp [g]
 unfold keyOf;rw [eW];simp only [K,J,Bool.and_self,Ks];obtain ⟨d,I⟩:∃d,Tryz.prog.types.size+1=d+1+1:=⟨_,y⟩;rw [I];unfold Program.keyLits;rw [eW];have M:=Z7 prog d a F0 E
 have O:=Z7 prog d b F0 G;simp [K2,Value.cells,hc,g,M,O]) xn
structure Gx(l:List ((Int×Int)×A4))(rs:List AY):Prop where
 mem:∀p,p∈l↔∃r∈rs,p=((r.t,r.k),SY r)
 kd:∀r∈rs,KD (r.t,r.k)
theorem pE:Gx [] []:=⟨fun p=>by simp,fun r h=>by cases h⟩
variable{l:List ((Int×Int)×A4)}{rs:List AY}
theorem Gx.keys(h:Gx l rs):∀p∈l,KD p.1:=fun p g=>by
 obtain ⟨r,m,rfl⟩:=(h.mem p).1 g;exact h.kd r m
theorem YH{a b:AY}(h:SY a=SY b):a=b:=by
 obtain ⟨t,k,⟨x,y,z⟩⟩:=a;obtain ⟨m,g,⟨E,G,I⟩⟩:=b;unfold SY at h;simp only [Value.agg.injEq,Array.mk.injEq,kA,Value.int.injEq,and_true,c7]at h;obtain ⟨rfl,rfl,rfl,rfl,rfl⟩:=h;rfl
theorem Gx.len{es:Array MapEntry}{y:Nat}(I:FH K2 es y l)(h:Gx l rs)(K:BL rs):l.length=rs.length:=by
 have G:l.Nodup:=by
  have:=I.keys;rw [T5,cL]at this;rw [T5];exact this.imp (fun g e=>g (by rw [e]))
 have h2:(rs.map (fun r=>((r.t,r.k),SY r))).Nodup:=by
  rw [T5,cL];refine K.imp (fun{a b} hab e=>?_);have E:=YH (Prod.mk.inj e).2
  subst E;unfold AY.lt2 at hab;omega
 have J:l.Perm (rs.map (fun r=>((r.t,r.k),SY r))):=by
  rw [dr G h2];intro p;rw [h.mem p,GB];constructor;· rintro ⟨r,m,rfl⟩;exact ⟨r,m,rfl⟩
  · rintro ⟨r,m,rfl⟩;exact ⟨r,m,rfl⟩
 rw [J.length_eq,zu]
theorem Gx.get{es:Array MapEntry}{E:Nat}(I:FH K2 es E l)(h:Gx l rs)(K:BL rs)(t k:Int):
 (JR (t,k) l).getD (SY AY.zero)=SY (GZ rs t k).1/\(JR (t,k) l).isSome=(GZ rs t k).2:=by
 cases hg:(GZ rs t k).2 with
 |true=>
  obtain ⟨r,m,hi,_,G⟩:=Jq hg;have y:((t,k),SY r)∈l:=(h.mem _).2 ⟨r,m,by rw [show t=r.t from hi.1.symm,show k=r.k from hi.2.symm]⟩
  rw [J5 I.keys y,G];exact ⟨V,V⟩
 |false=>
  have g:∀r∈rs,¬r.is t k:=fun r m hi=>by rw [LK K m hi]at hg;cases hg
  have hn:JR (t,k) l=none:=QU (fun p J e=>by
   obtain ⟨r,m,rfl⟩:=(h.mem p).1 J;injection e with e1 e2
   exact g r m ⟨e1,e2⟩)
  rw [hn,QZ g];exact ⟨V,V⟩
theorem Gx.put{G:List ((Int×Int)×A4)}{c:Chg}(h:Gx l rs)(E:BL rs)(y:Gb rs c)(I:c.has=true)(J:KD (c.t,c.k))(K:∀p,p∈G↔p=((c.t,c.k),SY ⟨c.t,c.k,c.n⟩)\/(p∈l/\p.1≠(c.t,c.k))):Gx G (Ei rs c):=by
 refine ⟨fun p=>?_,fun r m=>?_⟩
 · rw [K p]
   constructor
   · rintro (rfl|⟨g,h2⟩)
     · exact ⟨_,(GY E y _).2 (.inr ⟨I,rfl⟩),rfl⟩
     · obtain ⟨r,m,rfl⟩:=(h.mem p).1 g
       exact ⟨r,(GY E y _).2 (.inl ⟨m,fun hi=>h2 (by rw [show r.t=c.t from hi.1,show r.k=c.k from hi.2])⟩),rfl⟩
   · rintro ⟨r,m,rfl⟩
     rcases (GY E y _).1 m with⟨g,h2⟩|⟨_,rfl⟩
     · exact .inr ⟨(h.mem _).2 ⟨r,g,rfl⟩,fun e=>h2 (by injection e with e1 e2;exact ⟨e1,e2⟩)⟩
     · exact .inl rfl
 · rcases (GY E y _).1 m with⟨g,_⟩|⟨_,rfl⟩
   · exact h.kd r g
   · exact J
theorem Gx.drop{I:List ((Int×Int)×A4)}{c:Chg}(h:Gx l rs)(E:BL rs)(y:Gb rs c)(G:c.has=false)(J:∀p,p∈I↔p∈l/\p.1≠(c.t,c.k)):Gx I (Ei rs c):=by
 refine ⟨fun p=>?_,fun r m=>?_⟩
 · rw [J p]
   constructor
   · rintro ⟨g,h2⟩
     obtain ⟨r,m,rfl⟩:=(h.mem p).1 g;exact ⟨r,(GY E y _).2 (.inl ⟨m,fun hi=>h2 (by rw [show r.t=c.t from hi.1,show r.k=c.k from hi.2])⟩),rfl⟩
   · rintro ⟨r,m,rfl⟩
     rcases (GY E y _).1 m with⟨g,h2⟩|⟨h9,_⟩
     · exact ⟨(h.mem _).2 ⟨r,g,rfl⟩,fun e=>h2 (by injection e with e1 e2;exact ⟨e1,e2⟩)⟩
     · rw [G]at h9;cases h9
 · rcases (GY E y _).1 m with⟨g,_⟩|⟨h9,_⟩
   · exact h.kd r g
   · rw [G]at h9;cases h9
theorem vk{n:Int}(h:-9223372036854775808<=n/\n<=9223372036854775807):(Lit.int .i64 n).wf=true:=by
 simp [Lit.wf,IntKind.min,IntKind.max,IntKind.signed,IntKind.bits];omega
theorem rQ{c:Chg}(h:c.ok):KD (c.t,c.k):=by
 obtain ⟨g,h2,_,_⟩:=h;have m:(0<=c.t/\c.t<=3)/\(1<=c.k/\c.k<=1000000):=by
  cases hh:c.had with
  |true=>
   have:c.before.ok:=Xs (fun hn=>h2 (.inl ⟨hh,hn⟩));rw [NA hh]at this;exact this.2
  |false=>
   cases hs:c.has with
   |true=>
    have:c.after.ok:=Xs (fun hn=>h2 (.inr ⟨hs,hn⟩));rw [KR hs]at this;exact this.2
   |false=>exact absurd (.inl ⟨by rw [hh];decide,by rw [hs];decide⟩) g
 exact ⟨vk (by show _<=c.t/\c.t<=_;omega),vk (by show _<=c.k/\c.k<=_;omega)⟩
theorem SK(c:Chg):BC prog 76 #[.agg c.Ao4] [] (.tuple #[.agg #[I4 (Eo c c.has c.n).t,I4 (Eo c c.has c.n).k,I4 (Eo c c.has c.n).v.a,I4 (Eo c c.has c.n).v.b,I4 (Eo c c.has c.n).v.c],.bool c.has]):=by
 refine Se func76 ntmps76 [0] ?_;intro u R;refine A1<|Ze (Bx #[_,_,_,_,_,_,_,_,_,_])<|AF fun g=>Ze (Al Dd #[_,_,_,_,_])<|AF fun m=>A3 Y<|A1<|Zo Wh (A9 (cs:=#[_,_,_,_,_,_,_,_,_,_]) GC C5 Y B5 An)<|Zh 6 B9 V rfl Cl Y<|Zl DH Y<|Zh 7 B9 V rfl CD Y<|Zo Wh (A9 (cs:=#[_,_,_]) HB CD Y B5 An)<|Xr [_,_,_] Y call145 Y V (We c c.has c.n)<|Zd Y V<|Zd Y V<|Xe (Xw Ax _)<|AH Y<|Zn [2,3] ?_;refine Zx<|AA<|CJ V results76 Y Wh (Ar C7 Ax Wn (V)) Y (by exact ⟨V,V⟩)
theorem nC:Bz prog 18 #[] [] (fun r H'=>∃sp g,r=I5 sp/\H'=[[(sp,.cells #[.map (some g),I4 0] 124 (0,0))],[(g,.map #[] 0)]]):=by
 refine Se func18 ntmps18 [] ?_;intro u R;refine A1<|A3 Y<|A1<|Ze (Pt)<|AF fun g=>Zv (BQ (vs:=[(0,_)]) (cs:=#[_,_]) Y (Aa (pl:=#[(0,1),(1,1)]) zeroValue122 US (fun _=>by kernel_rfl) V))<|Zv (BQ (vs:=[(0,_)]) (cs:=#[_,_]) Y (Aa (pl:=#[(0,2)]) zeroValue124 Up (fun _=>by kernel_rfl) V))<|Ze (Bx #[_,_])<|AF fun sp=>A3 Y<|AA<|AC V results18 Y (by exact ⟨sp,g,V,V⟩)
theorem u7(sp mb:Nat)(p rp:Int)(es:Array MapEntry)(ck:Nat)(lm:List ((Int×Int)×A4))(rs:List AY)(M:List AU)(q:B7)(cap:Nat)(cs:List Chg)(hm:FH K2 es ck lm)(hR:Gx lm rs)(hO:Dq M (.slice q cs.length cap) cs)(hs:BL rs)(hn:rs.length<=2000)(hA:Nt rs p rp cs):
 BC prog 75 #[I5 sp,.agg #[I4 rp,.slice q cs.length cap]] [[(sp,.cells #[.map (some mb),I4 p] 124 (0,0))],[(mb,.map es ck)],M] (.bool true):=by
 have kv:=mL;obtain ⟨p9,gm,e9,kz,hg⟩:=id hO;injection e9 with e91 e92 e93
 subst e91 e93;have G:=hA.ok
 have l8:=hA.pos;have gy:=G.len
 have l9:=G.pos;have gq:=Qg G.ord
 have cu:=hR.len hm hs;refine Se func75 ntmps75 [0,1] ?_;intro u R;refine A1<|Ze (Bx #[_,_])<|AF fun b1=>A3 Y<|Zq<|Zq<|BJ (n:=14) (0::1::3::7::15::31::15::79::207::463::975::1999::4095::8191::[]) 2 AG AG V<|Fc 0 V Wh (A9 (cs:=#[_,_]) HX E6 Y B5 An)<|Yw 1 3 V (Zu [_] Y call144 Y V (Q3 rp q cap cs M hO)) ?_;rintro _ _ ⟨rfl,rfl⟩;rw [CA G];refine A2 2 V (Cj Y)<|A2 3 V (AJ Y)<|Ck (t:=13) Y (fun Z=>?_) (fun Z=>?_);·
  rw [Z];cases Z
 rw [Z];refine B1 4 V (AV (off:=0) Ft V rfl A5 Y)<|D4 5 V Wh (Bj AE Y An)<|B1 6 V (AJ Y)<|B1 7 V (EY Y V)<|B1 8 V (AV (off:=0) Up V rfl Wk Y)<|B1 9 V (Aj (off:=1) US V rfl A5 Y)<|D4 10 V Wh (Bj AE Y An)<|B1 11 V (EU Y Y (IntWalk.i64_in _ A0))<|B1 12 V (IC Y Y)<|A2 13 V (AL Y Y)<|Ao<|Zn [0,3,23] ?_;refine Zx<|Ak Y (fun h2=>?_) (fun h2=>?_);·
  exfalso;contradiction
 refine AB<|Zx<|A1<|Zm Y<|Zp Y V<|Zh 0 Up V rfl Wk Y<|Zv (Aj (off:=0) US V rfl dd Y)<|Zl isAgg120 Y<|Zo Wh (ji cU hm Y)<|A3 Y<|Zq<|A1<|Zh 1 Ft V rfl Hx Y<|Zl J1 Y<|Zv (AP Fk Y)<|Zm Y<|AD<|AX<|Zb [5,33,0,31,32] ?_;refine BB (e0:=[(5,_),(33,_)]) (fun m e H=>∃(i:Nat),m=cs.length -i/\(i<=cs.length)/\e=[(5,I4 (Hq rs (cs.take i))),(33,I4 (i:Int))]/\H=[]) (by exact ⟨0,rfl,C2 _,by rw [cu];rfl,rfl⟩) Wp ?_;rintro _ _ _ ⟨i,rfl,hi,rfl,rfl⟩;have d9:=Oj rs cs i
 refine A1<|Zv (Au Y Y)<|AD<|Zq<|Ak Y (fun X=>?_) (fun X=>?_);·
  obtain ⟨x,hx⟩:∃x,cs[i]?=some x:=⟨_,zn X⟩;obtain ⟨g,off,cur,T,zz,rfl,cO,lv,ax⟩:=hg i x hx;have ek:=G.all i x hx
  have bn:=rQ ek;obtain ⟨bf,U⟩:=hA.fit x (Cd hx);have I:=hR.get hm hs x.t x.k
  obtain ⟨J,W⟩:∃J,J=GZ rs x.t x.k:=⟨_,rfl⟩;rw [<-W]at I bf U;clear W;refine AB<|Zx<|Zq<|AX<|A1<|Ap (AO Fk C5 Y Y A0)<|Ca (cs:=[(g,.cells cur T zz)]) (by simp [cO]) (A9 (cs:=x.Ao4) GC C5 Y A0 ax) V rfl<|Ze (Al K1 #[_,_,_,_,_,_,_,_,_,_])<|AF fun cb=>Xe (Xw C5 x.Ao4)<|AD<|Zq<|BJ (n:=17) (0::1::3::7::15::0::32::0::128::480::1023::2047::4095::4095::0::24575::65535::[]) 49152 AG AG V<|A2 0 V (AJ Y)<|A2 1 V (EY Y V)<|A2 2 V (AV (off:=0) Up V rfl Wk Y)<|A2 3 V (Aj (off:=0) US V rfl dd Y)<|B2 4 V isAgg120 Y<|A2 5 V (AV (off:=0) B9 V rfl A5 Y)<|B2 6 V AE Y<|A2 7 V (AV (off:=1) B9 V rfl A5 Y)<|B2 8 V AE Y<|A2 9 V (BQ (vs:=[(0,_),(1,_)]) (cs:=#[_,_]) Y (Aa (pl:=#[(0,1),(1,1)]) zeroValue145 eW (fun _=>by kernel_rfl) V))<|Fc 10 V Wh (QQ qL cU Dd hm hR.keys (bn) (I) Y Y)<|A2 11 V (AJ Y)<|A2 12 V (Ch Y V)<|A2 13 V (Ch Y V)<|Zz (l:=[14])<|BE [true,true,true,true] [(10,(_,_)),(8,(_,_)),(6,(_,_)),(4,(_,_))] V rfl (Al Dd #[_,_,_,_,_]) ?_ (fun _ _ h=>h.elim) Ay;rintro _ _ ⟨ob,rfl,rfl⟩;refine BT<|Yw 15 65535 V (Xw Ax #[I4 J.1.t,I4 J.1.k,I4 J.1.v.a,I4 J.1.v.b,I4 J.1.v.c])<|C3<|A2 16 V (BF Y)<|Ao<|Zn [0,5,7,8,9,31,32,33] ?_;refine Zx<|Zq<|A1<|Zm Y<|Zh 2 B9 V rfl Cl Y<|Zl DH Y<|Zv (Lm On Y Y)<|Zm Y<|Ai (t:=55) Y V (fun af=>?_) (fun af=>?_);·
   exfalso;contradiction
  refine Zf Y Y<|Zf Y Y<|Ah (t:=57) Y V (fun K=>?_) (fun K=>?_);·
   refine Yf 2 Ds V rfl CD Y<|DF Y Wh (A9 (cs:=#[_,_,_]) HB CD Y B5 An) V rfl<|Yf 3 B9 V rfl CD Y<|DF Y Wh (A9 (cs:=#[_,_,_]) HB CD Y B5 An) V rfl<|Yg (Lp AG G1 F0 AE A5 Y Y) ?_;refine Yg (AR Y Y)<|Zv (AL Y Y)<|Z0<|Zn [0,5,7,31,32,33,64] ?_;refine Zx<|Ak Y (fun O=>?_) (fun O=>?_);·
    exfalso;exact O (U K)
   refine AB<|Zx<|Zq<|A1<|Zh 2 B9 V rfl Cl Y<|Zl DH Y<|AD<|Ad Y (fun E=>?_) (fun E=>?_);·
    refine Zg<|Zm Y<|Ap (HV Y Y (IntWalk.i64_in _ A0))<|A3 Y<|A1<|Zh 6 B9 V rfl Cl Y<|Zl DH Y<|AD<|Ad Y (fun y=>?_) (fun y=>?_);·
     refine Zg<|Zm Y<|Yi Y Y<|AH Y<|A8<|Zx<|Zg<|Ya (n:=1) Y Y<|Zm Y<|Z0<|Zn [5,33,0,31,32] ?_;refine AZ (e':=[(5,_),(33,_)]) (by exact ⟨i+1,rfl,by omega,by rw [gF hx E y],rfl⟩)
    refine AB<|A8<|Zx<|Zg<|Ya (n:=1) Y Y<|Zm Y<|Z0<|Zn [5,33,0,31,32] ?_;refine AZ (e':=[(5,_),(33,_)]) (by exact ⟨i+1,rfl,by omega,by rw [gG hx E y],rfl⟩)
   refine AB<|Zx<|A1<|Zh 6 B9 V rfl Cl Y<|Zl DH Y<|AD<|Ad Y (fun y=>?_) (fun y=>?_);·
    refine Zg<|Zm Y<|Yi Y Y<|AH Y<|A8<|Zx<|Zg<|Ya (n:=1) Y Y<|Zm Y<|Z0<|Zn [5,33,0,31,32] ?_;refine AZ (e':=[(5,_),(33,_)]) (by exact ⟨i+1,rfl,by omega,by rw [gH hx E y],rfl⟩)
   refine AB<|A8<|Zx<|Zg<|Ya (n:=1) Y Y<|Zm Y<|Z0<|Zn [5,33,0,31,32] ?_;refine AZ (e':=[(5,_),(33,_)]) (by exact ⟨i+1,rfl,by omega,by rw [gI hx E y],rfl⟩)
  refine A7 Y V<|A7 Y V<|A7 Y V<|A7 Y V<|A7 Y V<|Yg (AL Y Y)<|Zv (AL Y Y)<|Z0<|Zn [0,5,7,31,32,33,64] ?_;refine Zx<|Dj Y<|AB<|Zx<|Zq<|A1<|Zh 2 B9 V rfl Cl Y<|Zl DH Y<|AD<|Ad Y (fun E=>?_) (fun E=>?_);·
   refine Zg<|Zm Y<|Ap (HV Y Y (IntWalk.i64_in _ A0))<|A3 Y<|A1<|Zh 6 B9 V rfl Cl Y<|Zl DH Y<|AD<|Ad Y (fun y=>?_) (fun y=>?_);·
    refine Zg<|Zm Y<|Yi Y Y<|AH Y<|A8<|Zx<|Zg<|Ya (n:=1) Y Y<|Zm Y<|Z0<|Zn [5,33,0,31,32] ?_;refine AZ (e':=[(5,_),(33,_)]) (by exact ⟨i+1,rfl,by omega,by rw [gF hx E y],rfl⟩)
   refine AB<|A8<|Zx<|Zg<|Ya (n:=1) Y Y<|Zm Y<|Z0<|Zn [5,33,0,31,32] ?_;refine AZ (e':=[(5,_),(33,_)]) (by exact ⟨i+1,rfl,by omega,by rw [gG hx E y],rfl⟩)
  refine AB<|Zx<|A1<|Zh 6 B9 V rfl Cl Y<|Zl DH Y<|AD<|Ad Y (fun y=>?_) (fun y=>?_);·
   refine Zg<|Zm Y<|Yi Y Y<|AH Y<|A8<|Zx<|Zg<|Ya (n:=1) Y Y<|Zm Y<|Z0<|Zn [5,33,0,31,32] ?_;refine AZ (e':=[(5,_),(33,_)]) (by exact ⟨i+1,rfl,by omega,by rw [gH hx E y],rfl⟩)
  refine AB<|A8<|Zx<|Zg<|Ya (n:=1) Y Y<|Zm Y<|Z0<|Zn [5,33,0,31,32] ?_;refine AZ (e':=[(5,_),(33,_)]) (by exact ⟨i+1,rfl,by omega,by rw [gI hx E y],rfl⟩)
 have ei:i=cs.length:=by omega
 subst ei;rw [G0]at d9⊢;refine Aw<|Zt<|Zt<|AQ<|Zx<|A1<|Zm Y<|Zv (KI Y Y)<|A3 Y<|AA<|AC rfl results75 Y (by exact ⟨by rw [CA hA.size],rfl⟩)
theorem nD(sp mb:Nat)(p rp:Int)(es:Array MapEntry)(I:Nat)(lm:List ((Int×Int)×A4))(rs:List AY)(M:List AU)(q:B7)(cap:Nat)(cs:List Chg)(hm:FH K2 es I lm)(hR:Gx lm rs)(hO:Dq M (.slice q cs.length cap) cs)(hs:BL rs)(hn:rs.length<=2000)(hA:Nt rs p rp cs):
 Bz prog 32 #[I5 sp,.agg #[I4 rp,.slice q cs.length cap]] [[(sp,.cells #[.map (some mb),I4 p] 124 (0,0))],[(mb,.map es I)],M] (fun r H'=>r=I4 0/\∃ax af d9,FH K2 ax af d9/\Gx d9 (Dc rs cs)/\H'=[[(sp,.cells #[.map (some mb),I4 rp] 124 (0,0))],[(mb,.map ax af)],M]):=by
 have mR:=mL;obtain ⟨p9,l9,e9,o8,hg⟩:=id hO;injection e9 with e91 e92 e93
 subst e91 e93;have G:=hA.ok
 have o9:=hA.pos;have lv:=G.len
 have p8:=G.pos;have bf:=Qg G.ord
 refine Se func32 ntmps32 [0,1] ?_;intro u R;refine A1<|Ze (Bx #[_,_])<|AF fun b1=>A3 Y<|Zq<|AX<|A1<|Zm Y<|Zv (Ef ao Y Y)<|A3 Y<|Ad Y (fun h1=>by cases h1)<|fun h1=>A1<|Zm Y<|Zo Wh (A9 (cs:=#[_,_]) HX E6 Y B5 An) ?_;refine Xr [_,_] Y call75 Y V (u7 sp mb p rp es I lm rs M q cap cs hm hR hO hs hn hA) ?_;refine Zv (Cj Y)<|A3 Y<|Ad Y (fun h2=>by cases h2)<|fun h2=>AB<|A8<|Zx<|Zq<|A1<|Zh 1 Ft V rfl Hx Y<|Zl J1 Y ?_;refine Zv (AP Fk Y)<|Zm Y<|Z0<|Zn [0,3,19,20,21] ?_;refine Zx<|AX<|Zb [21,0,3,19,20] ?_;refine BB (e0:=[(21,_)]) (fun m e H=>∃(i:Nat) (es:Array MapEntry) (I:Nat) (lm:List ((Int×Int)×A4)),m=cs.length -i/\(i<=cs.length/\FH K2 es I lm/\Gx lm (Dc rs (cs.take i)))/\e=[(21,I4 (i:Int))]/\H=[[(mb,.map es I)]]) (by exact ⟨0,es,I,lm,rfl,⟨C2 _,hm,by rw [Hj];exact hR⟩,rfl,rfl⟩) Wp ?_;rintro _ _ _ ⟨i,gm,ek,l8,rfl,⟨hi,W,y⟩,rfl,rfl⟩;refine A1<|Zv (Au Y Y)<|AD<|Zq<|Ak Y (fun cu=>?_) (fun cu=>?_);·
  obtain ⟨x,hx⟩:∃x,cs[i]?=some x:=⟨_,zn cu⟩;obtain ⟨g,off,cur,T,zz,rfl,kv,pg,gq⟩:=hg i x hx;have kz:=G.all i x hx
  have U:=rQ kz;obtain ⟨cO,gy⟩:=Jr hs bf hA.fit i hi;have bn:=gy i x (B8 _) hx
  refine AB<|Zx<|Zq<|AX<|A1<|Ap (AO Fk C5 Y Y A0)<|Ca (cs:=[(g,.cells cur T zz)]) (by simp [kv]) (A9 (cs:=x.Ao4) GC C5 Y A0 gq) V rfl ?_;refine Ze (Al K1 #[_,_,_,_,_,_,_,_,_,_])<|AF fun cb=>Xe (Xw C5 x.Ao4) ?_;refine AD<|A1<|Zh 0 B9 V rfl A5 Y<|Zl AE Y ?_;refine Zh 1 B9 V rfl A5 Y<|Zl AE Y ?_;refine Zv (BQ (vs:=[(0,_),(1,_)]) (cs:=#[_,_]) Y (Aa (pl:=#[(0,1),(1,1)]) zeroValue145 eW (fun _=>by kernel_rfl) V))<|Ze (Al zeroValue145 #[_,_])<|AF fun kb=>Xe (BN sizeOf145 Y Y (by(simp [Value.oneCell',Value.cells];done)) Wu (by exact (rfl:_=(#[I4 x.t,I4 x.k]:AN))) Ek AK (by exact BU _)) ?_;refine AD<|A1<|Zo Wh (A9 (cs:=#[_,_,_,_,_,_,_,_,_,_]) GC C5 Y B5 An) ?_;refine Xr [_] Y call76 Y V (SK x) ?_;refine Zm Y<|Zd Y V<|Zd Y V<|Ze (Al Dd #[_,_,_,_,_])<|AF fun xb=>Xe (Xw Ax #[I4 (Eo x x.has x.n).t,I4 (Eo x x.has x.n).k,I4 (Eo x x.has x.n).v.a,I4 (Eo x x.has x.n).v.b,I4 (Eo x x.has x.n).v.c]) ?_;refine AH Y<|Zn [0,3,7,8,9,19,20,21] ?_;refine Zx<|A1<|Zm Y<|AD<|Ad Y (fun hh=>?_) (fun hh=>?_);·
   rw [qM hh];refine BJ (n:=8) (0::1::3::7::15::0::0::127::[]) 128 AG AG V<|A2 0 V (AJ Y)<|A2 1 V (EY Y V)<|A2 2 V (AV (off:=0) Up V rfl Wk Y)<|A2 3 V (Aj (off:=0) US V rfl dd Y)<|B2 4 V isAgg120 Y ?_;refine Fc 5 V Wh (A9 (cs:=#[_,_]) isAgg145 sizeOf145 Y B5 An) ?_;refine Fc 6 V Wh (A9 (cs:=#[_,_,_,_,_]) C7 Ax Y B5 An) ?_;refine Yw 7 255 V (MQ qL cU W y.keys (U) Y Y Y Wo) ?_;rintro _ _ ⟨rfl,K,J,E,X,Z,rfl⟩;have O:Gx E (Dc rs (cs.take (i+1))):=by rw [EO rs cs i x hx];exact y.put cO bn hh U Z
   refine Ao<|A8<|Zx<|Zg<|Ya (n:=1) Y Y<|Zm Y<|Z0<|Zn [21,0,3,19,20] ?_;refine AZ (e':=[(21,_)]) (by exact ⟨i+1,K,J,E,V,⟨by omega,X,O⟩,V,V⟩)
  refine BJ (n:=7) (0::1::3::7::15::0::63::[]) 64 AG AG V<|A2 0 V (AJ Y)<|A2 1 V (EY Y V)<|A2 2 V (AV (off:=0) Up V rfl Wk Y)<|A2 3 V (Aj (off:=0) US V rfl dd Y)<|B2 4 V isAgg120 Y ?_;refine Fc 5 V Wh (A9 (cs:=#[_,_]) isAgg145 sizeOf145 Y B5 An) ?_;refine Yw 6 127 V (lw qL cU W y.keys (U) Y Y Wo) ?_;rintro _ _ ⟨rfl,K,J,E,X,Z,rfl⟩;have O:Gx E (Dc rs (cs.take (i+1))):=by rw [EO rs cs i x hx];exact y.drop cO bn hh Z
  refine Ao<|A8<|Zx<|Zg<|Ya (n:=1) Y Y<|Zm Y<|Z0<|Zn [21,0,3,19,20] ?_;refine AZ (e':=[(21,_)]) (by exact ⟨i+1,K,J,E,V,⟨by omega,X,O⟩,V,V⟩)
 have ei:i=cs.length:=by omega
 subst ei;rw [G0]at y;refine Aw<|Zt<|Zt<|AQ<|Zx<|A1<|Zm Y<|Zh 0 Ft V rfl A5 Y<|Zl AE Y ?_;refine Zp Y V<|Zh 0 Up V rfl Wk Y<|Zv (Aj (off:=1) US V rfl A5 Y)<|Xe (Zs A5 Y Y V (hc:=by exact (V:_=(#[.map (some mb),I4 rp]:AN))) (hi:=by(simp;done))) ?_;refine AD<|A1<|A3 Y<|AA<|AC V results32 Y (by exact ⟨V,gm,ek,l8,W,y,V⟩)
theorem yB(q:B7)(cap:Nat)(l:List Bg)(M:List AU)(X:Cw M (.slice q l.length cap) l)(E:DN l)(hl:l.length<=1000000)(k:Nat)(hk:k<=l.length):
 Bz prog 10 #[.slice q l.length cap,I4 (k:Int)] [M] (fun r H'=>∃sp I es y lm,r= .tuple #[I5 sp,I4 0]/\FH K2 es y lm/\Gx lm (Bd (l.take k))/\H'=[[(sp,.cells #[.map (some I),I4 (k:Int)] 124 (0,0))],[(I,.map es y)],M]):=by
 have gm:=mL;obtain ⟨p9,d9,e9,⟨gq,ek⟩,hg⟩:=id X;injection e9 with e91 e92 e93
 subst e91 e93;refine Se func10 ntmps10 [0,1] ?_;intro u R;refine A1<|Za Y<|A3 Y<|Zq<|A1<|Zm Y<|Zv (Au (n:=0) Y Y)<|Zm Y<|Ai (t:=11) Y V (fun h1=>?_) (fun h1=>?_);·
  exfalso;(cases h1;done)
 refine Zf Y Y<|Zf Y Y<|Yg (AP Fl Y)<|Yg (CO Y Y)<|Zv (AL Y Y)<|AD<|Ak Y (fun h2=>by omega)<|fun h2=>AB<|Zx<|A1<|Zc [] Y call18 Y V (nC) ?_;rintro _ _ ⟨_,⟨sp,I,rfl,rfl⟩,rfl⟩;refine A3 Y<|Zq<|A1<|Zm Y<|Zm Y<|Ap (Bc Fl E6 Y Y A0)<|Zv (AP Fl Y)<|Zm Y<|Z0<|Zn [6,20,21,22] ?_;refine Zx<|AX<|Zb [22,6,20,21] ?_;refine BB (e0:=[(22,_)]) (fun m e H=>∃(i:Nat) (es:Array MapEntry) (y:Nat) (lm:List ((Int×Int)×A4)),m=k -i/\(i<=k/\FH K2 es y lm/\Gx lm (Bd (l.take i)))/\e=[(22,I4 (i:Int))]/\H=[[(sp,.cells #[.map (some I),I4 (i:Int)] 124 (0,0))],[(I,.map es y)]]) (by exact ⟨0,#[],0,[],rfl,⟨C2 _,TM _,by rw [Hj];exact pE⟩,rfl,rfl⟩) Wp ?_;rintro _ _ _ ⟨i,es,y,lm,rfl,⟨hi,hm,hR⟩,rfl,rfl⟩;refine A1<|Zv (Au Y Y)<|AD<|Zq<|Ak Y (fun ax=>?_) (fun ax=>?_);·
  obtain ⟨r,hr⟩:∃r,l[i]?=some r:=⟨_,zn A0⟩;obtain ⟨O,g,off,cur,T,zz,rfl,bn,gy,Z⟩:=hg i r hr;obtain ⟨hA,h3⟩:=E i r hr;have cu:=hA.pos
  obtain ⟨cO,af⟩:=E.rows i A0;refine AB<|Zx<|Zq<|AX<|A1<|Ap (AO Fl E6 Y Y A0)<|Ca (cs:=[(g,.cells cur T zz)]) (by simp [bn]) (A9 (cs:=#[_,_]) HX E6 Y A0 Z) V rfl<|Ze (Al Pc #[_,_])<|AF fun rb=>Xe (Xw E6 #[I4 r.p,.slice r.q r.cs.length r.cap])<|AD<|A1<|Zm Y<|Zo Wh (A9 (cs:=#[_,_]) HX E6 Y B5 An)<|Zc [_,_] Y call32 Y V (nD sp I (i:Int) r.p es y lm (Bd (l.take i)) M r.q r.cap r.cs hm hR O cO af hA) ?_;rintro _ _ ⟨_,⟨rfl,K,J,G,bf,U,rfl⟩,rfl⟩;have W:Gx G (Bd (l.take (i+1))):=by rw [Kx,hr];show Gx G (Bd (l.take i++[r]));rw [Ew];exact U
  rw [show r.p=((i+1:Nat):Int) by rw [cu];rfl];refine Zv (E5 (n:=0) Y Y)<|AD<|Ak Y (fun h4=>?_) (fun h4=>?_);·
   exfalso;exact h4 rfl
  refine AB<|A8<|Zx<|Zg<|Ya (n:=1) Y Y<|Zm Y<|Z0<|Zn [22,6,20,21] ?_;refine AZ (e':=[(22,_)]) (by exact ⟨i+1,K,J,G,V,⟨by omega,bf,W⟩,V,V⟩)
 have ei:i=k:=by omega
 subst ei;refine Aw<|Zt<|Zt<|AQ<|Zx<|A1<|Zm Y<|Za Y<|A3 Y<|AA<|Dv V results10 Y Y (by exact ⟨sp,I,es,y,lm,V,hm,hR,V⟩)
theorem Qx(sp:Nat)(p rp:Int)(v:A4)(rs:List AY)(G M:List AU)(q:B7)(g:Nat)(cs:List Chg)(y:BZ 5 98 v rs.length (Ac rs) G)(J:Dq M (.slice q cs.length g) cs)(O:BL rs)(hn:rs.length<=2000)(K:0<=p/\p<=10000)(I:Nt rs p rp cs):
 Bz prog 26 #[I5 sp,.agg #[I4 rp,.slice q cs.length g]] [[(sp,.cells #[v,I4 p] 130 (0,0))],G,M] (fun r H'=>r=I4 0/\∃E m,BZ 5 98 E (Dc rs cs).length (Ac (Dc rs cs)) m/\H'=[[(sp,.cells #[E,I4 rp] 130 (0,0))],m,M]):=
 Jv.mono (YV sp p rp v rs G M q g cs y J O hn K) (fun r H' h=>by
  rcases h with⟨_,E,m,rfl,h,rfl⟩|⟨h,_⟩
  · exact ⟨rfl,E,m,h,rfl⟩
  · exact absurd I h) (fun _ _ h=>h)
theorem yF(q:B7)(cap:Nat)(l:List Bg)(M:List AU)(U:Cw M (.slice q l.length cap) l)(y:DN l)(hl:l.length<=9000)(k:Nat)(hk:k<=l.length):
 Bz prog 40 #[.slice q l.length cap,I4 (k:Int)] [M] (fun r H'=>∃sp w E,r= .tuple #[I5 sp,I4 0]/\BZ 5 98 w (Bd (l.take k)).length (Ac (Bd (l.take k))) E/\H'=[[(sp,.cells #[w,I4 (k:Int)] 130 (0,0))],E,M]):=by
 have cO:=mL;obtain ⟨p9,bn,e9,⟨d9,cu⟩,hg⟩:=id U;injection e9 with e91 e92 e93
 subst e91 e93;refine Se func40 ntmps40 [0,1] ?_;intro u R;refine A1<|Za Y<|A3 Y<|Zq<|A1<|Zm Y<|Zv (Au (n:=0) Y Y)<|Zm Y<|Ai (t:=11) Y V (fun h1=>?_) (fun h1=>?_);·
  exfalso;(cases h1;done)
 refine Zf Y Y<|Zf Y Y<|Yg (AP Fl Y)<|Yg (CO Y Y)<|Zv (AL Y Y)<|AD<|Ak Y (fun h2=>by omega)<|fun h2=>AB<|Zx<|A1<|Zc [] Y call24 Y V (bX) ?_;rintro _ _ ⟨_,⟨sp,rfl,rfl⟩,rfl⟩;refine A3 Y<|Zq<|A1<|AH Y<|Zn [0,1,6,7] ?_;refine Zx<|AX<|Bl<|Zb [7,0,1,6] ?_;refine BB (e0:=[(7,_)]) (fun m e H=>∃(i:Nat) (w:A4) (E:List AU),m=k -i/\(i<=k/\BZ 5 98 w (Bd (l.take i)).length (Ac (Bd (l.take i))) E)/\e=[(7,I4 (i:Int))]/\H=[[(sp,.cells #[w,I4 (i:Int)] 130 (0,0))],E]) (by exact ⟨0,.slice none 0 0,[],rfl,⟨C2 _,by rw [Hj];exact Ba 5 _⟩,rfl,rfl⟩) Wp ?_;rintro _ _ _ ⟨i,w,E,rfl,⟨hi,I⟩,rfl,rfl⟩;refine Zq<|A1<|Zm Y<|Zm Y<|Zv (Au Y Y)<|AD<|Ak Y (fun Z=>?_) (fun Z=>?_);·
  obtain ⟨r,hr⟩:∃r,l[i]?=some r:=⟨_,zn A0⟩;obtain ⟨O,g,off,cur,T,zz,rfl,af,ek,W⟩:=hg i r hr;obtain ⟨hA,h3⟩:=y i r hr;have ax:=hA.pos
  obtain ⟨bf,X⟩:=y.rows i A0;refine AB<|Zx<|Zq<|AX<|A1<|Zm Y<|Zm Y<|Zm Y<|Ap (AO Fl E6 Y Y A0)<|Ca (cs:=[(g,.cells cur T zz)]) (by simp [af]) (A9 (cs:=#[_,_]) HX E6 Y A0 W) V rfl<|Zc [_,_] Y call26 Y V (Qx sp (i:Int) r.p w (Bd (l.take i)) E M r.q r.cap r.cs I O bf X A0 hA) ?_;rintro _ _ ⟨_,⟨rfl,v2,G,J,rfl⟩,rfl⟩;have K:BZ 5 98 v2 (Bd (l.take (i+1))).length (Ac (Bd (l.take (i+1)))) G:=by rw [Kx,hr];show BZ 5 98 v2 (Bd (l.take i++[r])).length (Ac (Bd (l.take i++[r]))) G;rw [Ew];exact J
  rw [show r.p=((i+1:Nat):Int) by rw [ax];rfl];refine A3 Y<|A1<|Zm Y<|Zv (E5 (n:=0) Y Y)<|AD<|Ak Y (fun h4=>?_) (fun h4=>?_);·
   exfalso;exact h4 rfl
  refine AB<|A8<|Zx<|Zg<|Zm Y<|Ya (n:=1) Y Y<|AH Y<|Zn [7,0,1,6] ?_;refine AZ (e':=[(7,_)]) (by exact ⟨i+1,v2,G,V,⟨by omega,K⟩,V,V⟩)
 have ei:i=k:=by omega
 subst ei;refine Aw<|Zt<|Zt<|AQ<|Zx<|A1<|Zm Y<|Za Y<|A3 Y<|AA<|Dv V results40 Y Y (by exact ⟨sp,w,E,V,I,V⟩)
def DZ(r:AY)(c:Nat):Int:=if c=0 then r.k else if c=1 then r.v.a else if c=2 then r.v.b else r.v.c
variable{c:Nat}
theorem tH{r:AY}(g:1<=c)(m:c<=3):(r.Ao5:AN)[0+2+(c -1)]?=some (I4 (DZ r c)):=by
 rcases (by omega:c=1\/c=2\/c=3)with rfl|rfl|rfl<;>rfl
theorem YW(r:AY)(c:Nat)(hc:c<=3):BC prog 179 #[.agg r.Ao5,I4 (c:Int)] [] (I4 (DZ r c)):=by
 refine Se func179 ntmps179 [0,1] ?_;intro u R;refine A1<|Ze (Bx #[_,_,_,_,_])<|AF fun m=>A3 Y<|Zq<|A1<|Zm Y<|Zv (Bb (n:=0) Y Y)<|AD<|Ak Y (fun h0=>?_) (fun h0=>?_);·
  refine A1<|Zh 1 Ds rfl rfl A5 Y<|Zl AE Y<|A3 Y<|AA<|Zt<|AC rfl results179 Y (by exact ⟨by unfold DZ;rw [B0 A0],rfl⟩)
 refine AB<|Zx<|Zq<|A1<|Zm Y<|Xr [_,_,_] Y call125 Y V (JZ (c:Int) 1 3)<|AD<|Ak Y (fun g=>?_) (fun g=>?_);·
  refine A1<|Zm Y<|Yb (n:=1) Y Y<|Zh 2 Ds V rfl CD Y<|Ap (BK G1 A5 Y Y A0)<|Zo Wh (Bj (v:=I4 (DZ r c)) AE Y (by simpa using tH (r:=r) (c:=c) A0 hc))<|A3 Y<|AA<|Zt<|AC V results179 Y (by exact ⟨V,V⟩)
 refine AB<|Zx<|A1<|A3 Y<|AA<|AC V results179 Y (by exfalso;omega)
def QI(c:Nat)(out:List AY)(v:Int):Nat:=(out.reverse.dropWhile (fun r=>decide (v<DZ r c))).length
theorem VO{out:List AY}{v:Int}{k:Nat}(I:k<=out.length)(E:∀(j:Nat) (r:AY),k<=j->out[j]?=some r->v<DZ r c)(h2:k=0\/∃r,out[k -1]?=some r/\DZ r c<=v):QI c out v=k:=by
 unfold QI;have e:out.reverse=(out.drop k).reverse++(out.take k).reverse:=by rw [<-SM,HW]
 rw [e,List.dropWhile_append_of_pos]
 · rcases h2 with rfl|⟨r,g,hv⟩
   · simp
   · have G:=(zt.1 g).1
     rcases Lz k with rfl|hp
     · simp
     · obtain ⟨m,rfl⟩:∃m,k=m+1:=⟨k -1,by omega⟩
       rw [PA]at g;rw [Kx,g];simp only [Option.toList,SM,List.reverse_cons,List.reverse_nil,L5,TX];rw [List.dropWhile_cons,As Lo];simp only [D3,SO,zy];omega
 · intro r g
   rw [Wa]at g;obtain ⟨j,y⟩:=H4 g;rw [Hh]at y;simpa using E (k+j) r A0 y
def UQ(c:Nat)(out:List AY)(x:AY):List AY:=out.take (QI c out (DZ x c))++[x]++out.drop (QI c out (DZ x c))
def inR(t:Int)(c:Nat)(lo hi:Int)(r:AY):Bool:=decide (r.t=t/\lo<=DZ r c/\DZ r c<=hi)
def Cg(rs:List AY)(t:Int)(c:Nat)(lo hi:Int):List AY:=(rs.filter (inR t c lo hi)).foldl (UQ c) []
theorem jR{t:Int}{lo hi:Int}{i:Nat}{x:AY}(hx:rs[i]?=some x)(h:x.t=t/\lo<=DZ x c/\DZ x c<=hi):Cg (rs.take (i+1)) t c lo hi=UQ c (Cg (rs.take i) t c lo hi) x:=by
 have g:inR t c lo hi x=true:=CA h;unfold Cg;rw [Kx,hx];simp [KB,g,RW]
theorem O4{t:Int}{lo hi:Int}{i:Nat}{x:AY}(hx:rs[i]?=some x)(h:¬(x.t=t/\lo<=DZ x c/\DZ x c<=hi)):Cg (rs.take (i+1)) t c lo hi=Cg (rs.take i) t c lo hi:=by
 have g:inR t c lo hi x=false:=Bm h;unfold Cg;rw [Kx,hx];simp [KB,g]
theorem ni(sp:Nat)(p:Int)(v:A4)(rs:List AY)(sv:List AU)(t:Int)(c:Nat)(lo hi:Int)(K:BZ 5 98 v rs.length (Ac rs) sv)(hn:rs.length<=2000)(hc:c<=3):
 Bz prog 152 #[I5 sp,I4 t,I4 (c:Int),I4 lo,I4 hi] [[(sp,.cells #[v,I4 p] 130 (0,0))],sv] (fun r H'=>∃G,BZ 5 98 r (Cg rs t c lo hi).length (Ac (Cg rs t c lo hi)) G/\H'=[G,[(sp,.cells #[v,I4 p] 130 (0,0))],sv]):=by
 have qh:=mL;obtain ⟨qv,o9,rfl⟩:=K.form;obtain ⟨p9,mR,e9,qw,hg⟩:=Kj K A0;injection e9 with e91 e92 e93
 subst e91 e93;refine Se func152 ntmps152 [0,1,2,3,4] ?_;intro u R;refine A1<|A3 Y<|Zq<|A1<|Zm Y<|Zv (Au (n:=0) Y Y)<|Zm Y<|Ai (t:=18) Y V (fun h1=>?_) (fun h1=>?_);·
  exfalso;(cases h1;done)
 refine Zf Y Y<|Yg (Fw (n:=4) Y Y)<|Zv (AL Y Y)<|AD<|Ak Y (fun h2=>by omega)<|fun h2=>AB<|Zx<|A1<|A3 Y<|Zq<|A1<|A3 Y<|AX<|Bl<|Zb [11,12,0,1,2,3,4] ?_;refine BB (e0:=[(11,_),(12,_)]) (fun m e H=>∃(i:Nat) (o:List AY) (w:A4) (G:List AU),m=rs.length -i/\(i<=rs.length/\o=Cg (rs.take i) t c lo hi/\o.length<=i/\BZ 5 98 w o.length (Ac o) G)/\e=[(11,w),(12,I4 (i:Int))]/\H=[G]) (by exact ⟨0,[],.slice none 0 0,[],rfl,⟨C2 _,by rw [Hj];rfl,B8 _,Ba 5 _⟩,rfl,rfl⟩) Wp ?_;rintro _ _ _ ⟨i,o,w,G,rfl,⟨qg,U,pg,E⟩,rfl,rfl⟩;obtain ⟨qo,o8,rfl⟩:=E.form;have qd:=Ex E
 refine Zq<|A1<|Zm Y<|Zm Y<|Zp Y V<|Zh 0 Hs V rfl C4 Y<|Zl DO Y<|Zv (AP B4 Y)<|Zv (Au Y Y)<|AD<|Ak Y (fun af=>?_) (fun af=>?_);·
  obtain ⟨x,hx⟩:∃x,rs[i]?=some x:=⟨_,zn af⟩;obtain ⟨g,off,cur,T,zz,rfl,kv,qx,bf⟩:=hg i x hx;refine AB<|Zx<|Zq<|AX<|A1<|Zm Y<|Zp Y V<|Zh 0 Hs V rfl C4 Y<|Zl DO Y<|Zm Y<|Ap (AO B4 Ax Y Y A0)<|Ca (cs:=[(g,.cells cur T zz)]) (by simp [kv]) (A9 (cs:=x.Ao5) C7 Ax Y A0 bf) V rfl<|Ze (Al Dd #[_,_,_,_,_])<|AF fun xb=>Xe (Xw Ax x.Ao5)<|Z0<|Zn [0,1,2,3,4,11,12,13] ?_;refine Zx<|A1<|Zo Wh (Pa #[_,_,_,_,_] C7 Ax Y)<|Zm Y<|Xr [_,_] Y call179 Y V (YW x c hc)<|A3 Y<|Zq<|A1<|Zh 0 Ds V rfl A5 Y<|Zl AE Y<|Zm Y<|Zv (IC Y Y)<|Zm Y<|Ai (t:=45) Y V (fun bn=>?_) (fun bn=>?_);·
   refine A7 Y V<|A7 Y V<|A7 Y V<|Zv (AR Y Y)<|Zm Y<|A7 Y V<|A7 Y V<|A7 Y V<|Zv (AR Y Y)<|Z0<|Zn [0,1,2,3,4,11,12,13,14,54] ?_;refine Zx<|CQ Y<|Aw<|Zt<|AQ<|Zx<|Zg<|Zm Y<|Ya (n:=1) Y Y<|AH Y<|Zn [11,12,0,1,2,3,4] ?_;refine AZ (e':=[(11,_),(12,_)]) (by exact ⟨i+1,o,_,G,rfl,⟨by omega,by rw [U,O4 hx A0],by omega,E⟩,rfl,rfl⟩)
  refine Zf Y Y<|Zf Y Y<|Yg (ET Y Y)<|Zv (AL Y Y)<|Zm Y<|Ai (t:=50) Y V (fun cu=>?_) (fun cu=>?_);·
   refine A7 Y V<|A7 Y V<|A7 Y V<|Zv (AR Y Y)<|Z0<|Zn [0,1,2,3,4,11,12,13,14,54] ?_;refine Zx<|CQ Y<|Aw<|Zt<|AQ<|Zx<|Zg<|Zm Y<|Ya (n:=1) Y Y<|AH Y<|Zn [11,12,0,1,2,3,4] ?_;refine AZ (e':=[(11,_),(12,_)]) (by exact ⟨i+1,o,_,G,rfl,⟨by omega,by rw [U,O4 hx A0],by omega,E⟩,rfl,rfl⟩)
  refine Zf Y Y<|Zf Y Y<|Yg (EI Y Y)<|Zv (AL Y Y)<|Z0<|Zn [0,1,2,3,4,11,12,13,14,54] ?_;refine Zx<|Ak Y (fun cO=>?_) (fun cO=>?_);·
   refine Aw<|Zt<|AQ<|Zx<|Zg<|Zm Y<|Ya (n:=1) Y Y<|AH Y<|Zn [11,12,0,1,2,3,4] ?_;refine AZ (e':=[(11,_),(12,_)]) (by exact ⟨i+1,o,_,G,rfl,⟨by omega,by rw [U,O4 hx A0],by omega,E⟩,rfl,rfl⟩)
  refine AB<|Zx<|A1<|Zm Y<|Zv (AP B4 Y)<|A3 Y<|Zb [14,15,0,1,2,3,4,11,12,13] ?_;refine CL (e0:=[(14,_),(15,_)]) (H0:=[]) (fun e H=>∃(k:Nat),(k<=o.length/\QI c o (DZ x c)=k)/\e=[(15,I4 (k:Int))]/\H=[]) Wp ?hx_5 ?hy_5
  case hx_5=>
   refine AX<|Zb [15,0,1,2,3,4,11,12,13,14] ?_;refine BB (e0:=[(15,_)]) (fun m e H=>∃(k:Nat),m=0+k/\(k<=o.length/\(∀(j:Nat) (r:AY),k<=j->o[j]?=some r->DZ x c<DZ r c))/\e=[(15,I4 (k:Int))]/\H=[]) (by exact ⟨o.length,V,⟨B8 _,by intro j r hj O;have:=(zt.1 O).1;omega⟩,V,V⟩) Wp ?_;rintro _ _ _ ⟨k,rfl,⟨hk,M⟩,rfl,rfl⟩;refine Zq<|A1<|Zm Y<|Zv (CO (n:=0) Y Y)<|Zm Y<|Ai (t:=59) Y V (fun gq=>?_) (fun gq=>?_);·
    obtain ⟨y,hy⟩:∃y,o[k -1]?=some y:=⟨_,zn A0⟩;obtain ⟨p8,lv,e8,pq,d9⟩:=Kj E A0;injection e8 with e81 e82 e83
    subst e81 e83;obtain ⟨g8,q8,W,T8,l9,l8,gy,pz,X⟩:=d9 (k -1) y hy;subst l8;refine Zf Y Y<|Zf Y Y<|DV Y (Bo (n:=1) Y Y A0 A0) V rfl ?_;refine DV Y (AO B4 Ax Y Y A0) V rfl ?_;refine TG Y (cs:=[(g8,.cells W T8 l9)]) (by simp [gy]) (A9 (cs:=y.Ao5) C7 Ax Y A0 X) V rfl ?_;refine Zf Y Y<|Xr [_,_] Y call179 Y V (YW y c hc)<|Zf Y Y<|Yg (EI Y Y)<|Zv (AR Y Y)<|Z0<|Zn [0,1,2,3,4,11,12,13,14,15,69] ?_;refine Zx<|Ak Y (fun ek=>?_) (fun ek=>?_);·
     refine AB<|Zx<|AX<|Zg<|Zm Y<|Yb (n:=1) Y Y<|AH Y<|A8<|Zn [15,0,1,2,3,4,11,12,13,14] ?_;refine AZ (e':=[(15,_)]) (by exact ⟨k -1,rfl,⟨by omega,by intro j r hj O;rcases DP j k with h9|h9;(have e:j=k -1:=by omega);subst e;rw [hy]at O;injection O with O;subst O;omega;exact M j r h9 O⟩,rfl,rfl⟩)
    refine Aw<|Zt<|Zt<|AQ<|Zn [15,0,1,2,3,4,11,12,13] ?_;refine Aq (e':=[(15,_)]) (by exact ⟨k,⟨hk,VO hk M (.inr ⟨y,hy,by omega⟩)⟩,V,V⟩)
   refine A7 Y V<|A7 Y V<|A7 Y V<|A7 Y V<|A7 Y V<|A7 Y V<|A7 Y V<|A7 Y V<|A7 Y V<|Zv (AL Y Y)<|Z0<|Zn [0,1,2,3,4,11,12,13,14,15,69] ?_;refine Zx<|Dj Y<|Aw<|Zt<|Zt<|AQ<|Zn [15,0,1,2,3,4,11,12,13] ?_;refine Aq (e':=[(15,_)]) (by exact ⟨k,⟨hk,VO hk M (.inl A0)⟩,V,V⟩)
  rintro _ _ ⟨k,⟨gm,kz⟩,rfl,rfl⟩;refine BJ (n:=12) (0::0::0::7::0::16::0::0::192::496::1023::2047::[]) 1568 AG AG V<|A2 0 V (AJ Y)<|A2 1 V (AJ Y)<|A2 2 V (AJ Y)<|A2 3 V (Hz B4 Ax Y Y Y A0)<|Fc 4 V Wh (Pa #[_,_,_,_,_] C7 Ax Y)<|A2 6 V (AJ Y)<|A2 7 V (AJ Y)<|A2 8 V (Bn B4 Ax Y Y A0)<|Yw 5 511 V (Af (vs:=[_]) (cs:=[_,_,_,_,_]) B4 Ax Dd Y V rfl V rfl V)<|AF fun gb=>Yw 9 1023 V (BR (by_:=40) (sz:=5) B4 (V:Tryz.prog.info? 98=some Tryz.t98) V rfl V rfl Y (EX 5 98 gb 1 (Ac [x]) V AK) Y (IL E k (o.length -k) _ A0) Wo Wo (by exact fun u hu=>CE o u (ID hu)) A0 A0) ?_;rintro _ _ ⟨qz,I,rfl⟩;obtain ⟨qb,q9,rfl⟩:=I.form;refine Yw 10 2047 V (JC (by_:=40) (sz:=5) B4 (V:Tryz.prog.info? 98=some Tryz.t98) V rfl V rfl Y (IK E k _ gm) Y (Ig I) Wo Wo A0 A0 A0) ?_;rintro _ _ ⟨qA,J,rfl⟩;have ax:=BH J (n':=(o.take k++[x]++o.drop k).length) (xs':=Ac (o.take k++[x]++o.drop k)) (by simp only [zq,zy,C0,FF];omega) (by rw [Bf,Bf,Du,DX,D2])
  have Z:o.take k++[x]++o.drop k=Cg (rs.take (i+1)) t c lo hi:=by rw [jR hx A0,<-U];unfold UQ;rw [kz]
  obtain ⟨qc,qa,rfl⟩:=J.form;refine A2 11 V (BF Y)<|Ao<|A8<|Zx<|Zg<|Zm Y<|Ya (n:=1) Y Y<|AH Y<|Zn [11,12,0,1,2,3,4] ?_;refine AZ (e':=[(11,_),(12,_)]) (by exact ⟨i+1,o.take k++[x]++o.drop k,_,_,V,⟨by omega,Z,by simp only [zq,zy,C0,FF];omega,ax⟩,V,V⟩)
 have ei:i=rs.length:=by omega
 subst ei;rw [G0]at U;subst U;refine Aw<|Zt<|Zt<|AQ<|Zx<|A1<|Zm Y<|A3 Y<|AA<|AC V results152 Y (by exact ⟨G,E,V⟩)
end Go.Proofs.YtlkdhannldcfbaaGreatDoor
