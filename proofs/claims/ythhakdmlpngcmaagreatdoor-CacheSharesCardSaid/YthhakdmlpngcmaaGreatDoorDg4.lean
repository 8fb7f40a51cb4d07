/- Contracts: bits.RotateLeft32 at the counts of the program, digest.mixed, digest.schedule. -/
import Derived.Test.YthhakdmlpngcmaaGreatDoorA1
import Derived.Test.YthhakdmlpngcmaaGreatDoorSha
import Derived.Test.YthhakdmlpngcmaaGreatDoorEx37
set_option linter.unusedVariables false
set_option linter.unusedSimpArgs false
namespace Go.Proofs.YthhakdmlpngcmaaGreatDoor
open Go.Proofs.Tryz
open Go Go.RowKit Gw
set_option maxRecDepth 100000
attribute [local irreducible] Gw.At Gw.Nx Gw.Ops
theorem ku(x:UInt32)(n m:Nat)(h0:0<n)(g:n<32)(B:n+m=32):(x<<<UInt32.ofNat m)|||(x>>>UInt32.ofNat n)=qd x (UInt32.ofNat n):=by
 unfold qd;have:(32:UInt32) -UInt32.ofNat n=UInt32.ofNat m:=by
  apply UInt32.toNat_inj.1;rw [UInt32.toNat_sub,lr,lr];simp only [UInt32.reduceToNat];omega
 rw [this]
theorem xI(n m:Nat)(h0:0<n)(B:n<32)(G:n+m=32):bits .and .u64 (IntKind.u64.wrap (-(n:Int))) 31=(m:Int):=by
 have h:IntKind.u64.wrap (-(n:Int))=((18446744073709551616 -n:Nat):Int):=by rw [IntKind.wrap_u64];omega
 have g:(31:Int)=((31:Nat):Int):=rfl;rw [h,g,u64_and_nat _ _ A0 A0,nat_mask5];omega
theorem kr(x:UInt32)(n:Nat)(h0:0<n)(g:n<32):BJ prog 317 #[.int .u32 x.toNat,I4 (-(n:Int))] [] (.int .u32 (qd x (UInt32.ofNat n)).toNat):=by
 refine Kl func317 V ntmps317 V ?_;intro u R;obtain ⟨m,B⟩:∃m,n+m=32:=⟨32 -n,by omega⟩;refine Zb [0,1] ?_;refine A1<|A5 Y<|A1<|Zm Y<|Kw (Eu D4 X2 Y V) V rfl<|Kw (sG Y Y (xI n m h0 g B)) V rfl<|A5 Y<|A1<|Zm Y<|Zm Y<|BU (Mk Y Y A0)<|Zm Y<|Zm Y<|BU (UX (m:=32) Y Y A0 A0)<|BU (Mj Y Y A0)<|Zv (Oo Y Y)<|AW Y<|Zn [4] ?_;refine Zx<|AJ<|AP V results317 Y (by
  have e:32 -m=n:=by omega
  exact ⟨by rw [e,ku x n m h0 g B],rfl⟩)
theorem tK(x:UInt32)(l:List UInt32)(n:UInt32):XG x (l++[n])=XG x l^^^qd x n:=by simp [XG]
def pH(n:Nat):A4:=I4 (n:Int)
theorem kK{α β:Type}(f:α->β)(l:List α)(k:Nat)(d:α)(h:k<l.length):(l.take (k+1)).map f=(l.take k).map f++[f (l.getD k d)]:=by
 rw [nc h,C0];simp [Mz,BT h]
theorem XT{α:Type}(f:α->A4)(l:List α)(k:Nat)(d:α)(h:k<l.length):(l.map f).toArray[k]?=some (f (l.getD k d)):=by
 simp [BT h,Mz]
theorem IW(x:UInt32)(l:List Nat)(g cap:Nat)(T:AM)(z:Nat×Nat)(I:∀n∈l,0<n/\n<32)(K:l.length<=100):
 BJ prog 305 #[.int .u32 x.toNat,I6 g l.length cap] [[(g,.cells (l.map pH).toArray T z)]] (.int .u32 (XG x (l.map UInt32.ofNat)).toNat):=by
 refine Se func305 ntmps305 [0,1] ?_;intro u R;refine A1<|A5 Y<|A1<|A5 Y<|Zq<|A1<|Zm Y<|Zv (Ac DE Y)<|Zm Y<|A6<|AQ<|Zb [5,10,0,8,9] ?_;refine BI (e0:=[(5,_),(10,_)]) (fun m e H=>∃k:Nat,m=l.length -k/\(k<=l.length)/\e=[(5,.int .u32 ((XG x ((l.take k).map UInt32.ofNat)).toNat:Int)),(10,I4 (k:Int))]/\H=[]) (by exact ⟨0,V,C7 _,V,V⟩) Wp ?_;rintro _ _ _ ⟨k,rfl,J,rfl,rfl⟩;refine A1<|Zv (Ay Y Y)<|A6<|Zq<|Aw Y (fun G=>?_) (fun G=>?_);·
  refine AC<|Zx<|Zq<|AQ<|A1<|BU (Be DE AE Y Y A0)<|Zl AH Y (hv:=by exact XT pH l k 0 A0)<|AW Y<|Zx ?_;have B:=I (l.getD k 0) (by rw [Mz,BT A0];exact od _)
  refine Zg<|Zm Y<|Zm Y<|Zm Y<|Kw (jH (c:=-(l.getD k 0:Int)) Y (by rw [Int.zero_sub];exact IntWalk.i64_in _ A0)) rfl rfl<|Xr [_,_] Y call317 Y rfl (kr _ _ B.1 B.2)<|Zv (FW Y Y)<|AW Y<|A8<|Zx<|Zg<|Ya (n:=1) Y Y<|Zm Y<|Z0<|Zn [5,10,0,8,9] ?_;refine Aa (e':=[(5,_),(10,_)]) (by exact ⟨k+1,rfl,by omega,by rw [kK _ _ _ 0 A0,tK],rfl⟩)
 refine BD<|Zt<|Zt<|AV<|Zx<|A1<|Zm Y<|A5 Y<|AJ<|AP V results305 Y (by
  have e:k=l.length:=by omega
  exact ⟨by rw [e,G3],rfl⟩)
def En(l:List UInt32):List A4:=l.map Cz++List.replicate (64 -l.length) (.int .u32 0)
theorem Ch(l:List UInt32)(h:l.length<=64):(En l).length=64:=by simp [En];omega
theorem cB(l:List UInt32)(i:Nat)(h:i<l.length):(En l).toArray[i]?=some (Cz (l.getD i 0)):=by
 simp [En,nw,h,Mz]
theorem bZ(l:List UInt32)(x:UInt32)(h:l.length<64):(En l).toArray.setIfInBounds l.length (Cz x)=(En (l++[x])).toArray:=by
 rw [nd];congr 1;unfold En;rw [ln _ _ B4];simp only [B6,T5,Bm,E3,KK];obtain ⟨n,g⟩:∃n,64 -l.length=n+1:=⟨63 -l.length,by omega⟩;rw [g,show 64 -(l.length+(0+1))=n by omega];simp [List.replicate_succ]
theorem JW(b:List UInt8)(k:Nat)(x:UInt32)(h:k<64)(g:Fb b (k+1)=Fb b k++[x]):(En (Fb b k)).toArray.setIfInBounds k (.int .u32 (x.toNat:Int))=(En (Fb b (k+1))).toArray:=by
 have:=bZ (Fb b k) x (by rw [CX];exact h);rw [CX]at this;rw [g];exact this
theorem bg(l:List UInt32):∀v∈(En l).toArray.toList,v.oneCell'=true:=by
 intro v hv;simp only [En,C2,C6,List.mem_replicate]at hv;rcases hv with⟨x,_,rfl⟩|⟨_,rfl⟩<;>rfl
theorem Y3(l:List UInt32)(h:l.length=64):En l=l.map Cz:=by simp [En,h]
theorem pQ(b:List UInt8)(k:Nat)(h:k<16):Fb b (k+1)=Fb b k++[bV b k]:=by rw [Fb,Ax h]
theorem RZ(b:List UInt8)(k:Nat)(h:16<=k):Fb b (k+1)=Fb b k++[ZA (Fb b k) k]:=by rw [Fb,As A0]
def N7(c:AK)(o:Nat)(bs:List UInt8):Prop:=(c.toList.drop o).take bs.length=bs.map u8v
theorem N7.get{c:AK}{o:Nat}{g:List UInt8}(h:N7 c o g)(j:Nat)(B:j<g.length):c[o+j]?=some (u8v (g.getD j 0)):=by
 have m:((c.toList.drop o).take g.length)[j]?=(g.map u8v)[j]?:=by rw [h]
 rw [HI,Ax B,RW,DP,BT B]at m;rw [HQ]at m;rw [m];simp [Mz,BT B]
theorem Kh(b:List UInt8)(k i:Nat)(h:i<k):(En (Fb b k)).toArray[i]?=some (Cz ((Fb b k).getD i 0)):=cB _ _ (by rw [CX];exact h)
theorem dL(g o cap:Nat)(c:AK)(T:AM)(z:Nat×Nat)(B:List UInt8)(hb:B.length=64)(hc:N7 c o B):
 BJ prog 304 #[.slice (some ⟨g,o,none⟩) 64 cap] [[(g,.cells c T z)]] (.agg ((jA B).map Cz).toArray):=by
 refine Se func304 ntmps304 [0] ?_;intro u R;refine A1<|Ze (Ey zeroValue419 (cs:=(En []).toArray) AF)<|AG fun K=>A6<|Zq<|A1<|Zm Y<|A6<|AQ<|Zb [7,0,2] ?_;refine BI (e0:=[(7,_)]) (fun m e H=>∃k:Nat,m=16 -k/\(k<=16)/\e=[(7,I4 (k:Int))]/\H=[[(K,.cells (En (Fb B k)).toArray 419 (0,0))]]) (by exact ⟨0,V,C7 _,V,V⟩) Wp ?_;rintro _ _ _ ⟨k,rfl,O,rfl,rfl⟩;refine A1<|Zv (Ay (n:=16) Y Y)<|A6<|Zq<|Aw Y (fun I=>?_) (fun I=>?_);·
  refine AC<|Zx<|Zq<|AQ<|A1<|Zm Y<|A5 Y<|BA (n:=36) (0::0::0::4::14::30::62::126::0::0::512::1536::3840::7936::16128::32512::65534::0::0::262144::786432::1966080::4063232::8257536::16646144::33554430::0::0::134217728::402653184::1006632960::2080374784::4227858432::8589934590::17179869183::34359738367::[]) 34359738368 AF AF rfl<|A3 0 rfl (AO Y)<|A3 1 rfl (AO Y)<|A3 2 rfl (AO Y)<|A3 3 rfl (F8 (m:=4) Y Y A0)<|A3 4 rfl (CG HL It Y Y (by first|omega|(rw [HC,Ch _ (by rw [CX];omega)];omega)))<|BE 5 rfl To Y (hv:=by exact hc.get _ A0) ?_;refine A3 6 rfl (II Ly T6 Y)<|A3 7 rfl (Mk (n:=24) Y Y A0)<|A3 8 rfl (AO Y)<|A3 9 rfl (AO Y)<|A3 10 rfl (F8 (m:=4) Y Y A0)<|A3 11 rfl (EA (n:=1) Y Y A0)<|A3 12 rfl (CG HL It Y Y (by first|omega|(rw [HC,Ch _ (by rw [CX];omega)];omega)))<|BE 13 rfl To Y (hv:=by exact hc.get _ A0) ?_;refine A3 14 rfl (II Ly T6 Y)<|A3 15 rfl (Mk (n:=16) Y Y A0)<|A3 16 rfl (Oo Y Y)<|A3 17 rfl (AO Y)<|A3 18 rfl (AO Y)<|A3 19 rfl (F8 (m:=4) Y Y A0)<|A3 20 rfl (EA (n:=2) Y Y A0)<|A3 21 rfl (CG HL It Y Y (by first|omega|(rw [HC,Ch _ (by rw [CX];omega)];omega)))<|BE 22 rfl To Y (hv:=by exact hc.get _ A0) ?_;refine A3 23 rfl (II Ly T6 Y)<|A3 24 rfl (Mk (n:=8) Y Y A0)<|A3 25 rfl (Oo Y Y)<|A3 26 rfl (AO Y)<|A3 27 rfl (AO Y)<|A3 28 rfl (F8 (m:=4) Y Y A0)<|A3 29 rfl (EA (n:=3) Y Y A0)<|A3 30 rfl (CG HL It Y Y (by first|omega|(rw [HC,Ch _ (by rw [CX];omega)];omega)))<|BE 31 rfl To Y (hv:=by exact hc.get _ A0) ?_;refine A3 32 rfl (II Ly T6 Y)<|A3 33 rfl (Oo Y Y)<|A3 34 rfl (Az Vc Fo Y Y (by first|omega|(rw [HC,Ch _ (by rw [CX];omega)];omega)))<|Yw 35 68719476735 rfl (Zs Fo Y Y rfl (hc:=by exact JW B k (bV B k) A0 (pQ B k A0)) (hi:=by(rw [HC,Ch _ (by rw [CX];omega)];omega)))<|Cp<|Ag<|Zn [0,2,7] ?_;refine A8<|Zx<|Zg<|Ya (n:=1) Y Y<|Zm Y<|Z0<|Zn [7,0,2] ?_;refine Aa (e':=[(7,_)]) (by exact ⟨k+1,V,by omega,V,V⟩)
 refine BD<|Zt<|Zt<|AV<|Zx<|Zq<|A1<|A5 Y<|AQ ?_;have G:k=16:=by omega
 subst G;refine Zb [4,2] ?_;refine BI (e0:=[(4,_)]) (fun m e H=>∃k:Nat,m=64 -k/\(16<=k/\k<=64)/\e=[(4,I4 (k:Int))]/\H=[[(K,.cells (En (Fb B k)).toArray 419 (0,0))]]) (by exact ⟨16,V,by omega,V,V⟩) Wp ?_;rintro _ _ _ ⟨k,rfl,⟨U,O⟩,rfl,rfl⟩;refine Zq<|A1<|Zm Y<|Zv (Ay (n:=64) Y Y)<|A6<|Aw Y (fun J=>?_) (fun J=>?_);·
  refine AC<|Zx<|Zq<|AQ<|Zq<|BA (n:=10) (0::1::3::7::0::16::48::112::15::511::[]) 0 AF AF V<|A3 0 V (AO Y) ?_
  (refine Dn (D':=3) 1 (CO (n:=15) Y Y ?_ ?_) ?_;(focus (omega));(focus (omega)))
  refine A3 2 V (Az Vc Fo Y Y A0)<|BE 3 V Hc Y (hv:=by exact Kh B k _ A0) ?_;refine A3 4 V (AO Y) ?_
  (refine Dn (D':=63) 5 (CO (n:=2) Y Y ?_ ?_) ?_;(focus (omega));(focus (omega)))
  refine A3 6 V (Az Vc Fo Y Y A0)<|BE 7 V Hc Y (hv:=by exact Kh B k _ A0) ?_;refine A3 8 V (Aq Y)<|A3 9 V (Aq Y)<|Ag<|Zx<|BA (n:=26) (0::0::2::6::14::0::0::96::0::256::992::2046::0::4096::12288::28672::65534::0::0::393440::0::1048576::4063456::8388606::16777215::33554431::[]) 34341056 AF AF V<|A3 0 V (AO Y)<|A3 1 V (AO Y) ?_
  (refine Dn (D':=7) 2 (CO (n:=16) Y Y ?_ ?_) ?_;(focus (omega));(focus (omega)))
  refine A3 3 rfl (Az Vc Fo Y Y (by first|omega|(rw [HC,Ch _ (by rw [CX];omega)];omega)))<|BE 4 rfl Hc Y (hv:=by exact Kh B k _ A0) ?_;refine A3 5 V (AO Y)<|A3 8 V (AO Y)<|A3 9 V (Mj (n:=3) Y Y A0)<|A3 12 V (AO Y) ?_
  (refine Dn (D':=13119) 13 (CO (n:=7) Y Y ?_ ?_) ?_;(focus (omega));(focus (omega)))
  refine A3 14 rfl (Az Vc Fo Y Y (by first|omega|(rw [HC,Ch _ (by rw [CX];omega)];omega)))<|BE 15 rfl Hc Y (hv:=by exact Kh B k _ A0) ?_;refine A3 17 V (AO Y)<|A3 20 V (AO Y)<|A3 21 V (Mj (n:=10) Y Y A0)<|Zz (l:=[6,18])<|B7 [true,true] [(15,(_,_)),(4,(_,_))] V rfl (Ai (vs:=[_,_]) (cs:=[_,_]) DE AE HJ Y V rfl V rfl V) ?_ (fun _ _ h=>h.elim) ?_;·
   rintro _ _ ⟨W,rfl,rfl⟩;refine BW<|Zz (l:=[7,18])<|B7 [true,true] [(15,(_,_)),(4,(_,_))] V rfl (Zu [_,_] Y cI Y V (IW _ [7,18] _ _ _ _ B1 B1)) ?_ (fun _ _ h=>h.elim) ?_;·
    rintro _ _ ⟨rfl,rfl⟩;refine BW<|A3 10 V (FW Y Y)<|A3 11 V (Df Y Y)<|A3 16 V (Df Y Y)<|Zz (l:=[18])<|B7 [true,true] [(15,(_,_)),(4,(_,_))] V rfl (Ai (vs:=[_,_]) (cs:=[_,_]) DE AE HJ Y V rfl V rfl V) ?_ (fun _ _ h=>h.elim) Aj;rintro _ _ ⟨X,rfl,rfl⟩;refine BW<|Yz 19 393440 4194303 [15,4] [true,true] [(15,(_,_)),(4,(_,_))] V Y V rfl V rfl (Zu [_,_] Y cI Y V (IW _ [17,19] _ _ _ _ B1 B1))<|Cp<|BW<|A3 22 rfl (FW Y Y)<|A3 23 rfl (Df Y Y)<|A3 24 rfl (Az Vc Fo Y Y (by first|omega|(rw [HC,Ch _ (by rw [CX];omega)];omega)))<|Yw 25 67108863 rfl (Zs Fo Y Y rfl (hc:=by exact JW B k (ZA (Fb B k) k) A0 (RZ B k A0)) (hi:=by(rw [HC,Ch _ (by rw [CX];omega)];omega)))<|Cp<|Ag<|Zn [2,4] ?_;refine A8<|Zx<|Zg<|Zm Y<|Ya (n:=1) Y Y<|AW Y<|Zn [4,2] ?_;refine Aa (e':=[(4,_)]) (by exact ⟨k+1,V,by omega,V,V⟩)
   refine B7 [true,true] [(15,(_,_)),(4,(_,_))] V rfl (Ai (vs:=[_,_]) (cs:=[_,_]) DE AE HJ Y V rfl V rfl V) ?_ (fun _ _ h=>h.elim) Aj;rintro _ _ ⟨Z,rfl,rfl⟩;refine BW<|Yz 7 96 3601407 [15,4] [true,true] [(15,(_,_)),(4,(_,_))] V Y V rfl V rfl (Zu [_,_] Y cI Y V (IW _ [7,18] _ _ _ _ B1 B1))<|Cp<|BW<|A3 10 V (FW Y Y)<|A3 11 V (Df Y Y)<|A3 16 V (Df Y Y)<|Zz (l:=[19])<|B7 [true,true] [(15,(_,_)),(4,(_,_))] V rfl (Zu [_,_] Y cI Y V (IW _ [17,19] _ _ _ _ B1 B1)) ?_ (fun _ _ h=>h.elim) Aj;rintro _ _ ⟨rfl,rfl⟩;refine BW<|A3 22 rfl (FW Y Y)<|A3 23 rfl (Df Y Y)<|A3 24 rfl (Az Vc Fo Y Y (by first|omega|(rw [HC,Ch _ (by rw [CX];omega)];omega)))<|Yw 25 67108863 rfl (Zs Fo Y Y rfl (hc:=by exact JW B k (ZA (Fb B k) k) A0 (RZ B k A0)) (hi:=by(rw [HC,Ch _ (by rw [CX];omega)];omega)))<|Cp<|Ag<|Zn [2,4] ?_;refine A8<|Zx<|Zg<|Zm Y<|Ya (n:=1) Y Y<|AW Y<|Zn [4,2] ?_;refine Aa (e':=[(4,_)]) (by exact ⟨k+1,V,by omega,V,V⟩)
  refine B7 [true,true] [(15,(_,_)),(4,(_,_))] V rfl (Ai (vs:=[_,_]) (cs:=[_,_]) DE AE HJ Y V rfl V rfl V) ?_ (fun _ _ h=>h.elim) Aj;rintro _ _ ⟨b5,rfl,rfl⟩;refine BW<|Yz 6 0 3601279 [15,4] [true,true] [(15,(_,_)),(4,(_,_))] V Y V rfl V rfl (Ai (vs:=[_,_]) (cs:=[_,_]) DE AE HJ Y V rfl V rfl V)<|AG fun b6=>BW<|Yz 7 96 3601407 [15,4] [true,true] [(15,(_,_)),(4,(_,_))] V Y V rfl V rfl (Zu [_,_] Y cI Y V (IW _ [7,18] _ _ _ _ B1 B1))<|Cp<|BW<|A3 10 V (FW Y Y)<|A3 11 V (Df Y Y)<|A3 16 V (Df Y Y)<|Zz (l:=[19])<|B7 [true,true] [(15,(_,_)),(4,(_,_))] V rfl (Zu [_,_] Y cI Y V (IW _ [17,19] _ _ _ _ B1 B1)) ?_ (fun _ _ h=>h.elim) Aj;rintro _ _ ⟨rfl,rfl⟩;refine BW<|A3 22 rfl (FW Y Y)<|A3 23 rfl (Df Y Y)<|A3 24 rfl (Az Vc Fo Y Y (by first|omega|(rw [HC,Ch _ (by rw [CX];omega)];omega)))<|Yw 25 67108863 rfl (Zs Fo Y Y rfl (hc:=by exact JW B k (ZA (Fb B k) k) A0 (RZ B k A0)) (hi:=by(rw [HC,Ch _ (by rw [CX];omega)];omega)))<|Cp<|Ag<|Zn [2,4] ?_;refine A8<|Zx<|Zg<|Zm Y<|Ya (n:=1) Y Y<|AW Y<|Zn [4,2] ?_;refine Aa (e':=[(4,_)]) (by exact ⟨k+1,V,by omega,V,V⟩)
 refine BD<|Zt<|Zt<|AV<|Zx<|A1<|Zo Wh (AB isAgg419 sizeOf419 Y (by(rw [HC,Ch _ (by rw [CX];omega)];omega)) (by exact Ia _ _ (by rw [HC,Ch _ (by rw [CX];omega)]))) ?_;refine Xe (BL sizeOf419 Y Y (by exact bg _) Wu (by exact sI _) (by rw [HC,Ch _ (by rw [CX];omega)]) (by(rw [HC,Ch _ (by rw [CX];omega)];omega)) (by exact BC _)) ?_;refine A6<|AJ<|D6 rfl results304 Y Wh (Au isAgg419 sizeOf419 (by(rw [HC,Ch _ (by rw [CX];omega)];omega)) (Ia _ _ (by rw [HC,Ch _ (by rw [CX];omega)]))) (by
  have e:k=64:=by omega
  exact ⟨by rw [e,Y3 _ (CX _ _)];rfl,rfl⟩)
def v8c(v:V8):AK:=#[Cz v.a,Cz v.b,Cz v.c,Cz v.d,Cz v.e,Cz v.f,Cz v.g,Cz v.h]
theorem pU(v:V8):v8c v=(v.list.map Cz).toArray:=rfl
theorem v7(k:Nat)(h:k<64):(Ew.map Cz).toArray[k*1]?=some (Cz (Ew.getD k 0)):=by rw [Mn];exact XT Cz Ew k 0 (by rw [uE];exact h)
def Vt(x y:V8)(i:Nat):List UInt32:=(yl x y).list.take i++x.list.drop i
theorem Mr(x y:V8)(i:Nat)(h:i<=8):(Vt x y i).length=8:=by
 have:(yl x y).list.length=8:=rfl;have h2:x.list.length=8:=rfl
 simp [Vt,this,h2];omega
theorem nT(x y:V8)(i:Nat)(h:i<8):((Vt x y i).map Cz).toArray[i]?=some (Cz (x.list.getD i 0)):=by
 have:i=0\/i=1\/i=2\/i=3\/i=4\/i=5\/i=6\/i=7:=by omega
 rcases this with rfl|rfl|rfl|rfl|rfl|rfl|rfl|rfl<;>rfl
theorem pX(y:V8)(i:Nat)(h:i<8):(v8c y)[i]?=some (Cz (y.list.getD i 0)):=by
 have:i=0\/i=1\/i=2\/i=3\/i=4\/i=5\/i=6\/i=7:=by omega
 rcases this with rfl|rfl|rfl|rfl|rfl|rfl|rfl|rfl<;>rfl
theorem nS(x y:V8)(i:Nat)(h:i<8):((Vt x y i).map Cz).toArray.setIfInBounds i (.int .u32 ((x.list.getD i 0+y.list.getD i 0).toNat:Int))=((Vt x y (i+1)).map Cz).toArray:=by
 have:i=0\/i=1\/i=2\/i=3\/i=4\/i=5\/i=6\/i=7:=by omega
 rcases this with rfl|rfl|rfl|rfl|rfl|rfl|rfl|rfl<;>rfl
theorem dC(x:V8)(k:Nat)(m:List UInt32)(v:V8)(B:x=Lp m v k):
 ((#[Cz x.a,Cz x.a,Cz x.b,Cz x.c,Cz x.d,Cz x.e,Cz x.f,Cz x.g]:AK).setIfInBounds 0 (.int .u32 ((Gw.DC x (Ew.getD k 0) (m.getD k 0)+yz x).toNat:Int))).setIfInBounds 4 (.int .u32 ((x.d+Gw.DC x (Ew.getD k 0) (m.getD k 0)).toNat:Int))=v8c (Lp m v (k+1)):=by
 subst B;rfl
theorem kV(g:List UInt8):(jA g).length=64:=CX g 64
theorem qV(g:List UInt32)(h:g.length=64):((g.map Cz).toArray).size=64:=by rw [HC,B6,h]
theorem qW(g:List UInt32)(h:g.length=64):EM (En []).toArray 0 ((g.map Cz).toArray).toList=(g.map Cz).toArray:=
 Yy (En []).toArray (g.map Cz) (by rw [B6,h];rfl)
theorem wV:0+64<=((En []).toArray).size:=by rw [HC,Ch _ (C7 _)];exact CI _
theorem iW(v:V8):∀x∈(v8c v).toList,x.oneCell'=true:=by
 intro x g;rw [pU]at g;simp only [C6]at g;obtain ⟨y,_,rfl⟩:=g;rfl
theorem q8(l:List UInt32):∀x∈(l.map Cz).toArray.toList,x.oneCell'=true:=by
 intro x g;simp only [C6]at g;obtain ⟨y,_,rfl⟩:=g;rfl
theorem wB(K g o cap:Nat)(c:AK)(T:AM)(z:Nat×Nat)(I:List UInt8)(hb:I.length=64)(hc:N7 c o I)(O Tg:AM)(zg:Nat×Nat)(v:V8):
 BR prog 274 #[I5 K,.slice (some ⟨g,o,none⟩) 64 cap] [[(K,.cells (v8c v) O (0,0))],[(g,.cells c T z)],[(4,.cells (Ew.map Cz).toArray Tg zg)]]
  (fun r H'=>r= .tuple #[]/\H'=[[(K,.cells (v8c (Xh v I)) O (0,0))],[(g,.cells c T z)],[(4,.cells (Ew.map Cz).toArray Tg zg)]]):=by
 refine Kl func274 V ntmps274 V ?_;intro u R;obtain ⟨B,G⟩:∃B,B=jA I:=⟨_,rfl⟩;have hw:B.length=64:=by rw [G];exact kV I
 have J:=dL g o cap c T z I hb hc;rw [<-G]at J;have U:Xh v I=yl v (Lp B v 64):=by rw [G];rfl
 clear G;rw [U];refine Zb [0,1] ?_;refine A1<|Zm Y<|Xr [_] Y call304 Y V (J) ?_;refine Ze (Ey zeroValue419 (cs:=(En []).toArray) AF)<|AG fun bw=>Xe (BL sizeOf419 Y Y (by exact q8 _) Wu (by exact qW B hw) (by exact qV B hw) (by exact wV) (by exact BC _)) ?_;refine A6<|A1<|Zm Y<|Zp Y V<|Zo Wh (AB (cs:=v8c v) isAgg394 sizeOf394 Y Wn B0) ?_;refine Ze (Al zeroValue394 #[_,_,_,_,_,_,_,_])<|AG fun bv=>Xe (BL sizeOf394 Y Y (by exact iW v) Wu (by exact (rfl:_=v8c (Lp B v 0))) FA Wn (by exact BC _)) ?_;refine A6<|Zq<|A1<|Zo Wh (AB (cs:=(Ew.map Cz).toArray) isAgg419 sizeOf419 Y (by exact CI _) (by exact Ia _ _ V)) ?_;refine Zm Y<|A6<|AQ<|Zb [19,0,4,5,18] ?_;refine BI (e0:=[(19,_)]) (fun m e H=>∃k:Nat,m=64 -k/\(k<=64)/\e=[(19,I4 (k:Int))]/\H=[[(bv,.cells (v8c (Lp B v k)) 394 (0,0))]]) (by exact ⟨0,V,C7 _,V,V⟩) Wp ?_;rintro _ _ _ ⟨k,rfl,hk,rfl,rfl⟩;obtain ⟨x,Z⟩:∃x,x=Lp B v k:=⟨_,rfl⟩;rw [<-Z];refine A1<|Zv (Ay (n:=64) Y Y)<|A6<|Zq<|Aw Y (fun W=>?_) (fun W=>?_);·
  refine AC<|Zx<|Zq<|AQ<|A1<|Zm Y<|Zv (Qf Vc Hc Fo Y Y A0 (by exact v7 k A0))<|Za Y<|A5 Y<|Zq<|BA (n:=6) (0::1::0::4::3::31::[]) 0 AF AF V<|A3 0 V (Az (j:=0) L7 Fo Y Y A0)<|BE 1 V Hc Y ?_;refine A3 2 V (Az (j:=4) L7 Fo Y Y A0)<|BE 3 V Hc Y ?_;refine A3 4 V (Aq Y)<|A3 5 V (Aq Y)<|Ag<|Zx<|Zq<|BA (n:=24) (0::1::0::0::12::31::0::0::128::448::0::1024::0::4096::15360::32704::65535::0::262143::0::524288::1572864::4194303::8388607::[]) 24 AF AF V<|A3 0 V (Az (j:=7) L7 Fo Y Y A0)<|BE 1 V Hc Y ?_;refine A3 2 V (AO Y)<|A3 6 V (AO Y)<|A3 7 V (Az (j:=5) L7 Fo Y Y A0)<|BE 8 V Hc Y ?_;refine A3 9 V (KO Y Y)<|A3 10 V (AO Y)<|A3 11 V (lg Y)<|A3 12 V (Az (j:=6) L7 Fo Y Y A0)<|BE 13 V Hc Y ?_;refine A3 14 V (KO Y Y)<|A3 15 V (FW Y Y)<|A3 17 V (AO Y)<|A3 19 V (AO Y)<|A3 20 V (Az Vc Fo Y Y A0)<|BE 21 V Hc Y (hv:=by exact XT Cz B k 0 A0) ?_;refine Yz 3 0 3866575 [21,13,8,1] [true,true,true,true] [(21,(_,_)),(13,(_,_)),(8,(_,_)),(1,(_,_))] V Y V rfl V rfl (Ai (vs:=[_,_,_]) (cs:=[_,_,_]) DE AE HJ Y V rfl V rfl V)<|AG fun b3=>BW<|Yz 4 12 3866591 [21,13,8,1] [true,true,true,true] [(21,(_,_)),(13,(_,_)),(8,(_,_)),(1,(_,_))] V Y V rfl V rfl (Zu [_,_] Y cI Y V (IW _ [6,11,25] _ _ _ _ B1 B1))<|Cp<|BW<|A3 5 V (Df Y Y)<|A3 16 V (Df Y Y)<|A3 18 V (Df Y Y)<|A3 22 V (Df Y Y)<|A3 23 V (Aq Y)<|Ag<|Zn [0,4,5,8,10,18,19] ?_;refine Zx<|Zq<|BA (n:=20) (0::0::3::0::0::16::56::0::0::256::896::2040::0::4096::0::16384::61440::131064::262143::524287::[]) 6 AF AF V<|A3 0 V (AO Y)<|A3 3 V (AO Y)<|A3 4 V (Az (j:=1) L7 Fo Y Y A0)<|BE 5 V Hc Y ?_;refine A3 6 V (KO Y Y)<|A3 7 V (AO Y)<|A3 8 V (Az (j:=2) L7 Fo Y Y A0)<|BE 9 V Hc Y ?_;refine A3 10 V (KO Y Y)<|A3 11 V (FW Y Y)<|A3 12 V (Az (j:=1) L7 Fo Y Y A0)<|BE 13 V Hc Y ?_;refine A3 14 V (Az (j:=2) L7 Fo Y Y A0)<|BE 15 V Hc Y ?_
  refine A3 16 V (KO Y Y)<|A3 17 V (FW Y Y)<|Zz (l:=[1])<|B7 [true,true,true,true] [(15,(_,_)),(13,(_,_)),(9,(_,_)),(5,(_,_))] V rfl (Ai (vs:=[_,_,_]) (cs:=[_,_,_]) DE AE HJ Y V rfl V rfl V) ?_ (fun _ _ h=>h.elim) Aj;rintro _ _ ⟨b4,rfl,rfl⟩;refine BW<|Yz 2 3 262143 [15,13,9,5] [true,true,true,true] [(15,(_,_)),(13,(_,_)),(9,(_,_)),(5,(_,_))] V Y V rfl V rfl (Zu [_,_] Y cI Y V (IW _ [2,13,22] _ _ _ _ B1 B1))<|Cp<|BW<|A3 18 V (Df Y Y)<|A3 19 V (Aq Y)<|Ag<|Zn [0,4,5,10,11,18,19] ?_;refine Zx<|Zq<|BA (n:=3) (0::0::3::[]) 4 AF AF V<|A3 0 V (Q3 (l:=1) L7 Fo Y Y A0)<|A3 1 V (Sz (h:=7) L7 Fo Y Y A0)<|Yw 2 7 V (zU (cs:=[_,_,_,_,_,_,_]) (c':=#[_,_,_,_,_,_,_,_]) underlying422 Fo Y Y Wh Wu B0 B0 B0 (by exact CI 8) (BC _) (by simp [Value.oneCell',Cz]))<|Cp<|Ag<|Zx<|Zg<|Zm Y<|Zm Y<|Zv (Df Y Y)<|BU (Az (j:=4) L7 Fo Y Y A0)<|Zl Hc Y ?_;refine Zm Y<|Zv (Df Y Y)<|BU (Az (j:=0) L7 Fo Y Y A0)<|Xe (Zs Fo Y Y V) ?_;refine BU (Az (j:=4) L7 Fo Y Y A0)<|Xe (Zs Fo Y Y V (hc:=by exact (dC x k B v Z))) ?_;refine Z0<|Zn [0,4,5,18,19] ?_;refine A8<|Zx<|Zg<|Ya (n:=1) Y Y<|Zm Y<|Z0<|Zn [19,0,4,5,18] ?_;refine Aa (e':=[(19,_)]) (by exact ⟨k+1,V,by omega,V,V⟩)
 refine BD<|Zt<|Zt<|AV<|Zx<|A1<|Zm Y<|A6<|AQ ?_;have ek:k=64:=by omega
 subst ek;refine Zb [82,0,5] ?_;refine BI (e0:=[(82,_)]) (fun m e H=>∃i:Nat,m=8 -i/\(i<=8)/\e=[(82,I4 (i:Int))]/\H=[[(K,.cells ((Vt v x i).map Cz).toArray O (0,0))]]) (by exact ⟨0,V,C7 _,V,V⟩) Wp ?_;rintro _ _ _ ⟨i,rfl,hi,rfl,rfl⟩;refine A1<|Zv (Ay (n:=8) Y Y)<|A6<|Zq<|Aw Y (fun X=>?_) (fun X=>?_);·
  refine AC<|Zx<|Zq<|AQ<|A1<|Zm Y<|A5 Y<|BA (n:=12) (0::0::1::7::15::0::32::96::255::1::1023::2047::[]) 2048 AF AF rfl<|A3 0 rfl (AO Y)<|A3 1 rfl (AO Y)<|A3 2 rfl (Ak Y rfl)<|A3 3 rfl (Az L7 Fo Y Y (by first|omega|(rw [HC,B6,Mr _ _ _ A0];omega)))<|BE 4 rfl Hc Y (hv:=by exact nT _ _ i A0) ?_;refine A3 5 rfl (AO Y)<|A3 6 rfl (Az L7 Fo Y Y (by first|omega|(rw [HC,B6,Mr _ _ _ A0];omega)))<|BE 7 rfl Hc Y (hv:=by exact pX _ i A0) ?_;refine A3 8 rfl (Df Y Y)<|A3 9 rfl (Ak Y rfl)<|A3 10 rfl (Az L7 Fo Y Y (by first|omega|(rw [HC,B6,Mr _ _ _ A0];omega)))<|Yw 11 4095 rfl (Zs Fo Y Y rfl (hc:=by exact nS _ _ i A0) (hi:=by(rw [HC,B6,Mr _ _ _ A0];omega)))<|Cp<|Ag<|Zn [0,5,82] ?_;refine A8<|Zx<|Zg<|Ya (n:=1) Y Y<|Zm Y<|Z0<|Zn [82,0,5] ?_;refine Aa (e':=[(82,_)]) (by exact ⟨i+1,V,by omega,V,V⟩)
 have ei:i=8:=by omega
 subst ei;rw [<-Z];refine BD<|Zt<|Zt<|AV<|Ce V results274 (by exact ⟨V,V⟩)
def Sw(N:Nat)(l:List UInt8):AK:=(l.map u8v++List.replicate (N -l.length) (Value.int .u8 0)).toArray
theorem rZ(N:Nat)(l:List UInt8)(x:UInt8)(k:Nat)(g:k=l.length)(h:l.length<N):(Sw N l).setIfInBounds k (.int .u8 (x.toNat:Int))=Sw N (l++[x]):=by
 subst g;unfold Sw;rw [nd];congr 1;rw [ln _ _ B4];simp only [B6,T5,Bm,E3,KK];obtain ⟨n,m⟩:∃n,N -l.length=n+1:=⟨N -1 -l.length,by omega⟩;rw [m,show N -(l.length+(0+1))=n by omega];simp [List.replicate_succ,u8v]
theorem Vb(N:Nat)(l:List UInt8)(h:l.length<=N):(Sw N l).size=N:=by simp [Sw];omega
theorem lX(N:Nat)(l:List UInt8)(h:l.length=N):(Sw N l).toList=l.map u8v:=by simp [Sw,h]
def R3(v:V8)(i k:Nat):List UInt8:=(v.list.take i).flatMap Ot++(Ot (v.list.getD i 0)).take k
theorem Oq(v:V8)(i k:Nat)(hi:i<8)(g:k<=4):(R3 v i k).length=4*i+k:=by
 have:i=0\/i=1\/i=2\/i=3\/i=4\/i=5\/i=6\/i=7:=by omega
 rcases this with rfl|rfl|rfl|rfl|rfl|rfl|rfl|rfl<;>simp [R3,V8.list,Ot]<;>omega
theorem lq(v:V8)(i:Nat)(hi:i<8):R3 v (i+1) 0=R3 v i 4:=by
 have:i=0\/i=1\/i=2\/i=3\/i=4\/i=5\/i=6\/i=7:=by omega
 rcases this with rfl|rfl|rfl|rfl|rfl|rfl|rfl|rfl<;>rfl
theorem ll(v:V8)(i k:Nat)(g:k<4):R3 v i (k+1)=R3 v i k++[((v.list.getD i 0)>>>UInt32.ofNat (24 -8*k)).toUInt8]:=by
 have:k=0\/k=1\/k=2\/k=3:=by omega
 unfold R3;generalize v.list.getD i 0=x;rcases this with rfl|rfl|rfl|rfl
 · simp [Ot]
 · simp [Ot]
 · simp [Ot]
 · have e:x>>>UInt32.ofNat (24 -8*3)=x:=by
    apply UInt32.toNat_inj.1;simp [UInt32.toNat_shiftRight]
   rw [e];simp [Ot]
theorem jJ(v:V8):R3 v 8 0=sK v:=rfl
theorem pW(y:V8)(i:Nat)(h:i<8):(v8c y)[i*1]?=some (Cz (y.list.getD i 0)):=by rw [Mn];exact pX y i h
theorem ai(v:V8):BJ prog 275 #[.agg (v8c v)] [] (.string (str (sK v))):=by
 refine Se func275 ntmps275 [0] ?_;intro u R;refine A1<|Ze (F5 Y (cs:=(v8c v)) AF)<|AG fun K=>A5 Y<|A1<|Ze (Ey zeroValue414 (cs:=(Sw 32 [])) AF)<|AG fun G=>A6<|Zq<|A1<|Zo Wh (AB (cs:=v8c v) isAgg394 sizeOf394 Y (by exact CI _) (by exact Ia _ _ V))<|Zm Y<|A6<|AQ<|Zb [8,3,7] ?_;refine BI (e0:=[(8,_)]) (fun m e H=>∃i:Nat,m=8 -i/\(i<=8)/\e=[(8,I4 (i:Int))]/\H=[[(G,.cells (Sw 32 (R3 v i 0)) 414 (0,0))]]) (by exact ⟨0,V,C7 _,V,V⟩) Wp ?_;rintro _ _ _ ⟨i,rfl,hi,rfl,rfl⟩;refine A1<|Zv (Ay (n:=8) Y Y)<|A6<|Zq<|Aw Y (fun g=>?_) (fun g=>?_);·
  refine AC<|Zx<|Zq<|AQ<|A1<|Zm Y<|Zv (Qf L7 Hc Fo Y Y A0 (by exact pW v i A0))<|Za Y<|A5 Y<|A1<|Zm Y<|A6<|AQ<|Zb [12,3,4,5,7,8] ?_;refine BI (e0:=[(12,_)]) (fun m e H=>∃k:Nat,m=4 -k/\(k<=4)/\e=[(12,I4 (k:Int))]/\H=[[(G,.cells (Sw 32 (R3 v i k)) 414 (0,0))]]) (by exact ⟨0,V,C7 _,V,V⟩) Wp ?_;rintro _ _ _ ⟨k,rfl,O,rfl,rfl⟩;refine A1<|Zv (Ay (n:=4) Y Y)<|A6<|Zq<|Aw Y (fun B=>?_) (fun B=>?_);·
   refine AC<|Zx<|Zq<|AQ<|A1<|Zm Y<|A5 Y<|Zg<|Zm Y<|BU (F8 (m:=4) Y Y A0)<|Zm Y<|Ya Y Y<|Zm Y<|Zm Y<|BU (F8 (m:=8) Y Y A0)<|Yb (m:=24) Y Y ?_;refine BU (Mj Y Y A0)<|Zv (Ua T6 Ly Y)<|BU (Az underlying414 It Y Y (by first|omega|(rw [Vb _ _ (by rw [Oq _ _ _ A0 A0];omega)];omega)))<|Xe (Zs It Y Y rfl (hc:=by exact (rZ 32 (R3 v i k) _ _ (by rw [Oq _ _ _ A0 A0]) (by rw [Oq _ _ _ A0 A0];omega)).trans (congrArg (Sw 32) (ll v i k A0).symm)) (hi:=by(rw [Vb _ _ (by rw [Oq _ _ _ A0 A0];omega)];omega)))<|Z0<|Zn [3,4,5,7,8,12] ?_;refine A8<|Zx<|Zg<|Ya (n:=1) Y Y<|Zm Y<|Z0<|Zn [12,3,4,5,7,8] ?_;refine Aa (e':=[(12,_)]) (by exact ⟨k+1,V,by omega,V,V⟩)
  have J:k=4:=by omega
  subst J;refine BD<|Zt<|Zt<|AV<|A8<|Zx<|Zg<|Ya (n:=1) Y Y<|Zm Y<|Z0<|Zn [8,3,7] ?_;refine Aa (e':=[(8,_)]) (by exact ⟨i+1,rfl,by omega,rfl,by rw [lq v i A0]⟩)
 have I:i=8:=by omega
 subst I;refine BD<|Zt<|Zt<|AV<|Zx<|A1<|Zv (Ii underlying414 It Y)<|Zo Wh (KN HL Ly HA Y (by exact ⟨(by rw [lX 32 (R3 v 8 0) (by rw [jJ];rfl)];exact Hx (by rw [Pr,B6,jJ];exact CI 32)),rfl⟩))<|A5 Y<|AJ<|AP rfl results275 Y lE
def QN(g j:Nat):A4:= .slice (some ⟨g,64*j,none⟩) 64 64
theorem vJ(g k M:Nat)(h:k<M):Value.slice (some ⟨g,0+64*k*1,none⟩) (64*k+min 64 (64*M -64*k) -64*k) (64*k+min 64 (64*M -64*k) -64*k)=QN g k:=by
 have m:64*k+min 64 (64*M -64*k) -64*k=64:=by omega
 have h2:0+64*k*1=64*k:=by omega
 rw [m,h2];rfl
theorem YV(M k:Nat)(h:k<M):List.range M=List.range k++k::(List.range' (k+1) (M -k -1)):=by
 rw [nv,nv,<-oX];rw [show M -k -1+1=M -k by omega];have:=List.range'_append_1 (s:=0) (m:=k) (n:=M -k)
 rw [show 0+k=k by omega,show k+(M -k)=M by omega]at this;exact this.symm
theorem iC(g cap M:Nat)(U O:Nat)(hM:64*M<=cap)(hc:cap<=maxLen):
 UJ prog 303 #[I5 U,I5 O] [[(U,.cells #[I6 g (64*M) cap] 103 (0,0))],[(O,.cells #[I4 64] 3 (0,0))]] (fun j=>#[QN g j]) (List.range M):=by
 have Z:=mL;intro l J hy s G;refine Se func303 ntmps303 [0,1,2] ?_;intro u R;refine A1<|A5 Y<|AQ<|Zb [4,0,1,2] ?_;refine BI (e0:=[(4,_)]) (fun m e H=>∃(k:Nat) (s:List A9),m=M -k/\(k<=M/\J (List.range k) s)/\e=[(4,I4 ((64*k:Nat):Int))]/\H=[s]) (by exact ⟨0,s,V,⟨C7 _,G⟩,V,V⟩) Wp ?_;rintro _ _ _ ⟨k,s,rfl,⟨hk,G⟩,rfl,rfl⟩;refine Zq<|A1<|Zm Y<|Zl SD Y ?_;refine Zv (Ac HL Y)<|Zv (Ay Y Y)<|A6<|Aw Y (fun K=>?_) (fun K=>?_);·
  refine AC<|Zx<|Zq<|AQ<|Zq<|BA (n:=7) (0::0::0::6::14::31::63::[]) 0 AF AF V<|BE 0 V AH Y ?_;refine BE 1 V SD Y ?_;refine A3 2 V (AO Y)<|A3 3 V (C8 HL It Y Y A0)<|A3 4 V (Ac HL Y)<|A3 5 V (Q6 Y Y)<|A3 6 V (Aq Y)<|Ag<|Zx<|Zq ?_;have B:=hy (List.range k) k _ s (YV M k A0) G
  rw [<-j7]at B;rw [show(fun j=>#[QN g j]) k=#[QN g k] from rfl,<-vJ g k M A0]at B;refine Zg<|Zm Y<|Zl SD Y ?_;refine Zm Y<|Zm Y<|Zm Y<|Ya Y Y<|Zm Y<|Zm Y<|Ya Y Y ?_
  (refine BU (Sy HL It Y Y Y Y ?_ ?_) ?_;(focus ((simp only [Nat.min_def];split<;>omega)));(focus (omega)))
  refine Ze (Fe (vs:=[_]) Y Y (B) Wp) ?_;rintro _ _ ⟨_,⟨s',rfl,rfl,I⟩,rfl⟩;refine Zv (Bt Y)<|Z0<|Zn [0,1,2,4,30] ?_;refine Zx<|AU Y (fun W=>by cases W)<|fun W=>AC<|A8<|Zx<|Zg<|Zm Y<|Zl AH Y ?_;refine Yi Y Y<|AW Y<|Zn [4,0,1,2] ?_;refine Aa (e':=[(4,_)]) (by exact ⟨k+1,s',V,⟨by omega,I⟩,V,V⟩)
 have X:k=M:=by omega
 subst X;refine BD<|Zt<|Zt<|AV<|Ce V results303 (by exact ⟨s,V,G⟩)
theorem iB(p:B8)(n cap:Nat):BR prog 273 #[.slice p n cap,I4 64] [] (fun r H'=>∃B m,r= .func (.func 303) #[] #[I5 B,I5 m]/\H'=[[(B,.cells #[.slice p n cap] 103 (0,0))],[(m,.cells #[I4 64] 3 (0,0))]]):=by
 refine Se func273 ntmps273 [0,1] ?_;intro u R;refine A1<|Ze (Bx #[_])<|AG fun G=>Ze (Bx #[_])<|AG fun I=>A5 Y<|Zq<|A1<|Zl AH Y<|Zv (Ay (n:=1) Y Y)<|A6<|Aw Y (fun g=>?_) (fun g=>?_);·
  exact absurd g B1
 refine AC<|Zx<|A1<|Zv (Bg (vs:=[]) (us:=[_,_]) Y Y)<|A5 Y<|AJ<|AP V results273 Y (by exact ⟨G,I,V,V⟩)
theorem Qt:∀(n:Nat) (h:V8) (b:List UInt8),JO (n+1) h b=Xh (JO n h b) ((b.drop (64*n)).take 64)
 |0,h,b=>by simp [JO]
 |n+1,h,b=>by
  rw [JO,Qt n,JO,cA];rw [show 64+64*n=64*(n+1) by omega]
def Qz(l:List UInt8)(k:Nat):List UInt8:=l++[128]++List.replicate k 0
theorem Lx(l:List UInt8)(k:Nat):(Qz l k).length=l.length+1+k:=by simp [Qz];omega
theorem lU(l:List UInt8)(k:Nat):(Qz l k).map u8v++[.int .u8 0]=(Qz l (k+1)).map u8v:=by
 unfold Qz;rw [List.replicate_succ'];simp [u8v]
def UV(l:List UInt8)(j:Nat):List UInt8:=Qz l (Lc l.length)++(R4 l.length).take j
theorem lV(l:List UInt8):UV l 0=Qz l (Lc l.length):=by simp [UV]
theorem Va(l:List UInt8):UV l 8=Gt l:=by
 have:(R4 l.length).take 8=R4 l.length:=Hx (by simp [R4]);simp [UV,Qz,Gt,this]
theorem u6(n j:Nat)(h:j<8):(R4 n).take (j+1)=(R4 n).take j++[UInt8.ofNat (8*n/2^(8*(7 -j)))]:=by
 rw [nc (by simp [R4];omega)];simp [R4]
theorem lW(l:List UInt8)(j q:Nat)(h:q+j=7):(UV l j).map u8v++[.int .u8 ((UInt8.ofNat (8*l.length/2^(8*q))).toNat:Int)]=(UV l (j+1)).map u8v:=by
 unfold UV;rw [u6 _ _ A0,show 7 -j=q by omega];simp [u8v]
theorem Yt(l:List UInt8)(j:Nat)(h:j<=8):(UV l j).length=l.length+1+Lc l.length+j:=by
 have:(R4 l.length).length=8:=by simp [R4]
 simp [UV,Lx,this];omega
theorem xe(m:Nat):IntKind.u8.wrap (m:Int)=((UInt8.ofNat m).toNat:Int):=by
 rw [IntKind.wrap_u8',UInt8.toNat_ofNat'];omega
theorem wO(n k:Nat)(g:k<=Lc n)(h:(n+1+k)%64≠56):k<Lc n:=by
 have:=iR n;rcases FF k (Lc n)with h1|h1
 · exact h1
 · have:k=Lc n:=by omega
   subst this;contradiction
theorem wP(n k:Nat)(g:k<=Lc n)(h:(n+1+k)%64=56):k=Lc n:=by
 unfold Lc at g⊢;omega
theorem lC{M x:Nat}{pre post:List Nat}(h:List.range M=pre++x::post):x=pre.length/\x<M:=by
 have g:(List.range M)[pre.length]?=some x:=by rw [h];simp
 have m:pre.length<M:=by
  have:=(C4.1 g).1;simpa using this
 rw [Ss m]at g;have:=S2 g
 omega
theorem bB{cur:AK}{p:List UInt8}(h:cur.toList.take (p.map u8v).length=p.map u8v)(k:Nat)(m:64*k+64<=p.length):N7 cur (64*k) ((p.drop (64*k)).take 64):=by
 unfold N7;have g:((p.drop (64*k)).take 64).length=64:=by simp;omega
 rw [g,List.map_take,jj,<-h];rw [fX,V0];congr 1;simp;omega
theorem xB(l:List UInt8)(M:Nat)(h:(Gt l).length=64*M):sha l=sK (JO M h0 (Gt l)):=by
 unfold sha;rw [h,Nat.mul_div_cancel_left _ A0]
theorem qA(s:Bk)(hs:s.size<=140737488355000)(Tg:AM)(zg:Nat×Nat):
 BJ prog 240 #[.string s] [[(4,.cells (Ew.map Cz).toArray Tg zg)]] (.string (str (sha s.data.toList))):=by
 have kv:=mL;obtain ⟨l,U⟩:∃l,l=s.data.toList:=⟨_,rfl⟩;have J:l.length=s.size:=by rw [U];rfl
 have hz:Lc s.size<64:=by unfold Lc;omega
 refine DU func240 V ntmps240 V ?_;intro u R;refine Zb [0] ?_;refine A1<|A5 Y<|A1<|Zv (BM (vs:=[(0,_),(1,_),(2,_),(3,_),(4,_),(5,_),(6,_),(7,_)]) (cs:=#[_,_,_,_,_,_,_,_]) Y (DL zeroValue394 L7 Fo V))<|Ze (Al zeroValue394 #[_,_,_,_,_,_,_,_])<|AG fun bh=>Xe (BL sizeOf394 Y Y (iW h0) Wu (by exact (rfl:_=v8c (JO 0 h0 (Gt l)))) FA Wn (by exact BC _))<|A6<|A1<|Zm Y<|Ze (wX HA HL Ly Y A0) ?_;rintro _ _ ⟨sa,W,rfl⟩;obtain ⟨ga,ca,rfl⟩:=W.form;refine Ze (Ai (vs:=[_]) (cs:=[_]) HL It S7 Y V rfl V rfl V)<|AG fun b3=>Ze (Dj (by_:=1) (news:=[_]) HL (V:Tryz.prog.info? 5=some Tryz.t5) V rfl V rfl Y W Y Wo Wh B0 V Ft B1 (by(simp only [B6,<-U,J];omega)) (by(simp only [B6,<-U,J];omega))) ?_;rintro _ _ ⟨sb,X,rfl⟩;obtain ⟨gb,cb,rfl⟩:=X.form;refine A5 Y<|Zq<|AQ ?_;have gm:Row 5 (.slice gb (List.map u8v s.data.toList++[Value.int IntKind.u8 128]).length cb) ((Qz l 0).map u8v) sb:=by
  have e:(Qz l 0).map u8v=List.map u8v s.data.toList++[Value.int IntKind.u8 128]:=by rw [<-U];simp [Qz,u8v]
  rw [e];exact X
 refine Zb [4,0,3] ?_;refine BI (e0:=[(4,_)]) (fun m e H=>∃(k:Nat) (v:A4) (K:List A9),m=Lc s.size -k/\(k<=Lc s.size/\Row 5 v ((Qz l k).map u8v) K)/\e=[(4,v)]/\H=[K]) (by exact ⟨0,_,_,V,⟨C7 _,gm⟩,V,V⟩) Wp ?_;rintro _ _ _ ⟨k,v,K,rfl,⟨hk,B⟩,rfl,rfl⟩;obtain ⟨gv,cv,rfl⟩:=B.form;refine Zq<|A1<|Zm Y<|Zv (Ac HL Y)<|BU (FX (n:=64) Y Y A0)<|Zv (FY (n:=56) Y Y)<|A6<|Aw Y (fun G=>?_) (fun G=>?_);·
  rw [B6,Lx,J]at G;have cO:=wO _ _ hk G
  refine AC<|Zx<|AQ<|Zg<|Zm Y<|Ze (Ai (vs:=[_]) (cs:=[_]) HL It S7 Y V rfl V rfl V)<|AG fun b5=>Ze (Dj (by_:=1) (news:=[_]) HL (V:Tryz.prog.info? 5=some Tryz.t5) V rfl V rfl Y B Y Wo Wh B0 V Ft B1 (by(simp only [B6,Lx,J];omega)) (by(simp only [B6,Lx,J];omega))) ?_;rintro _ _ ⟨sc,Z,rfl⟩;obtain ⟨gc,cc,rfl⟩:=Z.form;refine AW Y<|A8<|Zn [4,0,3] ?_;refine Aa (e':=[(4,_)]) (by exact ⟨k+1,_,_,rfl,⟨cO,by rw [<-lU];exact Z⟩,rfl,rfl⟩)
 rw [B6,Lx,J]at G;have ek:=wP _ _ hk A0
 subst ek;refine BD<|Zt<|Zt<|AV<|Zx<|Zq<|A1<|A5 Y<|AQ<|Zb [4,5,0,3] ?_;refine BI (e0:=[(4,_),(5,_)]) (fun m e H=>∃(j:Nat) (i:Int) (v:A4) (K:List A9),m=8 -j/\(j<=8/\i=7 -(j:Int)/\Row 5 v ((UV l j).map u8v) K)/\e=[(4,v),(5,I4 i)]/\H=[K]) (by exact ⟨0,_,_,_,rfl,⟨C7 _,rfl,by rw [lV,J];exact B⟩,rfl,rfl⟩) Wp ?_;rintro _ _ _ ⟨j,i,v,K,rfl,⟨hj,hi,B⟩,rfl,rfl⟩;obtain ⟨gv,cv,rfl⟩:=B.form;refine Zq<|A1<|Zm Y<|Zv (Gj Y Y)<|A6<|Aw Y (fun O=>?_) (fun O=>?_);·
  obtain ⟨q,rfl⟩:=Int.eq_ofNat_of_zero_le O;refine AC<|Zx<|Zq<|AQ<|Zg<|Zm Y<|Zm Y<|Zv (Q8 HA Y)<|BU (F8 (m:=8) Y Y A0)<|Zm Y<|BU (F8 (m:=8) Y Y A0)<|BU (Q4 Y Y (by first|decide|(simp [IntKind.bits];done)|(simp [IntKind.bits];omega)))<|Kw (Eu D4 Ly Y (xe _)) rfl rfl<|Ze (Ai (vs:=[_]) (cs:=[_]) HL It S7 Y rfl rfl rfl rfl rfl)<|AG fun b7=>Ze (Dj (by_:=1) (news:=[_]) HL (V:Tryz.prog.info? 5=some Tryz.t5) V rfl V rfl Y B Y Wo Wh B0 V Ft B1 (by(simp only [B6,Yt l j hj,J];omega)) (by(simp only [B6,Yt l j hj,J];omega))) ?_;rintro _ _ ⟨sd,af,rfl⟩;obtain ⟨gd,cd,rfl⟩:=af.form;refine AW Y<|Zn [0,3,4,5] ?_;refine A8<|Zx<|Zg<|Zm Y<|BU (FP Y Y (IntWalk.i64_in _ A0))<|AW Y<|Zn [4,5,0,3] ?_;refine Aa (e':=[(4,_),(5,_)]) (by exact ⟨j+1,_,_,_,rfl,⟨by omega,by omega,by rw [<-lW l j q A0,J];exact af⟩,rfl,rfl⟩)
 have ej:j=8:=by omega
 subst ej;refine BD<|Zt<|Zt<|AV<|Zx<|Zq<|Zq ?_;rw [Va]at B;obtain ⟨M,hM⟩:∃M,(Gt l).length=64*M:=⟨(Gt l).length/64,by have:=eU l;omega⟩;have dn:=Sv l
 rw [J]at dn;rw [Va];obtain ⟨g,cap,cur,z,hv,rfl,d9,cu,j3,gq,j5⟩:=B.some (by rw [B6];omega);simp only [Value.slice.injEq]at hv;obtain ⟨rfl,_,rfl⟩:=hv;rw [B6]at d9;rw [B6,hM];refine Zg<|Zm Y<|Zc [_,_] Y call273 Y V (iB _ _ _) ?_;rintro _ _ ⟨_,⟨bs,bn,rfl,rfl⟩,rfl⟩;refine A6<|AQ<|Zb [3,34] ?_;refine Qw (H0:=_) (R:=_) (I:=(fun pre H=>H=[[(bh,.cells (v8c (JO pre.length h0 (Gt l))) 394 (0,0))],[(g,.cells cur 5 z)],[(4,.cells (Ew.map Cz).toArray Tg zg)]])) (asg:=fun x=>[(6,QN g x),(35,QN g x)]) V Y call303 (iC g cv M bs bn A0 cu) Y V Wp (V) ?ha_6 ?hbd_6 ?hk_6
 case ha_6=>
  intro _ x _ _;refine Zg<|Za Y<|Z0 ?_;exact jL
 case hbd_6=>
  intro l pre x post u H1 R1 ic hI;subst hI;obtain ⟨gy,l5⟩:=lC ic;subst gy;refine AQ<|Zg<|Zm Y<|Zc [_,_] Y call274 Y rfl (wB _ _ _ _ _ _ _ _ (by rw [CD,CH];omega) (bB gq _ A0) _ _ _ _) ?_;rintro _ _ ⟨_,⟨rfl,rfl⟩,rfl⟩;refine Z0<|A8<|Eg rfl (by rw [Bm,F2,Qt])
 intro D1 H2 ax;subst ax;refine Zn [3] ?_;refine A8<|Zx<|A1<|Zo Wh (AB (cs:=v8c (JO M h0 (Gt l))) isAgg394 sizeOf394 Y Wn (by rw [Wg];exact Ia _ _ rfl))<|Xr [_] Y call275 Y rfl (ai _)<|A5 Y<|AJ<|Fv rfl (dU results240 Y) Wo (by exact ⟨by rw [<-U,xB l M hM],rfl⟩)
end Go.Proofs.YthhakdmlpngcmaaGreatDoor
