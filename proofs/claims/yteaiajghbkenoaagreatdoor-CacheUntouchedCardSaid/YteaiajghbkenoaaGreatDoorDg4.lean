/- Contracts: bits.RotateLeft32 at the counts of the program, digest.mixed, digest.schedule. -/
/- Contracts: digest.add, digest.digest. -/
/- Contracts: digest.digest, slices.Chunk at 64 bytes. Contracts: slices.Chunk at 64 bytes, digest.Sum. -/
import Derived.Test.YteaiajghbkenoaaGreatDoorA1
import Derived.Test.YteaiajghbkenoaaGreatDoorEz
import Derived.Test.YteaiajghbkenoaaGreatDoorEx4
import Derived.Test.YteaiajghbkenoaaGreatDoorEx5
import Derived.Test.YteaiajghbkenoaaGreatDoorSha
import Derived.Test.YteaiajghbkenoaaGreatDoorBits
import Derived.Test.YteaiajghbkenoaaGreatDoorProg
import Derived.Laws.Bits64
import Derived.WalkKit
import Derived.Test.YteaiajghbkenoaaGreatDoorEx36
set_option linter.unusedVariables false
set_option linter.unusedSimpArgs false
namespace Go.Proofs.YteaiajghbkenoaaGreatDoor
open Go.Proofs.Tryz
open Go Go.RowKit Gw
set_option maxRecDepth 100000
attribute [local irreducible] Gw.At Gw.Nx Gw.Ops
theorem kD(x:UInt32)(n m:Nat)(h0:0<n)(g:n<32)(B:n+m=32):(x<<<UInt32.ofNat m)|||(x>>>UInt32.ofNat n)=pE x (UInt32.ofNat n):=by
 unfold pE;have:(32:UInt32) -UInt32.ofNat n=UInt32.ofNat m:=by
  apply UInt32.toNat_inj.1;rw [UInt32.toNat_sub,j8,j8];simp only [UInt32.reduceToNat];omega
 rw [this]
theorem w9(n m:Nat)(h0:0<n)(B:n<32)(G:n+m=32):bits .and .u64 (IntKind.u64.wrap (-(n:Int))) 31=(m:Int):=by
 have h:IntKind.u64.wrap (-(n:Int))=((18446744073709551616 -n:Nat):Int):=by rw [IntKind.wrap_u64];omega
 have g:(31:Int)=((31:Nat):Int):=rfl;rw [h,g,u64_and_nat _ _ A1 A1,nat_mask5];omega
theorem kC(x:UInt32)(n:Nat)(h0:0<n)(g:n<32):BI prog 345 #[.int .u32 x.toNat,I4 (-(n:Int))] [] (.int .u32 (pE x (UInt32.ofNat n)).toNat):=by
 refine KX func345 V ntmps345 V ?_;intro u R;obtain ⟨m,B⟩:∃m,n+m=32:=⟨32 -n,by omega⟩;refine Zb [0,1] ?_;refine A0<|A3 Y<|A0<|Zm Y<|Kh (En Cp W4 Y V) V rfl ?_;refine Kh (qU Y Y (w9 n m h0 g B)) V rfl ?_;refine A3 Y<|A0<|Zm Y<|Zm Y<|BX (MZ Y Y A1)<|Zm Y<|Zm Y ?_
 (refine BX (UU (m:=32) Y Y ?_ ?_) ?_;(focus (omega));(focus (omega)))
 refine BX (MX Y Y A1)<|Zv (Oi Y Y)<|AG Y<|Zn [4] ?_;refine Zx<|AJ<|AP V results345 Y (by
  have e:32 -m=n:=by omega
  exact ⟨by rw [e,kD x n m h0 g B],rfl⟩)
theorem rC(x:UInt32)(l:List UInt32)(n:UInt32):XC x (l++[n])=XC x l^^^pE x n:=by simp [XC]
def oR(n:Nat):Value:=I4 (n:Int)
theorem jd{α β:Type}(f:α->β)(l:List α)(k:Nat)(d:α)(h:k<l.length):(l.take (k+1)).map f=(l.take k).map f++[f (l.getD k d)]:=by
 rw [mC h,Bm];simp [Lz,B4 h]
theorem XP{α:Type}(f:α->Value)(l:List α)(k:Nat)(d:α)(h:k<l.length):(l.map f).toArray[k]?=some (f (l.getD k d)):=by
 simp [B4 h,Lz]
theorem IU(x:UInt32)(l:List Nat)(g cap:Nat)(T:TypeId)(z:Nat×Nat)(I:∀n∈l,0<n/\n<32)(K:l.length<=100):
 BI prog 334 #[.int .u32 x.toNat,I6 g l.length cap] [[(g,.cells (l.map oR).toArray T z)]] (.int .u32 (XC x (l.map UInt32.ofNat)).toNat):=by
 refine Se func334 ntmps334 [0,1] ?_;intro u R;refine A0<|A3 Y<|A0<|A3 Y<|Zq<|A0<|Zm Y<|Zv (Aa D0 Y)<|Zm Y<|A4<|AQ<|Zb [5,10,0,8,9] ?_;refine BB (e0:=[(5,_),(10,_)]) (fun m e H=>∃k:Nat,m=l.length -k/\(k<=l.length)/\e=[(5,.int .u32 ((XC x ((l.take k).map UInt32.ofNat)).toNat:Int)),(10,I4 (k:Int))]/\H=[]) (by exact ⟨0,V,C0 _,V,V⟩) Wp ?_;rintro _ _ _ ⟨k,rfl,J,rfl,rfl⟩;refine A0<|Zv (Av Y Y)<|A4<|Zq<|Au Y (fun G=>?_) (fun G=>?_)
 ·
  refine AC<|Zx<|Zq<|AQ<|A0<|BX (BQ D0 A5 Y Y A1)<|Zl AE Y (hv:=by exact XP oR l k 0 A1) ?_;refine AG Y<|Zx ?_;have B:=I (l.getD k 0) (by rw [Lz,B4 A1];exact nm _)
  refine Zg<|Zm Y<|Zm Y<|Zm Y<|Kh (iY (c:=-(l.getD k 0:Int)) Y (by rw [Int.zero_sub];exact IntWalk.i64_in _ A1)) rfl rfl ?_;refine Xr [_,_] Y call345 Y V (kC _ _ B.1 B.2) ?_;refine Zv (FP Y Y)<|AG Y<|A8<|Zx<|Zg<|Ya (n:=1) Y Y<|Zm Y<|Z0<|Zn [5,10,0,8,9] ?_;refine Ab (e':=[(5,_),(10,_)]) (by exact ⟨k+1,rfl,by omega,by rw [jd _ _ _ 0 A1,rC],rfl⟩)
 refine Ay<|Zt<|Zt<|AR<|Zx<|A0<|Zm Y<|A3 Y<|AJ<|AP V results334 Y (by
  have e:k=l.length:=by omega
  exact ⟨by rw [e,G0],rfl⟩)
def Eg(l:List UInt32):List Value:=l.map Ct++List.replicate (64 -l.length) (.int .u32 0)
theorem Cc(l:List UInt32)(h:l.length<=64):(Eg l).length=64:=by simp [Eg];omega
theorem bR(l:List UInt32)(i:Nat)(h:i<l.length):(Eg l).toArray[i]?=some (Ct (l.getD i 0)):=by
 simp [Eg,my,h,Lz]
theorem bP(l:List UInt32)(x:UInt32)(h:l.length<64):(Eg l).toArray.setIfInBounds l.length (Ct x)=(Eg (l++[x])).toArray:=by
 rw [mN];congr 1;unfold Eg;rw [j7 _ _ B0];simp only [B2,Tl,B7,DH,J1];obtain ⟨n,g⟩:∃n,64 -l.length=n+1:=⟨63 -l.length,by omega⟩;rw [g,show 64 -(l.length+(0+1))=n by omega];simp [List.replicate_succ]
theorem JR(b:List UInt8)(k:Nat)(x:UInt32)(h:k<64)(g:FY b (k+1)=FY b k++[x]):(Eg (FY b k)).toArray.setIfInBounds k (.int .u32 (x.toNat:Int))=(Eg (FY b (k+1))).toArray:=by
 have:=bP (FY b k) x (by rw [CV];exact h);rw [CV]at this;rw [g];exact this
theorem bQ(l:List UInt32):∀v∈(Eg l).toArray.toList,v.oneCell'=true:=by
 intro v hv;simp only [Eg,BE,Bk,List.mem_replicate]at hv;rcases hv with⟨x,_,rfl⟩|⟨_,rfl⟩<;>rfl
theorem Y0(l:List UInt32)(h:l.length=64):Eg l=l.map Ct:=by simp [Eg,h]
theorem nz(b:List UInt8)(k:Nat)(h:k<16):FY b (k+1)=FY b k++[bL b k]:=by rw [FY,AM h]
theorem RY(b:List UInt8)(k:Nat)(h:16<=k):FY b (k+1)=FY b k++[Z4 (FY b k) k]:=by rw [FY,AK A1]
def Mm(c:Array Value)(o:Nat)(bs:List UInt8):Prop:=(c.toList.drop o).take bs.length=bs.map u8v
theorem Mm.get{c:Array Value}{o:Nat}{g:List UInt8}(h:Mm c o g)(j:Nat)(B:j<g.length):c[o+j]?=some (u8v (g.getD j 0)):=by
 have m:((c.toList.drop o).take g.length)[j]?=(g.map u8v)[j]?:=by rw [h]
 rw [HA,AM B,PA,DM,B4 B]at m;rw [HG]at m;rw [m];simp [Lz,B4 B]
theorem KT(b:List UInt8)(k i:Nat)(h:i<k):(Eg (FY b k)).toArray[i]?=some (Ct ((FY b k).getD i 0)):=bR _ _ (by rw [CV];exact h)
theorem dC(g o cap:Nat)(c:Array Value)(T:TypeId)(z:Nat×Nat)(B:List UInt8)(hb:B.length=64)(hc:Mm c o B):
 BI prog 333 #[.slice (some ⟨g,o,none⟩) 64 cap] [[(g,.cells c T z)]] (.agg ((iP B).map Ct).toArray):=by
 refine Se func333 ntmps333 [0] ?_;intro u R;refine A0<|Ze (EW zeroValue431 (cs:=(Eg []).toArray) A6)<|AD fun K=>A4<|Zq<|A0<|Zm Y<|A4<|AQ<|Zb [7,0,2] ?_;refine BB (e0:=[(7,_)]) (fun m e H=>∃k:Nat,m=16 -k/\(k<=16)/\e=[(7,I4 (k:Int))]/\H=[[(K,.cells (Eg (FY B k)).toArray 431 (0,0))]]) (by exact ⟨0,V,C0 _,V,V⟩) Wp ?_;rintro _ _ _ ⟨k,rfl,O,rfl,rfl⟩;refine A0<|Zv (Av (n:=16) Y Y)<|A4<|Zq<|Au Y (fun I=>?_) (fun I=>?_)
 ·
  refine AC<|Zx<|Zq<|AQ<|A0<|Zm Y<|A3 Y<|Az (n:=36) (0::0::0::4::14::30::62::126::0::0::512::1536::3840::7936::16128::32512::65534::0::0::262144::786432::1966080::4063232::8257536::16646144::33554430::0::0::134217728::402653184::1006632960::2080374784::4227858432::8589934590::17179869183::34359738367::[]) 34359738368 A6 A6 rfl<|A2 0 rfl (AO Y)<|A2 1 rfl (AO Y)<|A2 2 rfl (AO Y)<|A2 3 rfl (Ez (m:=4) Y Y A1)<|A2 4 rfl (Cf HD I2 Y Y (by first|omega|(rw [GP,Cc _ (by rw [CV];omega)];omega)))<|B3 5 rfl V1 Y (hv:=by exact hc.get _ A1) ?_;refine A2 6 rfl (IC Lq Sp Y)<|A2 7 rfl (MZ (n:=24) Y Y A1)<|A2 8 rfl (AO Y)<|A2 9 rfl (AO Y)<|A2 10 rfl (Ez (m:=4) Y Y A1)<|A2 11 rfl (Dm (n:=1) Y Y A1)<|A2 12 rfl (Cf HD I2 Y Y (by first|omega|(rw [GP,Cc _ (by rw [CV];omega)];omega)))<|B3 13 rfl V1 Y (hv:=by exact hc.get _ A1) ?_;refine A2 14 rfl (IC Lq Sp Y)<|A2 15 rfl (MZ (n:=16) Y Y A1)<|A2 16 rfl (Oi Y Y)<|A2 17 rfl (AO Y)<|A2 18 rfl (AO Y)<|A2 19 rfl (Ez (m:=4) Y Y A1)<|A2 20 rfl (Dm (n:=2) Y Y A1)<|A2 21 rfl (Cf HD I2 Y Y (by first|omega|(rw [GP,Cc _ (by rw [CV];omega)];omega)))<|B3 22 rfl V1 Y (hv:=by exact hc.get _ A1) ?_;refine A2 23 rfl (IC Lq Sp Y)<|A2 24 rfl (MZ (n:=8) Y Y A1)<|A2 25 rfl (Oi Y Y)<|A2 26 rfl (AO Y)<|A2 27 rfl (AO Y)<|A2 28 rfl (Ez (m:=4) Y Y A1)<|A2 29 rfl (Dm (n:=3) Y Y A1)<|A2 30 rfl (Cf HD I2 Y Y (by first|omega|(rw [GP,Cc _ (by rw [CV];omega)];omega)))<|B3 31 rfl V1 Y (hv:=by exact hc.get _ A1) ?_;refine A2 32 rfl (IC Lq Sp Y)<|A2 33 rfl (Oi Y Y)<|A2 34 rfl (BH To Fc Y Y (by first|omega|(rw [GP,Cc _ (by rw [CV];omega)];omega)))<|Yw 35 68719476735 rfl (Zs Fc Y Y rfl (hc:=by exact JR B k (bL B k) A1 (nz B k A1)) (hi:=by(rw [GP,Cc _ (by rw [CV];omega)];omega)))<|CT<|Ah<|Zn [0,2,7] ?_;refine A8<|Zx<|Zg<|Ya (n:=1) Y Y<|Zm Y<|Z0<|Zn [7,0,2] ?_;refine Ab (e':=[(7,_)]) (by exact ⟨k+1,V,by omega,V,V⟩)
 refine Ay<|Zt<|Zt<|AR<|Zx<|Zq<|A0<|A3 Y<|AQ ?_;have G:k=16:=by omega
 subst G;refine Zb [4,2] ?_;refine BB (e0:=[(4,_)]) (fun m e H=>∃k:Nat,m=64 -k/\(16<=k/\k<=64)/\e=[(4,I4 (k:Int))]/\H=[[(K,.cells (Eg (FY B k)).toArray 431 (0,0))]]) (by exact ⟨16,V,by omega,V,V⟩) Wp ?_;rintro _ _ _ ⟨k,rfl,⟨U,O⟩,rfl,rfl⟩;refine Zq<|A0<|Zm Y<|Zv (Av (n:=64) Y Y)<|A4<|Au Y (fun J=>?_) (fun J=>?_)
 ·
  refine AC<|Zx<|Zq<|AQ<|Zq<|Az (n:=10) (0::1::3::7::0::16::48::112::15::511::[]) 0 A6 A6 V<|A2 0 V (AO Y) ?_
  (refine Dp (D':=3) 1 (CO (n:=15) Y Y ?_ ?_) ?_;(focus (omega));(focus (omega)))
  refine A2 2 V (BH To Fc Y Y A1)<|B3 3 V HR Y (hv:=by exact KT B k _ A1) ?_;refine A2 4 V (AO Y) ?_
  (refine Dp (D':=63) 5 (CO (n:=2) Y Y ?_ ?_) ?_;(focus (omega));(focus (omega)))
  refine A2 6 V (BH To Fc Y Y A1)<|B3 7 V HR Y (hv:=by exact KT B k _ A1) ?_;refine A2 8 V (Aw Y)<|A2 9 V (Aw Y)<|Ah<|Zx<|Az (n:=26) (0::0::2::6::14::0::0::96::0::256::992::2046::0::4096::12288::28672::65534::0::0::393440::0::1048576::4063456::8388606::16777215::33554431::[]) 34341056 A6 A6 V<|A2 0 V (AO Y)<|A2 1 V (AO Y) ?_
  (refine Dp (D':=7) 2 (CO (n:=16) Y Y ?_ ?_) ?_;(focus (omega));(focus (omega)))
  refine A2 3 rfl (BH To Fc Y Y (by first|omega|(rw [GP,Cc _ (by rw [CV];omega)];omega)))<|B3 4 rfl HR Y (hv:=by exact KT B k _ A1) ?_;refine A2 5 V (AO Y)<|A2 8 V (AO Y)<|A2 9 V (MX (n:=3) Y Y A1)<|A2 12 V (AO Y) ?_
  (refine Dp (D':=13119) 13 (CO (n:=7) Y Y ?_ ?_) ?_;(focus (omega));(focus (omega)))
  refine A2 14 rfl (BH To Fc Y Y (by first|omega|(rw [GP,Cc _ (by rw [CV];omega)];omega)))<|B3 15 rfl HR Y (hv:=by exact KT B k _ A1) ?_;refine A2 17 V (AO Y)<|A2 20 V (AO Y)<|A2 21 V (MX (n:=10) Y Y A1)<|Zz (l:=[6,18])<|B1 [true,true] [(15,(_,_)),(4,(_,_))] V rfl (Aj (vs:=[_,_]) (cs:=[_,_]) D0 A5 H3 Y V rfl V rfl V) ?_ (fun _ _ h=>h.elim) ?_
  ·
   rintro _ _ ⟨W,rfl,rfl⟩;refine B5<|Zz (l:=[7,18])<|B1 [true,true] [(15,(_,_)),(4,(_,_))] V rfl (Zu [_,_] Y cH Y V (IU _ [7,18] _ _ _ _ AW AW)) ?_ (fun _ _ h=>h.elim) ?_
   ·
    rintro _ _ ⟨rfl,rfl⟩;refine B5<|A2 10 V (FP Y Y)<|A2 11 V (Dc Y Y)<|A2 16 V (Dc Y Y)<|Zz (l:=[18])<|B1 [true,true] [(15,(_,_)),(4,(_,_))] V rfl (Aj (vs:=[_,_]) (cs:=[_,_]) D0 A5 H3 Y V rfl V rfl V) ?_ (fun _ _ h=>h.elim) Ai;rintro _ _ ⟨X,rfl,rfl⟩;refine B5<|Yz 19 393440 4194303 [15,4] [true,true] [(15,(_,_)),(4,(_,_))] V Y V rfl V rfl (Zu [_,_] Y cH Y V (IU _ [17,19] _ _ _ _ AW AW))<|CT<|B5<|A2 22 rfl (FP Y Y)<|A2 23 rfl (Dc Y Y)<|A2 24 rfl (BH To Fc Y Y (by first|omega|(rw [GP,Cc _ (by rw [CV];omega)];omega)))<|Yw 25 67108863 rfl (Zs Fc Y Y rfl (hc:=by exact JR B k (Z4 (FY B k) k) A1 (RY B k A1)) (hi:=by(rw [GP,Cc _ (by rw [CV];omega)];omega)))<|CT<|Ah<|Zn [2,4] ?_;refine A8<|Zx<|Zg<|Zm Y<|Ya (n:=1) Y Y<|AG Y<|Zn [4,2] ?_;refine Ab (e':=[(4,_)]) (by exact ⟨k+1,V,by omega,V,V⟩)
   refine B1 [true,true] [(15,(_,_)),(4,(_,_))] V rfl (Aj (vs:=[_,_]) (cs:=[_,_]) D0 A5 H3 Y V rfl V rfl V) ?_ (fun _ _ h=>h.elim) Ai;rintro _ _ ⟨Z,rfl,rfl⟩;refine B5<|Yz 7 96 3601407 [15,4] [true,true] [(15,(_,_)),(4,(_,_))] V Y V rfl V rfl (Zu [_,_] Y cH Y V (IU _ [7,18] _ _ _ _ AW AW))<|CT<|B5<|A2 10 V (FP Y Y)<|A2 11 V (Dc Y Y)<|A2 16 V (Dc Y Y)<|Zz (l:=[19])<|B1 [true,true] [(15,(_,_)),(4,(_,_))] V rfl (Zu [_,_] Y cH Y V (IU _ [17,19] _ _ _ _ AW AW)) ?_ (fun _ _ h=>h.elim) Ai;rintro _ _ ⟨rfl,rfl⟩;refine B5<|A2 22 rfl (FP Y Y)<|A2 23 rfl (Dc Y Y)<|A2 24 rfl (BH To Fc Y Y (by first|omega|(rw [GP,Cc _ (by rw [CV];omega)];omega)))<|Yw 25 67108863 rfl (Zs Fc Y Y rfl (hc:=by exact JR B k (Z4 (FY B k) k) A1 (RY B k A1)) (hi:=by(rw [GP,Cc _ (by rw [CV];omega)];omega)))<|CT<|Ah<|Zn [2,4] ?_;refine A8<|Zx<|Zg<|Zm Y<|Ya (n:=1) Y Y<|AG Y<|Zn [4,2] ?_;refine Ab (e':=[(4,_)]) (by exact ⟨k+1,V,by omega,V,V⟩)
  refine B1 [true,true] [(15,(_,_)),(4,(_,_))] V rfl (Aj (vs:=[_,_]) (cs:=[_,_]) D0 A5 H3 Y V rfl V rfl V) ?_ (fun _ _ h=>h.elim) Ai;rintro _ _ ⟨b5,rfl,rfl⟩;refine B5<|Yz 6 0 3601279 [15,4] [true,true] [(15,(_,_)),(4,(_,_))] V Y V rfl V rfl (Aj (vs:=[_,_]) (cs:=[_,_]) D0 A5 H3 Y V rfl V rfl V)<|AD fun b6=>B5<|Yz 7 96 3601407 [15,4] [true,true] [(15,(_,_)),(4,(_,_))] V Y V rfl V rfl (Zu [_,_] Y cH Y V (IU _ [7,18] _ _ _ _ AW AW))<|CT<|B5<|A2 10 V (FP Y Y)<|A2 11 V (Dc Y Y)<|A2 16 V (Dc Y Y)<|Zz (l:=[19])<|B1 [true,true] [(15,(_,_)),(4,(_,_))] V rfl (Zu [_,_] Y cH Y V (IU _ [17,19] _ _ _ _ AW AW)) ?_ (fun _ _ h=>h.elim) Ai;rintro _ _ ⟨rfl,rfl⟩;refine B5<|A2 22 rfl (FP Y Y)<|A2 23 rfl (Dc Y Y)<|A2 24 rfl (BH To Fc Y Y (by first|omega|(rw [GP,Cc _ (by rw [CV];omega)];omega)))<|Yw 25 67108863 rfl (Zs Fc Y Y rfl (hc:=by exact JR B k (Z4 (FY B k) k) A1 (RY B k A1)) (hi:=by(rw [GP,Cc _ (by rw [CV];omega)];omega)))<|CT<|Ah<|Zn [2,4] ?_;refine A8<|Zx<|Zg<|Zm Y<|Ya (n:=1) Y Y<|AG Y<|Zn [4,2] ?_;refine Ab (e':=[(4,_)]) (by exact ⟨k+1,V,by omega,V,V⟩)
 refine Ay<|Zt<|Zt<|AR<|Zx<|A0<|Zo Wh (AA isAgg431 sizeOf431 Y (by(rw [GP,Cc _ (by rw [CV];omega)];omega)) (by exact IX _ _ (by rw [GP,Cc _ (by rw [CV];omega)]))) ?_;refine Xe (BK sizeOf431 Y Y (by exact bQ _) Wu (by exact qW _) (by rw [GP,Cc _ (by rw [CV];omega)]) (by(rw [GP,Cc _ (by rw [CV];omega)];omega)) (by exact BA _)) ?_;refine A4<|AJ<|Cw rfl results333 Y Wh (Ak isAgg431 sizeOf431 (by(rw [GP,Cc _ (by rw [CV];omega)];omega)) (IX _ _ (by rw [GP,Cc _ (by rw [CV];omega)]))) (by
  have e:k=64:=by omega
  exact ⟨by rw [e,Y0 _ (CV _ _)];rfl,rfl⟩)
def v8c(v:V8):Array Value:=#[Ct v.a,Ct v.b,Ct v.c,Ct v.d,Ct v.e,Ct v.f,Ct v.g,Ct v.h]
theorem o6(v:V8):v8c v=(v.list.map Ct).toArray:=rfl
theorem rB(k:Nat)(h:k<64):(Eo.map Ct).toArray[k*1]?=some (Ct (Eo.getD k 0)):=by rw [Mn];exact XP Ct Eo k 0 (by rw [rY];exact h)
def Vq(x y:V8)(i:Nat):List UInt32:=(xy x y).list.take i++x.list.drop i
theorem Mf(x y:V8)(i:Nat)(h:i<=8):(Vq x y i).length=8:=by
 have:(xy x y).list.length=8:=rfl;have h2:x.list.length=8:=rfl
 simp [Vq,this,h2];omega
theorem mI(x y:V8)(i:Nat)(h:i<8):((Vq x y i).map Ct).toArray[i]?=some (Ct (x.list.getD i 0)):=by
 have:i=0\/i=1\/i=2\/i=3\/i=4\/i=5\/i=6\/i=7:=by omega
 rcases this with rfl|rfl|rfl|rfl|rfl|rfl|rfl|rfl<;>rfl
theorem oC(y:V8)(i:Nat)(h:i<8):(v8c y)[i]?=some (Ct (y.list.getD i 0)):=by
 have:i=0\/i=1\/i=2\/i=3\/i=4\/i=5\/i=6\/i=7:=by omega
 rcases this with rfl|rfl|rfl|rfl|rfl|rfl|rfl|rfl<;>rfl
theorem mH(x y:V8)(i:Nat)(h:i<8):((Vq x y i).map Ct).toArray.setIfInBounds i (.int .u32 ((x.list.getD i 0+y.list.getD i 0).toNat:Int))=((Vq x y (i+1)).map Ct).toArray:=by
 have:i=0\/i=1\/i=2\/i=3\/i=4\/i=5\/i=6\/i=7:=by omega
 rcases this with rfl|rfl|rfl|rfl|rfl|rfl|rfl|rfl<;>rfl
theorem bX(x:V8)(k:Nat)(m:List UInt32)(v:V8)(B:x=La m v k):
 ((#[Ct x.a,Ct x.a,Ct x.b,Ct x.c,Ct x.d,Ct x.e,Ct x.f,Ct x.g]:Array Value).setIfInBounds 0 (.int .u32 ((Gw.D9 x (Eo.getD k 0) (m.getD k 0)+yC x).toNat:Int))).setIfInBounds 4 (.int .u32 ((x.d+Gw.D9 x (Eo.getD k 0) (m.getD k 0)).toNat:Int))=v8c (La m v (k+1)):=by
 subst B;rfl
theorem jm(g:List UInt8):(iP g).length=64:=CV g 64
theorem oq(g:List UInt32)(h:g.length=64):((g.map Ct).toArray).size=64:=by rw [GP,B2,h]
theorem ou(g:List UInt32)(h:g.length=64):EJ (Eg []).toArray 0 ((g.map Ct).toArray).toList=(g.map Ct).toArray:=
 Yq (Eg []).toArray (g.map Ct) (by rw [B2,h];rfl)
theorem vM:0+64<=((Eg []).toArray).size:=by rw [GP,Cc _ (C0 _)];exact CD _
theorem iE(v:V8):∀x∈(v8c v).toList,x.oneCell'=true:=by
 intro x g;rw [o6]at g;simp only [Bk]at g;obtain ⟨y,_,rfl⟩:=g;rfl
theorem oH(l:List UInt32):∀x∈(l.map Ct).toArray.toList,x.oneCell'=true:=by
 intro x g;simp only [Bk]at g;obtain ⟨y,_,rfl⟩:=g;rfl
theorem uk(K g o cap:Nat)(c:Array Value)(T:TypeId)(z:Nat×Nat)(I:List UInt8)(hb:I.length=64)(hc:Mm c o I)(O Tg:TypeId)(zg:Nat×Nat)(v:V8):
 BZ prog 305 #[I5 K,.slice (some ⟨g,o,none⟩) 64 cap] [[(K,.cells (v8c v) O (0,0))],[(g,.cells c T z)],[(4,.cells (Eo.map Ct).toArray Tg zg)]]
  (fun r H'=>r= .tuple #[]/\H'=[[(K,.cells (v8c (Xi v I)) O (0,0))],[(g,.cells c T z)],[(4,.cells (Eo.map Ct).toArray Tg zg)]]):=by
 refine KX func305 V ntmps305 V ?_;intro u R;obtain ⟨B,G⟩:∃B,B=iP I:=⟨_,rfl⟩;have hw:B.length=64:=by rw [G];exact jm I
 have J:=dC g o cap c T z I hb hc;rw [<-G]at J;have U:Xi v I=xy v (La B v 64):=by rw [G];rfl
 clear G;rw [U];refine Zb [0,1] ?_;refine A0<|Zm Y<|Xr [_] Y call333 Y V (J) ?_;refine Ze (EW zeroValue431 (cs:=(Eg []).toArray) A6)<|AD fun bw=>Xe (BK sizeOf431 Y Y (by exact oH _) Wu (by exact ou B hw) (by exact oq B hw) (by exact vM) (by exact BA _)) ?_;refine A4<|A0<|Zm Y<|Zp Y V<|Zo Wh (AA (cs:=v8c v) isAgg406 sizeOf406 Y Wn AN) ?_;refine Ze (Al zeroValue406 #[_,_,_,_,_,_,_,_])<|AD fun bv=>Xe (BK sizeOf406 Y Y (by exact iE v) Wu (by exact (rfl:_=v8c (La B v 0))) E3 Wn (by exact BA _)) ?_;refine A4<|Zq<|A0<|Zo Wh (AA (cs:=(Eo.map Ct).toArray) isAgg431 sizeOf431 Y (by exact CD _) (by exact IX _ _ V)) ?_;refine Zm Y<|A4<|AQ<|Zb [19,0,4,5,18] ?_;refine BB (e0:=[(19,_)]) (fun m e H=>∃k:Nat,m=64 -k/\(k<=64)/\e=[(19,I4 (k:Int))]/\H=[[(bv,.cells (v8c (La B v k)) 406 (0,0))]]) (by exact ⟨0,V,C0 _,V,V⟩) Wp ?_;rintro _ _ _ ⟨k,rfl,hk,rfl,rfl⟩;obtain ⟨x,Z⟩:∃x,x=La B v k:=⟨_,rfl⟩;rw [<-Z];refine A0<|Zv (Av (n:=64) Y Y)<|A4<|Zq<|Au Y (fun W=>?_) (fun W=>?_)
 ·
  refine AC<|Zx<|Zq<|AQ<|A0<|Zm Y<|Zv (Qg To HR Fc Y Y A1 (by exact rB k A1))<|Za Y<|A3 Y<|Zq<|Az (n:=6) (0::1::0::4::3::31::[]) 0 A6 A6 V<|A2 0 V (BH (j:=0) Kx Fc Y Y A1)<|B3 1 V HR Y ?_;refine A2 2 V (BH (j:=4) Kx Fc Y Y A1)<|B3 3 V HR Y ?_;refine A2 4 V (Aw Y)<|A2 5 V (Aw Y)<|Ah<|Zx<|Zq<|Az (n:=24) (0::1::0::0::12::31::0::0::128::448::0::1024::0::4096::15360::32704::65535::0::262143::0::524288::1572864::4194303::8388607::[]) 24 A6 A6 V<|A2 0 V (BH (j:=7) Kx Fc Y Y A1)<|B3 1 V HR Y ?_;refine A2 2 V (AO Y)<|A2 6 V (AO Y)<|A2 7 V (BH (j:=5) Kx Fc Y Y A1)<|B3 8 V HR Y ?_;refine A2 9 V (KC Y Y)<|A2 10 V (AO Y)<|A2 11 V (kZ Y)<|A2 12 V (BH (j:=6) Kx Fc Y Y A1)<|B3 13 V HR Y ?_;refine A2 14 V (KC Y Y)<|A2 15 V (FP Y Y)<|A2 17 V (AO Y)<|A2 19 V (AO Y)<|A2 20 V (BH To Fc Y Y A1)<|B3 21 V HR Y (hv:=by exact XP Ct B k 0 A1) ?_;refine Yz 3 0 3866575 [21,13,8,1] [true,true,true,true] [(21,(_,_)),(13,(_,_)),(8,(_,_)),(1,(_,_))] V Y V rfl V rfl (Aj (vs:=[_,_,_]) (cs:=[_,_,_]) D0 A5 H3 Y V rfl V rfl V)<|AD fun b3=>B5<|Yz 4 12 3866591 [21,13,8,1] [true,true,true,true] [(21,(_,_)),(13,(_,_)),(8,(_,_)),(1,(_,_))] V Y V rfl V rfl (Zu [_,_] Y cH Y V (IU _ [6,11,25] _ _ _ _ AW AW))<|CT<|B5<|A2 5 V (Dc Y Y)<|A2 16 V (Dc Y Y)<|A2 18 V (Dc Y Y)<|A2 22 V (Dc Y Y)<|A2 23 V (Aw Y)<|Ah<|Zn [0,4,5,8,10,18,19] ?_;refine Zx<|Zq<|Az (n:=20) (0::0::3::0::0::16::56::0::0::256::896::2040::0::4096::0::16384::61440::131064::262143::524287::[]) 6 A6 A6 V<|A2 0 V (AO Y)<|A2 3 V (AO Y)<|A2 4 V (BH (j:=1) Kx Fc Y Y A1)<|B3 5 V HR Y ?_;refine A2 6 V (KC Y Y)<|A2 7 V (AO Y)<|A2 8 V (BH (j:=2) Kx Fc Y Y A1)<|B3 9 V HR Y ?_;refine A2 10 V (KC Y Y)<|A2 11 V (FP Y Y)<|A2 12 V (BH (j:=1) Kx Fc Y Y A1)<|B3 13 V HR Y ?_;refine A2 14 V (BH (j:=2) Kx Fc Y Y A1)<|B3 15 V HR Y ?_
  refine A2 16 V (KC Y Y)<|A2 17 V (FP Y Y)<|Zz (l:=[1])<|B1 [true,true,true,true] [(15,(_,_)),(13,(_,_)),(9,(_,_)),(5,(_,_))] V rfl (Aj (vs:=[_,_,_]) (cs:=[_,_,_]) D0 A5 H3 Y V rfl V rfl V) ?_ (fun _ _ h=>h.elim) Ai;rintro _ _ ⟨b4,rfl,rfl⟩;refine B5<|Yz 2 3 262143 [15,13,9,5] [true,true,true,true] [(15,(_,_)),(13,(_,_)),(9,(_,_)),(5,(_,_))] V Y V rfl V rfl (Zu [_,_] Y cH Y V (IU _ [2,13,22] _ _ _ _ AW AW))<|CT<|B5<|A2 18 V (Dc Y Y)<|A2 19 V (Aw Y)<|Ah<|Zn [0,4,5,10,11,18,19] ?_;refine Zx<|Zq<|Az (n:=3) (0::0::3::[]) 4 A6 A6 V<|A2 0 V (Q5 (l:=1) Kx Fc Y Y A1)<|A2 1 V (Sy (h:=7) Kx Fc Y Y A1)<|Yw 2 7 V (yU (cs:=[_,_,_,_,_,_,_]) (c':=#[_,_,_,_,_,_,_,_]) underlying434 Fc Y Y Wh Wu AN AN AN (by exact CD 8) (BA _) (by simp [Value.oneCell',Ct]))<|CT<|Ah<|Zx<|Zg<|Zm Y<|Zm Y<|Zv (Dc Y Y)<|BX (BH (j:=4) Kx Fc Y Y A1)<|Zl HR Y ?_;refine Zm Y<|Zv (Dc Y Y)<|BX (BH (j:=0) Kx Fc Y Y A1)<|Xe (Zs Fc Y Y V) ?_;refine BX (BH (j:=4) Kx Fc Y Y A1)<|Xe (Zs Fc Y Y V (hc:=by exact (bX x k B v Z))) ?_;refine Z0<|Zn [0,4,5,18,19] ?_;refine A8<|Zx<|Zg<|Ya (n:=1) Y Y<|Zm Y<|Z0<|Zn [19,0,4,5,18] ?_;refine Ab (e':=[(19,_)]) (by exact ⟨k+1,V,by omega,V,V⟩)
 refine Ay<|Zt<|Zt<|AR<|Zx<|A0<|Zm Y<|A4<|AQ ?_;have ek:k=64:=by omega
 subst ek;refine Zb [82,0,5] ?_;refine BB (e0:=[(82,_)]) (fun m e H=>∃i:Nat,m=8 -i/\(i<=8)/\e=[(82,I4 (i:Int))]/\H=[[(K,.cells ((Vq v x i).map Ct).toArray O (0,0))]]) (by exact ⟨0,V,C0 _,V,V⟩) Wp ?_;rintro _ _ _ ⟨i,rfl,hi,rfl,rfl⟩;refine A0<|Zv (Av (n:=8) Y Y)<|A4<|Zq<|Au Y (fun X=>?_) (fun X=>?_)
 ·
  refine AC<|Zx<|Zq<|AQ<|A0<|Zm Y<|A3 Y<|Az (n:=12) (0::0::1::7::15::0::32::96::255::1::1023::2047::[]) 2048 A6 A6 rfl<|A2 0 rfl (AO Y)<|A2 1 rfl (AO Y)<|A2 2 rfl (Aq Y rfl)<|A2 3 rfl (BH Kx Fc Y Y (by first|omega|(rw [GP,B2,Mf _ _ _ A1];omega)))<|B3 4 rfl HR Y (hv:=by exact mI _ _ i A1) ?_;refine A2 5 rfl (AO Y)<|A2 6 rfl (BH Kx Fc Y Y (by first|omega|(rw [GP,B2,Mf _ _ _ A1];omega)))<|B3 7 rfl HR Y (hv:=by exact oC _ i A1) ?_;refine A2 8 rfl (Dc Y Y)<|A2 9 rfl (Aq Y rfl)<|A2 10 rfl (BH Kx Fc Y Y (by first|omega|(rw [GP,B2,Mf _ _ _ A1];omega)))<|Yw 11 4095 rfl (Zs Fc Y Y rfl (hc:=by exact mH _ _ i A1) (hi:=by(rw [GP,B2,Mf _ _ _ A1];omega)))<|CT<|Ah<|Zn [0,5,82] ?_;refine A8<|Zx<|Zg<|Ya (n:=1) Y Y<|Zm Y<|Z0<|Zn [82,0,5] ?_;refine Ab (e':=[(82,_)]) (by exact ⟨i+1,V,by omega,V,V⟩)
 have ei:i=8:=by omega
 subst ei;rw [<-Z];refine Ay<|Zt<|Zt<|AR<|Cz V results305 (by exact ⟨V,V⟩)
def Sv(N:Nat)(l:List UInt8):Array Value:=(l.map u8v++List.replicate (N -l.length) (Value.int .u8 0)).toArray
theorem qJ(N:Nat)(l:List UInt8)(x:UInt8)(k:Nat)(g:k=l.length)(h:l.length<N):(Sv N l).setIfInBounds k (.int .u8 (x.toNat:Int))=Sv N (l++[x]):=by
 subst g;unfold Sv;rw [mN];congr 1;rw [j7 _ _ B0];simp only [B2,Tl,B7,DH,J1];obtain ⟨n,m⟩:∃n,N -l.length=n+1:=⟨N -1 -l.length,by omega⟩;rw [m,show N -(l.length+(0+1))=n by omega];simp [List.replicate_succ,u8v]
theorem VZ(N:Nat)(l:List UInt8)(h:l.length<=N):(Sv N l).size=N:=by simp [Sv];omega
theorem kW(N:Nat)(l:List UInt8)(h:l.length=N):(Sv N l).toList=l.map u8v:=by simp [Sv,h]
def R4(v:V8)(i k:Nat):List UInt8:=(v.list.take i).flatMap Ol++(Ol (v.list.getD i 0)).take k
theorem Oj(v:V8)(i k:Nat)(hi:i<8)(g:k<=4):(R4 v i k).length=4*i+k:=by
 have:i=0\/i=1\/i=2\/i=3\/i=4\/i=5\/i=6\/i=7:=by omega
 rcases this with rfl|rfl|rfl|rfl|rfl|rfl|rfl|rfl<;>simp [R4,V8.list,Ol]<;>omega
theorem ko(v:V8)(i:Nat)(hi:i<8):R4 v (i+1) 0=R4 v i 4:=by
 have:i=0\/i=1\/i=2\/i=3\/i=4\/i=5\/i=6\/i=7:=by omega
 rcases this with rfl|rfl|rfl|rfl|rfl|rfl|rfl|rfl<;>rfl
theorem kg(v:V8)(i k:Nat)(g:k<4):R4 v i (k+1)=R4 v i k++[((v.list.getD i 0)>>>UInt32.ofNat (24 -8*k)).toUInt8]:=by
 have:k=0\/k=1\/k=2\/k=3:=by omega
 unfold R4;generalize v.list.getD i 0=x;rcases this with rfl|rfl|rfl|rfl
 · simp [Ol]
 · simp [Ol]
 · simp [Ol]
 · have e:x>>>UInt32.ofNat (24 -8*3)=x:=by
    apply UInt32.toNat_inj.1;simp [UInt32.toNat_shiftRight]
   rw [e];simp [Ol]
theorem ig(v:V8):R4 v 8 0=qX v:=rfl
theorem o7(y:V8)(i:Nat)(h:i<8):(v8c y)[i*1]?=some (Ct (y.list.getD i 0)):=by rw [Mn];exact oC y i h
theorem aX(v:V8):BI prog 306 #[.agg (v8c v)] [] (.string (str (qX v))):=by
 refine Se func306 ntmps306 [0] ?_;intro u R;refine A0<|Ze (Ep Y (cs:=(v8c v)) A6)<|AD fun K=>A3 Y<|A0<|Ze (EW zeroValue426 (cs:=(Sv 32 [])) A6)<|AD fun G=>A4<|Zq<|A0<|Zo Wh (AA (cs:=v8c v) isAgg406 sizeOf406 Y (by exact CD _) (by exact IX _ _ V)) ?_;refine Zm Y<|A4<|AQ<|Zb [8,3,7] ?_;refine BB (e0:=[(8,_)]) (fun m e H=>∃i:Nat,m=8 -i/\(i<=8)/\e=[(8,I4 (i:Int))]/\H=[[(G,.cells (Sv 32 (R4 v i 0)) 426 (0,0))]]) (by exact ⟨0,V,C0 _,V,V⟩) Wp ?_;rintro _ _ _ ⟨i,rfl,hi,rfl,rfl⟩;refine A0<|Zv (Av (n:=8) Y Y)<|A4<|Zq<|Au Y (fun g=>?_) (fun g=>?_)
 ·
  refine AC<|Zx<|Zq<|AQ<|A0<|Zm Y<|Zv (Qg Kx HR Fc Y Y A1 (by exact o7 v i A1))<|Za Y<|A3 Y<|A0<|Zm Y<|A4<|AQ<|Zb [12,3,4,5,7,8] ?_;refine BB (e0:=[(12,_)]) (fun m e H=>∃k:Nat,m=4 -k/\(k<=4)/\e=[(12,I4 (k:Int))]/\H=[[(G,.cells (Sv 32 (R4 v i k)) 426 (0,0))]]) (by exact ⟨0,V,C0 _,V,V⟩) Wp ?_;rintro _ _ _ ⟨k,rfl,O,rfl,rfl⟩;refine A0<|Zv (Av (n:=4) Y Y)<|A4<|Zq<|Au Y (fun B=>?_) (fun B=>?_)
  ·
   refine AC<|Zx<|Zq<|AQ<|A0<|Zm Y<|A3 Y<|Zg<|Zm Y<|BX (Ez (m:=4) Y Y A1)<|Zm Y<|Ya Y Y<|Zm Y<|Zm Y<|BX (Ez (m:=8) Y Y A1)<|Yb (m:=24) Y Y ?_;refine BX (MX Y Y A1)<|Zv (UX Sp Lq Y)<|BX (BH underlying426 I2 Y Y (by first|omega|(rw [VZ _ _ (by rw [Oj _ _ _ A1 A1];omega)];omega)))<|Xe (Zs I2 Y Y rfl (hc:=by exact (qJ 32 (R4 v i k) _ _ (by rw [Oj _ _ _ A1 A1]) (by rw [Oj _ _ _ A1 A1];omega)).trans (congrArg (Sv 32) (kg v i k A1).symm)) (hi:=by(rw [VZ _ _ (by rw [Oj _ _ _ A1 A1];omega)];omega))) ?_;refine Z0<|Zn [3,4,5,7,8,12] ?_;refine A8<|Zx<|Zg<|Ya (n:=1) Y Y<|Zm Y<|Z0<|Zn [12,3,4,5,7,8] ?_;refine Ab (e':=[(12,_)]) (by exact ⟨k+1,V,by omega,V,V⟩)
  have J:k=4:=by omega
  subst J;refine Ay<|Zt<|Zt<|AR<|A8<|Zx<|Zg<|Ya (n:=1) Y Y<|Zm Y<|Z0<|Zn [8,3,7] ?_;refine Ab (e':=[(8,_)]) (by exact ⟨i+1,rfl,by omega,rfl,by rw [ko v i A1]⟩)
 have I:i=8:=by omega
 subst I;refine Ay<|Zt<|Zt<|AR<|Zx<|A0<|Zv (Ie underlying426 I2 Y)<|Zo Wh (KA HD Lq GF Y (by exact ⟨(by rw [kW 32 (R4 v 8 0) (by rw [ig];rfl)];exact Hv (by rw [Pr,B2,ig];exact CD 32)),rfl⟩)) ?_;refine A3 Y<|AJ<|AP V results306 Y (by exact ⟨V,V⟩)
def QN(g j:Nat):Value:= .slice (some ⟨g,64*j,none⟩) 64 64
theorem uJ(g k M:Nat)(h:k<M):Value.slice (some ⟨g,0+64*k*1,none⟩) (64*k+min 64 (64*M -64*k) -64*k) (64*k+min 64 (64*M -64*k) -64*k)=QN g k:=by
 have m:64*k+min 64 (64*M -64*k) -64*k=64:=by omega
 have h2:0+64*k*1=64*k:=by omega
 rw [m,h2];rfl
theorem YS(M k:Nat)(h:k<M):List.range M=List.range k++k::(List.range' (k+1) (M -k -1)):=by
 rw [mx,mx,<-nf];rw [show M -k -1+1=M -k by omega];have:=List.range'_append_1 (s:=0) (m:=k) (n:=M -k)
 rw [show 0+k=k by omega,show k+(M -k)=M by omega]at this;exact this.symm
theorem gM(g cap M:Nat)(U O:Nat)(hM:64*M<=cap)(hc:cap<=maxLen):
 UG prog 332 #[I5 U,I5 O] [[(U,.cells #[I6 g (64*M) cap] 97 (0,0))],[(O,.cells #[I4 64] 3 (0,0))]] (fun j=>#[QN g j]) (List.range M):=by
 have Z:=mL;intro l J hy s G;refine Se func332 ntmps332 [0,1,2] ?_;intro u R;refine A0<|A3 Y<|AQ<|Zb [4,0,1,2] ?_;refine BB (e0:=[(4,_)]) (fun m e H=>∃(k:Nat) (s:List A9),m=M -k/\(k<=M/\J (List.range k) s)/\e=[(4,I4 ((64*k:Nat):Int))]/\H=[s]) (by exact ⟨0,s,V,⟨C0 _,G⟩,V,V⟩) Wp ?_;rintro _ _ _ ⟨k,s,rfl,⟨hk,G⟩,rfl,rfl⟩;refine Zq<|A0<|Zm Y<|Zl S7 Y ?_;refine Zv (Aa HD Y)<|Zv (Av Y Y)<|A4<|Au Y (fun K=>?_) (fun K=>?_)
 ·
  refine AC<|Zx<|Zq<|AQ<|Zq<|Az (n:=7) (0::0::0::6::14::31::63::[]) 0 A6 A6 V<|B3 0 V AE Y ?_;refine B3 1 V S7 Y ?_;refine A2 2 V (AO Y)<|A2 3 V (CB HD I2 Y Y A1)<|A2 4 V (Aa HD Y)<|A2 5 V (Q8 Y Y)<|A2 6 V (Aw Y)<|Ah<|Zx<|Zq ?_;have B:=hy (List.range k) k _ s (YS M k A1) G
  rw [<-gh]at B;rw [show(fun j=>#[QN g j]) k=#[QN g k] from rfl,<-uJ g k M A1]at B;refine Zg<|Zm Y<|Zl S7 Y ?_;refine Zm Y<|Zm Y<|Zm Y<|Ya Y Y<|Zm Y<|Zm Y<|Ya Y Y ?_
  (refine BX (Sw HD I2 Y Y Y Y ?_ ?_) ?_;(focus ((simp only [Nat.min_def];split<;>omega)));(focus (omega)))
  refine Ze (GR (vs:=[_]) Y Y (B) Wp) ?_;rintro _ _ ⟨_,⟨s',rfl,rfl,I⟩,rfl⟩;refine Zv (Bo Y)<|Z0<|Zn [0,1,2,4,30] ?_;refine Zx<|AX Y (fun W=>by cases W)<|fun W=>AC<|A8<|Zx<|Zg<|Zm Y<|Zl AE Y ?_;refine Yi Y Y<|AG Y<|Zn [4,0,1,2] ?_;refine Ab (e':=[(4,_)]) (by exact ⟨k+1,s',V,⟨by omega,I⟩,V,V⟩)
 have X:k=M:=by omega
 subst X;refine Ay<|Zt<|Zt<|AR<|Cz V results332 (by exact ⟨s,V,G⟩)
theorem gL(p:Option Addr)(n cap:Nat):BZ prog 304 #[.slice p n cap,I4 64] [] (fun r H'=>∃B m,r= .func (.func 332) #[] #[I5 B,I5 m]/\H'=[[(B,.cells #[.slice p n cap] 97 (0,0))],[(m,.cells #[I4 64] 3 (0,0))]]):=by
 refine Se func304 ntmps304 [0,1] ?_;intro u R;refine A0<|Ze (Bx #[_])<|AD fun G=>Ze (Bx #[_])<|AD fun I=>A3 Y<|Zq<|A0<|Zl AE Y ?_;refine Zv (Av (n:=1) Y Y)<|A4<|Au Y (fun g=>?_) (fun g=>?_)
 ·
  exact absurd g AW
 refine AC<|Zx<|A0<|Zv (Bg (vs:=[]) (us:=[_,_]) Y Y)<|A3 Y<|AJ<|AP V results304 Y (by exact ⟨G,I,V,V⟩)
theorem Qt:∀(n:Nat) (h:V8) (b:List UInt8),JI (n+1) h b=Xi (JI n h b) ((b.drop (64*n)).take 64)
 |0,h,b=>by simp [JI]
 |n+1,h,b=>by
  rw [JI,Qt n,JI,Ys];rw [show 64+64*n=64*(n+1) by omega]
def R3(l:List UInt8)(k:Nat):List UInt8:=l++[128]++List.replicate k 0
theorem Lg(l:List UInt8)(k:Nat):(R3 l k).length=l.length+1+k:=by simp [R3];omega
theorem kT(l:List UInt8)(k:Nat):(R3 l k).map u8v++[.int .u8 0]=(R3 l (k+1)).map u8v:=by
 unfold R3;rw [List.replicate_succ'];simp [u8v]
def UR(l:List UInt8)(j:Nat):List UInt8:=R3 l (LB l.length)++(R5 l.length).take j
theorem kU(l:List UInt8):UR l 0=R3 l (LB l.length):=by simp [UR]
theorem VY(l:List UInt8):UR l 8=Gq l:=by
 have:(R5 l.length).take 8=R5 l.length:=Hv (by simp [R5]);simp [UR,R3,Gq,this]
theorem rT(n j:Nat)(h:j<8):(R5 n).take (j+1)=(R5 n).take j++[UInt8.ofNat (8*n/2^(8*(7 -j)))]:=by
 rw [mC (by simp [R5];omega)];simp [R5]
theorem kV(l:List UInt8)(j q:Nat)(h:q+j=7):(UR l j).map u8v++[.int .u8 ((UInt8.ofNat (8*l.length/2^(8*q))).toNat:Int)]=(UR l (j+1)).map u8v:=by
 unfold UR;rw [rT _ _ A1,show 7 -j=q by omega];simp [u8v]
theorem Yn(l:List UInt8)(j:Nat)(h:j<=8):(UR l j).length=l.length+1+LB l.length+j:=by
 have:(R5 l.length).length=8:=by simp [R5]
 simp [UR,Lg,this];omega
theorem wV(m:Nat):IntKind.u8.wrap (m:Int)=((UInt8.ofNat m).toNat:Int):=by
 rw [IntKind.wrap_u8',UInt8.toNat_ofNat'];omega
theorem vF(n k:Nat)(g:k<=LB n)(h:(n+1+k)%64≠56):k<LB n:=by
 have:=iB n;rcases Dg k (LB n)with h1|h1
 · exact h1
 · have:k=LB n:=by omega
   subst this;contradiction
theorem vG(n k:Nat)(g:k<=LB n)(h:(n+1+k)%64=56):k=LB n:=by
 unfold LB at g⊢;omega
theorem kG{M x:Nat}{pre g:List Nat}(h:List.range M=pre++x::g):x=pre.length/\x<M:=by
 have m:(List.range M)[pre.length]?=some x:=by rw [h];simp
 have B:pre.length<M:=by
  have:=(B9.1 m).1;simpa using this
 rw [X2 B]at m;have:=Pc m
 omega
theorem aj{cur:Array Value}{p:List UInt8}(h:cur.toList.take (p.map u8v).length=p.map u8v)(k:Nat)(m:64*k+64<=p.length):Mm cur (64*k) ((p.drop (64*k)).take 64):=by
 unfold Mm;have g:((p.drop (64*k)).take 64).length=64:=by simp;omega
 rw [g,List.map_take,gn,<-h];rw [eJ,TX];congr 1;simp;omega
theorem vZ(l:List UInt8)(M:Nat)(h:(Gq l).length=64*M):sha l=qX (JI M h0 (Gq l)):=by
 unfold sha;rw [h,Nat.mul_div_cancel_left _ A1]
theorem oI(s:ByteArray)(hs:s.size<=140737488355000)(Tg:TypeId)(zg:Nat×Nat):
 BI prog 278 #[.string s] [[(4,.cells (Eo.map Ct).toArray Tg zg)]] (.string (str (sha s.data.toList))):=by
 have l5:=mL;obtain ⟨l,U⟩:∃l,l=s.data.toList:=⟨_,rfl⟩;have J:l.length=s.size:=by rw [U];rfl
 have hz:LB s.size<64:=by unfold LB;omega
 refine DL func278 V ntmps278 V ?_;intro u R;refine Zb [0] ?_;refine A0<|A3 Y<|A0<|Zv (BL (vs:=[(0,_),(1,_),(2,_),(3,_),(4,_),(5,_),(6,_),(7,_)]) (cs:=#[_,_,_,_,_,_,_,_]) Y (DZ zeroValue406 Kx Fc V))<|Ze (Al zeroValue406 #[_,_,_,_,_,_,_,_])<|AD fun bh=>Xe (BK sizeOf406 Y Y (by exact iE h0) Wu (by exact (rfl:_=v8c (JI 0 h0 (Gq l)))) E3 Wn (by exact BA _)) ?_;refine A4<|A0<|Zm Y<|Ze (vO GF HD Lq Y A1) ?_;rintro _ _ ⟨sa,W,rfl⟩;obtain ⟨ga,ca,rfl⟩:=W.form;refine Ze (Aj (vs:=[_]) (cs:=[_]) HD I2 S5 Y V rfl V rfl V)<|AD fun b3=>Ze (EZ (by_:=1) (news:=[_]) HD (V:Tryz.prog.info? 5=some Tryz.t5) V rfl V rfl Y W Y Wo Wh AN V Fl AW (by(simp only [B2,<-U,J];omega)) (by(simp only [B2,<-U,J];omega))) ?_;rintro _ _ ⟨sb,X,rfl⟩;obtain ⟨gb,cb,rfl⟩:=X.form;refine A3 Y<|Zq<|AQ ?_;have gq:Row 5 (.slice gb (List.map u8v s.data.toList++[Value.int IntKind.u8 128]).length cb) ((R3 l 0).map u8v) sb:=by
  have e:(R3 l 0).map u8v=List.map u8v s.data.toList++[Value.int IntKind.u8 128]:=by rw [<-U];simp [R3,u8v]
  rw [e];exact X
 refine Zb [4,0,3] ?_;refine BB (e0:=[(4,_)]) (fun m e H=>∃(k:Nat) (v:Value) (K:List A9),m=LB s.size -k/\(k<=LB s.size/\Row 5 v ((R3 l k).map u8v) K)/\e=[(4,v)]/\H=[K]) (by exact ⟨0,_,_,V,⟨C0 _,gq⟩,V,V⟩) Wp ?_;rintro _ _ _ ⟨k,v,K,rfl,⟨hk,B⟩,rfl,rfl⟩;obtain ⟨gv,cv,rfl⟩:=B.form;refine Zq<|A0<|Zm Y<|Zv (Aa HD Y)<|BX (FQ (n:=64) Y Y A1)<|Zv (FR (n:=56) Y Y)<|A4<|Au Y (fun G=>?_) (fun G=>?_)
 ·
  rw [B2,Lg,J]at G;have cO:=vF _ _ hk G
  refine AC<|Zx<|AQ<|Zg<|Zm Y<|Ze (Aj (vs:=[_]) (cs:=[_]) HD I2 S5 Y V rfl V rfl V)<|AD fun b5=>Ze (EZ (by_:=1) (news:=[_]) HD (V:Tryz.prog.info? 5=some Tryz.t5) V rfl V rfl Y B Y Wo Wh AN V Fl AW (by(simp only [B2,Lg,J];omega)) (by(simp only [B2,Lg,J];omega))) ?_;rintro _ _ ⟨sc,Z,rfl⟩;obtain ⟨gc,cc,rfl⟩:=Z.form;refine AG Y<|A8<|Zn [4,0,3] ?_;refine Ab (e':=[(4,_)]) (by exact ⟨k+1,_,_,rfl,⟨cO,by rw [<-kT];exact Z⟩,rfl,rfl⟩)
 rw [B2,Lg,J]at G;have ek:=vG _ _ hk A1
 subst ek;refine Ay<|Zt<|Zt<|AR<|Zx<|Zq<|A0<|A3 Y<|AQ<|Zb [4,5,0,3] ?_;refine BB (e0:=[(4,_),(5,_)]) (fun m e H=>∃(j:Nat) (i:Int) (v:Value) (K:List A9),m=8 -j/\(j<=8/\i=7 -(j:Int)/\Row 5 v ((UR l j).map u8v) K)/\e=[(4,v),(5,I4 i)]/\H=[K]) (by exact ⟨0,_,_,_,rfl,⟨C0 _,rfl,by rw [kU,J];exact B⟩,rfl,rfl⟩) Wp ?_;rintro _ _ _ ⟨j,i,v,K,rfl,⟨hj,hi,B⟩,rfl,rfl⟩;obtain ⟨gv,cv,rfl⟩:=B.form;refine Zq<|A0<|Zm Y<|Zv (H9 Y Y)<|A4<|Au Y (fun O=>?_) (fun O=>?_)
 ·
  obtain ⟨q,rfl⟩:=Int.eq_ofNat_of_zero_le O;refine AC<|Zx<|Zq<|AQ<|Zg<|Zm Y<|Zm Y<|Zv (QA GF Y)<|BX (Ez (m:=8) Y Y A1)<|Zm Y<|BX (Ez (m:=8) Y Y A1)<|BX (Q6 Y Y (by first|decide|(simp [IntKind.bits];done)|(simp [IntKind.bits];omega)))<|Kh (En Cp Lq Y (wV _)) rfl rfl ?_;refine Ze (Aj (vs:=[_]) (cs:=[_]) HD I2 S5 Y V rfl V rfl V)<|AD fun b7=>Ze (EZ (by_:=1) (news:=[_]) HD (V:Tryz.prog.info? 5=some Tryz.t5) V rfl V rfl Y B Y Wo Wh AN V Fl AW (by(simp only [B2,Yn l j hj,J];omega)) (by(simp only [B2,Yn l j hj,J];omega))) ?_;rintro _ _ ⟨sd,af,rfl⟩;obtain ⟨gd,cd,rfl⟩:=af.form;refine AG Y<|Zn [0,3,4,5] ?_;refine A8<|Zx<|Zg<|Zm Y ?_
  (refine BX (GG Y Y (IntWalk.i64_in _ ?_)) ?_;(focus (omega)))
  refine AG Y<|Zn [4,5,0,3] ?_;refine Ab (e':=[(4,_),(5,_)]) (by exact ⟨j+1,_,_,_,rfl,⟨by omega,by omega,by rw [<-kV l j q A1,J];exact af⟩,rfl,rfl⟩)
 have ej:j=8:=by omega
 subst ej;refine Ay<|Zt<|Zt<|AR<|Zx<|Zq<|Zq ?_;rw [VY]at B;obtain ⟨M,hM⟩:∃M,(Gq l).length=64*M:=⟨(Gq l).length/64,by have:=eB l;omega⟩;have gm:=Su l
 rw [J]at gm;rw [VY];obtain ⟨g,cap,cur,z,hv,rfl,d9,cu,j5,gy,kv⟩:=B.some (by rw [B2];omega);simp only [Value.slice.injEq]at hv;obtain ⟨rfl,_,rfl⟩:=hv;rw [B2]at d9;rw [B2,hM];refine Zg<|Zm Y<|Zc [_,_] Y call304 Y V (gL _ _ _) ?_;rintro _ _ ⟨_,⟨bs,bn,rfl,rfl⟩,rfl⟩;refine A4<|AQ<|Zb [3,34] ?_;refine Qx (H0:=_) (R:=_) (I:=(fun pre H=>H=[[(bh,.cells (v8c (JI pre.length h0 (Gq l))) 406 (0,0))],[(g,.cells cur 5 z)],[(4,.cells (Eo.map Ct).toArray Tg zg)]])) (asg:=fun x=>[(6,QN g x),(35,QN g x)]) V Y call332 (gM g cv M bs bn A1 cu) Y V Wp (V) ?ha_6 ?hbd_6 ?hk_6
 case ha_6=>
  intro _ x _ _;refine Zg<|Za Y<|Z0 ?_;exact qf
 case hbd_6=>
  intro l pre x j3 u H1 R1 ic hI;subst hI;obtain ⟨gB,l8⟩:=kG ic;subst gB;refine AQ<|Zg<|Zm Y<|Zc [_,_] Y call305 Y rfl (uk _ _ _ _ _ _ _ _ (by rw [C1,C2];omega) (aj gy _ A1) _ _ _ _) ?_;rintro _ _ ⟨_,⟨rfl,rfl⟩,rfl⟩;refine Z0<|A8<|F3 rfl (by rw [B7,E7,Qt])
 intro D1 H2 ax;subst ax;refine Zn [3] ?_;refine A8<|Zx<|A0<|Zo Wh (AA (cs:=v8c (JI M h0 (Gq l))) isAgg406 sizeOf406 Y Wn (by rw [ar];exact IX _ _ rfl)) ?_;refine Xr [_] Y call306 Y V (aX _) ?_;refine A3 Y<|AJ<|GI rfl (dK results278 Y) Wo (by exact ⟨by rw [<-U,vZ l M hM],rfl⟩)
end Go.Proofs.YteaiajghbkenoaaGreatDoor
