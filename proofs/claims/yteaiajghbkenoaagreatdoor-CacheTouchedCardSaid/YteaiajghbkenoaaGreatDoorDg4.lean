/- Contracts: bits.RotateLeft32 at the counts of the program, digest.mixed, digest.schedule. -/
/- Contracts: digest.add, digest.digest. -/
/- Contracts: digest.digest, slices.Chunk at 64 bytes. Contracts: slices.Chunk at 64 bytes, digest.Sum. -/
import Derived.Test.YteaiajghbkenoaaGreatDoorA1
import Derived.Test.YteaiajghbkenoaaGreatDoorEz
import Derived.Test.YteaiajghbkenoaaGreatDoorEx4
import Derived.Test.YteaiajghbkenoaaGreatDoorEx5
import Derived.Test.YteaiajghbkenoaaGreatDoorSha
import Derived.Test.YteaiajghbkenoaaGreatDoorBits
import Derived.Test.YteaiajghbkenoaaGreatDoorProg
import Derived.Laws.Bits64
import Derived.WalkKit
import Derived.Test.YteaiajghbkenoaaGreatDoorEx36
set_option linter.unusedVariables false
set_option linter.unusedSimpArgs false
namespace Go.Proofs.YteaiajghbkenoaaGreatDoor
open Go.Proofs.Tryz
open Go Go.RowKit Gw
set_option maxRecDepth 100000
attribute [local irreducible] Gw.At Gw.Nx Gw.Ops
theorem jq(x:UInt32)(n m:Nat)(h0:0<n)(g:n<32)(B:n+m=32):(x<<<UInt32.ofNat m)|||(x>>>UInt32.ofNat n)=oo x (UInt32.ofNat n):=by
 unfold oo;have:(32:UInt32) -UInt32.ofNat n=UInt32.ofNat m:=by
  apply UInt32.toNat_inj.1;rw [UInt32.toNat_sub,j7,j7];simp only [UInt32.reduceToNat];omega
 rw [this]
theorem vW(n m:Nat)(h0:0<n)(B:n<32)(G:n+m=32):bits .and .u64 (IntKind.u64.wrap (-(n:Int))) 31=(m:Int):=by
 have h:IntKind.u64.wrap (-(n:Int))=((18446744073709551616 -n:Nat):Int):=by rw [IntKind.wrap_u64];omega
 have g:(31:Int)=((31:Nat):Int):=rfl;rw [h,g,u64_and_nat _ _ A1 A1,nat_mask5];omega
theorem jo(x:UInt32)(n:Nat)(h0:0<n)(g:n<32):BJ prog 345 #[.int .u32 x.toNat,I4 (-(n:Int))] [] (.int .u32 (oo x (UInt32.ofNat n)).toNat):=by
 refine KS func345 V ntmps345 V ?_;intro u R;obtain ⟨m,B⟩:∃m,n+m=32:=⟨32 -n,by omega⟩;refine Zb [0,1] ?_;refine A0<|A3 Y<|A0<|Zm Y<|Ka (Em Cl W3 Y V) V rfl ?_;refine Ka (qO Y Y (vW n m h0 g B)) V rfl ?_;refine A3 Y<|A0<|Zm Y<|Zm Y<|BX (MX Y Y A1)<|Zm Y<|Zm Y ?_
 (refine BX (UM (m:=32) Y Y ?_ ?_) ?_;(focus (omega));(focus (omega)))
 refine BX (MW Y Y A1)<|Zv (Og Y Y)<|AG Y<|Zn [4] ?_;refine Zx<|AJ<|AO V results345 Y (by
  have e:32 -m=n:=by omega
  exact ⟨by rw [e,jq x n m h0 g B],rfl⟩)
theorem qi(x:UInt32)(l:List UInt32)(n:UInt32):X5 x (l++[n])=X5 x l^^^oo x n:=by simp [X5]
def oB(n:Nat):Value:=I4 (n:Int)
theorem jX{α β:Type}(f:α->β)(l:List α)(k:Nat)(d:α)(h:k<l.length):(l.take (k+1)).map f=(l.take k).map f++[f (l.getD k d)]:=by
 rw [mB h,BW];simp [Lw,B4 h]
theorem XI{α:Type}(f:α->Value)(l:List α)(k:Nat)(d:α)(h:k<l.length):(l.map f).toArray[k]?=some (f (l.getD k d)):=by
 simp [B4 h,Lw]
theorem IL(x:UInt32)(l:List Nat)(g cap:Nat)(T:TypeId)(z:Nat×Nat)(I:∀n∈l,0<n/\n<32)(K:l.length<=100):
 BJ prog 334 #[.int .u32 x.toNat,I6 g l.length cap] [[(g,.cells (l.map oB).toArray T z)]] (.int .u32 (X5 x (l.map UInt32.ofNat)).toNat):=by
 refine Se func334 ntmps334 [0,1] ?_;intro u R;refine A0<|A3 Y<|A0<|A3 Y<|Zq<|A0<|Zm Y<|Zv (Ab Cd Y)<|Zm Y<|A4<|AP<|Zb [5,10,0,8,9] ?_;refine BB (e0:=[(5,_),(10,_)]) (fun m e H=>∃k:Nat,m=l.length -k/\(k<=l.length)/\e=[(5,.int .u32 ((X5 x ((l.take k).map UInt32.ofNat)).toNat:Int)),(10,I4 (k:Int))]/\H=[]) (by exact ⟨0,V,C0 _,V,V⟩) Wp ?_;rintro _ _ _ ⟨k,rfl,J,rfl,rfl⟩;refine A0<|Zv (Au Y Y)<|A4<|Zq<|Av Y (fun G=>?_) (fun G=>?_)
 ·
  refine AC<|Zx<|Zq<|AP<|A0<|BX (BS Cd A5 Y Y A1)<|Zl AE Y (hv:=by exact XI oB l k 0 A1) ?_;refine AG Y<|Zx ?_;have B:=I (l.getD k 0) (by rw [Lw,B4 A1];exact nm _)
  refine Zg<|Zm Y<|Zm Y<|Zm Y<|Ka (iQ (c:=-(l.getD k 0:Int)) Y (by rw [Int.zero_sub];exact IntWalk.i64_in _ A1)) rfl rfl ?_;refine Xr [_,_] Y call345 Y V (jo _ _ B.1 B.2) ?_;refine Zv (FP Y Y)<|AG Y<|A8<|Zx<|Zg<|Ya (n:=1) Y Y<|Zm Y<|Z0<|Zn [5,10,0,8,9] ?_;refine Aa (e':=[(5,_),(10,_)]) (by exact ⟨k+1,rfl,by omega,by rw [jX _ _ _ 0 A1,qi],rfl⟩)
 refine Ay<|Zt<|Zt<|AR<|Zx<|A0<|Zm Y<|A3 Y<|AJ<|AO V results334 Y (by
  have e:k=l.length:=by omega
  exact ⟨by rw [e,FF],rfl⟩)
def Ef(l:List UInt32):List Value:=l.map Co++List.replicate (64 -l.length) (.int .u32 0)
theorem Ca(l:List UInt32)(h:l.length<=64):(Ef l).length=64:=by simp [Ef];omega
theorem bM(l:List UInt32)(i:Nat)(h:i<l.length):(Ef l).toArray[i]?=some (Co (l.getD i 0)):=by
 simp [Ef,mx,h,Lw]
theorem bK(l:List UInt32)(x:UInt32)(h:l.length<64):(Ef l).toArray.setIfInBounds l.length (Co x)=(Ef (l++[x])).toArray:=by
 rw [mC];congr 1;unfold Ef;rw [j1 _ _ B0];simp only [B2,W1,B7,DE,It];obtain ⟨n,g⟩:∃n,64 -l.length=n+1:=⟨63 -l.length,by omega⟩;rw [g,show 64 -(l.length+(0+1))=n by omega];simp [List.replicate_succ]
theorem JP(b:List UInt8)(k:Nat)(x:UInt32)(h:k<64)(g:FX b (k+1)=FX b k++[x]):(Ef (FX b k)).toArray.setIfInBounds k (.int .u32 (x.toNat:Int))=(Ef (FX b (k+1))).toArray:=by
 have:=bK (FX b k) x (by rw [CS];exact h);rw [CS]at this;rw [g];exact this
theorem bL(l:List UInt32):∀v∈(Ef l).toArray.toList,v.oneCell'=true:=by
 intro v hv;simp only [Ef,B9,Bk,List.mem_replicate]at hv;rcases hv with⟨x,_,rfl⟩|⟨_,rfl⟩<;>rfl
theorem Xv(l:List UInt32)(h:l.length=64):Ef l=l.map Co:=by simp [Ef,h]
theorem nk(b:List UInt8)(k:Nat)(h:k<16):FX b (k+1)=FX b k++[bG b k]:=by rw [FX,AK h]
theorem RS(b:List UInt8)(k:Nat)(h:16<=k):FX b (k+1)=FX b k++[Yt (FX b k) k]:=by rw [FX,AH A1]
def Ml(c:Array Value)(o:Nat)(bs:List UInt8):Prop:=(c.toList.drop o).take bs.length=bs.map u8v
theorem Ml.get{c:Array Value}{o:Nat}{g:List UInt8}(h:Ml c o g)(j:Nat)(B:j<g.length):c[o+j]?=some (u8v (g.getD j 0)):=by
 have m:((c.toList.drop o).take g.length)[j]?=(g.map u8v)[j]?:=by rw [h]
 rw [H3,AK B,OR,DH,B4 B]at m;rw [HE]at m;rw [m];simp [Lw,B4 B]
theorem KP(b:List UInt8)(k i:Nat)(h:i<k):(Ef (FX b k)).toArray[i]?=some (Co ((FX b k).getD i 0)):=bM _ _ (by rw [CS];exact h)
theorem cB(g o cap:Nat)(c:Array Value)(T:TypeId)(z:Nat×Nat)(B:List UInt8)(hb:B.length=64)(hc:Ml c o B):
 BJ prog 333 #[.slice (some ⟨g,o,none⟩) 64 cap] [[(g,.cells c T z)]] (.agg ((iI B).map Co).toArray):=by
 refine Se func333 ntmps333 [0] ?_;intro u R;refine A0<|Ze (FC zeroValue431 (cs:=(Ef []).toArray) A6)<|AD fun K=>A4<|Zq<|A0<|Zm Y<|A4<|AP<|Zb [7,0,2] ?_;refine BB (e0:=[(7,_)]) (fun m e H=>∃k:Nat,m=16 -k/\(k<=16)/\e=[(7,I4 (k:Int))]/\H=[[(K,.cells (Ef (FX B k)).toArray 431 (0,0))]]) (by exact ⟨0,V,C0 _,V,V⟩) Wp ?_;rintro _ _ _ ⟨k,rfl,O,rfl,rfl⟩;refine A0<|Zv (Au (n:=16) Y Y)<|A4<|Zq<|Av Y (fun I=>?_) (fun I=>?_)
 ·
  refine AC<|Zx<|Zq<|AP<|A0<|Zm Y<|A3 Y<|Az (n:=36) (0::0::0::4::14::30::62::126::0::0::512::1536::3840::7936::16128::32512::65534::0::0::262144::786432::1966080::4063232::8257536::16646144::33554430::0::0::134217728::402653184::1006632960::2080374784::4227858432::8589934590::17179869183::34359738367::[]) 34359738368 A6 A6 rfl<|A2 0 rfl (AQ Y)<|A2 1 rfl (AQ Y)<|A2 2 rfl (AQ Y)<|A2 3 rfl (Ey (m:=4) Y Y A1)<|A2 4 rfl (CW HA Hv Y Y (by first|omega|(rw [GS,Ca _ (by rw [CS];omega)];omega)))<|B3 5 rfl V0 Y (hv:=by exact hc.get _ A1) ?_;refine A2 6 rfl (I8 Ln Sp Y)<|A2 7 rfl (MX (n:=24) Y Y A1)<|A2 8 rfl (AQ Y)<|A2 9 rfl (AQ Y)<|A2 10 rfl (Ey (m:=4) Y Y A1)<|A2 11 rfl (Dz (n:=1) Y Y A1)<|A2 12 rfl (CW HA Hv Y Y (by first|omega|(rw [GS,Ca _ (by rw [CS];omega)];omega)))<|B3 13 rfl V0 Y (hv:=by exact hc.get _ A1) ?_;refine A2 14 rfl (I8 Ln Sp Y)<|A2 15 rfl (MX (n:=16) Y Y A1)<|A2 16 rfl (Og Y Y)<|A2 17 rfl (AQ Y)<|A2 18 rfl (AQ Y)<|A2 19 rfl (Ey (m:=4) Y Y A1)<|A2 20 rfl (Dz (n:=2) Y Y A1)<|A2 21 rfl (CW HA Hv Y Y (by first|omega|(rw [GS,Ca _ (by rw [CS];omega)];omega)))<|B3 22 rfl V0 Y (hv:=by exact hc.get _ A1) ?_;refine A2 23 rfl (I8 Ln Sp Y)<|A2 24 rfl (MX (n:=8) Y Y A1)<|A2 25 rfl (Og Y Y)<|A2 26 rfl (AQ Y)<|A2 27 rfl (AQ Y)<|A2 28 rfl (Ey (m:=4) Y Y A1)<|A2 29 rfl (Dz (n:=3) Y Y A1)<|A2 30 rfl (CW HA Hv Y Y (by first|omega|(rw [GS,Ca _ (by rw [CS];omega)];omega)))<|B3 31 rfl V0 Y (hv:=by exact hc.get _ A1) ?_;refine A2 32 rfl (I8 Ln Sp Y)<|A2 33 rfl (Og Y Y)<|A2 34 rfl (BH Th Fc Y Y (by first|omega|(rw [GS,Ca _ (by rw [CS];omega)];omega)))<|Yw 35 68719476735 rfl (Zs Fc Y Y rfl (hc:=by exact JP B k (bG B k) A1 (nk B k A1)) (hi:=by(rw [GS,Ca _ (by rw [CS];omega)];omega)))<|CM<|Ai<|Zn [0,2,7] ?_;refine A8<|Zx<|Zg<|Ya (n:=1) Y Y<|Zm Y<|Z0<|Zn [7,0,2] ?_;refine Aa (e':=[(7,_)]) (by exact ⟨k+1,V,by omega,V,V⟩)
 refine Ay<|Zt<|Zt<|AR<|Zx<|Zq<|A0<|A3 Y<|AP ?_;have G:k=16:=by omega
 subst G;refine Zb [4,2] ?_;refine BB (e0:=[(4,_)]) (fun m e H=>∃k:Nat,m=64 -k/\(16<=k/\k<=64)/\e=[(4,I4 (k:Int))]/\H=[[(K,.cells (Ef (FX B k)).toArray 431 (0,0))]]) (by exact ⟨16,V,by omega,V,V⟩) Wp ?_;rintro _ _ _ ⟨k,rfl,⟨U,O⟩,rfl,rfl⟩;refine Zq<|A0<|Zm Y<|Zv (Au (n:=64) Y Y)<|A4<|Av Y (fun J=>?_) (fun J=>?_)
 ·
  refine AC<|Zx<|Zq<|AP<|Zq<|Az (n:=10) (0::1::3::7::0::16::48::112::15::511::[]) 0 A6 A6 V<|A2 0 V (AQ Y) ?_
  (refine Dl (D':=3) 1 (CL (n:=15) Y Y ?_ ?_) ?_;(focus (omega));(focus (omega)))
  refine A2 2 V (BH Th Fc Y Y A1)<|B3 3 V HO Y (hv:=by exact KP B k _ A1) ?_;refine A2 4 V (AQ Y) ?_
  (refine Dl (D':=63) 5 (CL (n:=2) Y Y ?_ ?_) ?_;(focus (omega));(focus (omega)))
  refine A2 6 V (BH Th Fc Y Y A1)<|B3 7 V HO Y (hv:=by exact KP B k _ A1) ?_;refine A2 8 V (Aw Y)<|A2 9 V (Aw Y)<|Ai<|Zx<|Az (n:=26) (0::0::2::6::14::0::0::96::0::256::992::2046::0::4096::12288::28672::65534::0::0::393440::0::1048576::4063456::8388606::16777215::33554431::[]) 34341056 A6 A6 V<|A2 0 V (AQ Y)<|A2 1 V (AQ Y) ?_
  (refine Dl (D':=7) 2 (CL (n:=16) Y Y ?_ ?_) ?_;(focus (omega));(focus (omega)))
  refine A2 3 rfl (BH Th Fc Y Y (by first|omega|(rw [GS,Ca _ (by rw [CS];omega)];omega)))<|B3 4 rfl HO Y (hv:=by exact KP B k _ A1) ?_;refine A2 5 V (AQ Y)<|A2 8 V (AQ Y)<|A2 9 V (MW (n:=3) Y Y A1)<|A2 12 V (AQ Y) ?_
  (refine Dl (D':=13119) 13 (CL (n:=7) Y Y ?_ ?_) ?_;(focus (omega));(focus (omega)))
  refine A2 14 rfl (BH Th Fc Y Y (by first|omega|(rw [GS,Ca _ (by rw [CS];omega)];omega)))<|B3 15 rfl HO Y (hv:=by exact KP B k _ A1) ?_;refine A2 17 V (AQ Y)<|A2 20 V (AQ Y)<|A2 21 V (MW (n:=10) Y Y A1)<|Zz (l:=[6,18])<|B1 [true,true] [(15,(_,_)),(4,(_,_))] V rfl (Ah (vs:=[_,_]) (cs:=[_,_]) Cd A5 Gk Y V rfl V rfl V) ?_ (fun _ _ h=>h.elim) ?_
  ·
   rintro _ _ ⟨W,rfl,rfl⟩;refine B5<|Zz (l:=[7,18])<|B1 [true,true] [(15,(_,_)),(4,(_,_))] V rfl (Zu [_,_] Y cF Y V (IL _ [7,18] _ _ _ _ AN AN)) ?_ (fun _ _ h=>h.elim) ?_
   ·
    rintro _ _ ⟨rfl,rfl⟩;refine B5<|A2 10 V (FP Y Y)<|A2 11 V (Da Y Y)<|A2 16 V (Da Y Y)<|Zz (l:=[18])<|B1 [true,true] [(15,(_,_)),(4,(_,_))] V rfl (Ah (vs:=[_,_]) (cs:=[_,_]) Cd A5 Gk Y V rfl V rfl V) ?_ (fun _ _ h=>h.elim) Ag;rintro _ _ ⟨X,rfl,rfl⟩;refine B5<|Yz 19 393440 4194303 [15,4] [true,true] [(15,(_,_)),(4,(_,_))] V Y V rfl V rfl (Zu [_,_] Y cF Y V (IL _ [17,19] _ _ _ _ AN AN))<|CM<|B5<|A2 22 rfl (FP Y Y)<|A2 23 rfl (Da Y Y)<|A2 24 rfl (BH Th Fc Y Y (by first|omega|(rw [GS,Ca _ (by rw [CS];omega)];omega)))<|Yw 25 67108863 rfl (Zs Fc Y Y rfl (hc:=by exact JP B k (Yt (FX B k) k) A1 (RS B k A1)) (hi:=by(rw [GS,Ca _ (by rw [CS];omega)];omega)))<|CM<|Ai<|Zn [2,4] ?_;refine A8<|Zx<|Zg<|Zm Y<|Ya (n:=1) Y Y<|AG Y<|Zn [4,2] ?_;refine Aa (e':=[(4,_)]) (by exact ⟨k+1,V,by omega,V,V⟩)
   refine B1 [true,true] [(15,(_,_)),(4,(_,_))] V rfl (Ah (vs:=[_,_]) (cs:=[_,_]) Cd A5 Gk Y V rfl V rfl V) ?_ (fun _ _ h=>h.elim) Ag;rintro _ _ ⟨Z,rfl,rfl⟩;refine B5<|Yz 7 96 3601407 [15,4] [true,true] [(15,(_,_)),(4,(_,_))] V Y V rfl V rfl (Zu [_,_] Y cF Y V (IL _ [7,18] _ _ _ _ AN AN))<|CM<|B5<|A2 10 V (FP Y Y)<|A2 11 V (Da Y Y)<|A2 16 V (Da Y Y)<|Zz (l:=[19])<|B1 [true,true] [(15,(_,_)),(4,(_,_))] V rfl (Zu [_,_] Y cF Y V (IL _ [17,19] _ _ _ _ AN AN)) ?_ (fun _ _ h=>h.elim) Ag;rintro _ _ ⟨rfl,rfl⟩;refine B5<|A2 22 rfl (FP Y Y)<|A2 23 rfl (Da Y Y)<|A2 24 rfl (BH Th Fc Y Y (by first|omega|(rw [GS,Ca _ (by rw [CS];omega)];omega)))<|Yw 25 67108863 rfl (Zs Fc Y Y rfl (hc:=by exact JP B k (Yt (FX B k) k) A1 (RS B k A1)) (hi:=by(rw [GS,Ca _ (by rw [CS];omega)];omega)))<|CM<|Ai<|Zn [2,4] ?_;refine A8<|Zx<|Zg<|Zm Y<|Ya (n:=1) Y Y<|AG Y<|Zn [4,2] ?_;refine Aa (e':=[(4,_)]) (by exact ⟨k+1,V,by omega,V,V⟩)
  refine B1 [true,true] [(15,(_,_)),(4,(_,_))] V rfl (Ah (vs:=[_,_]) (cs:=[_,_]) Cd A5 Gk Y V rfl V rfl V) ?_ (fun _ _ h=>h.elim) Ag;rintro _ _ ⟨b5,rfl,rfl⟩;refine B5<|Yz 6 0 3601279 [15,4] [true,true] [(15,(_,_)),(4,(_,_))] V Y V rfl V rfl (Ah (vs:=[_,_]) (cs:=[_,_]) Cd A5 Gk Y V rfl V rfl V)<|AD fun b6=>B5<|Yz 7 96 3601407 [15,4] [true,true] [(15,(_,_)),(4,(_,_))] V Y V rfl V rfl (Zu [_,_] Y cF Y V (IL _ [7,18] _ _ _ _ AN AN))<|CM<|B5<|A2 10 V (FP Y Y)<|A2 11 V (Da Y Y)<|A2 16 V (Da Y Y)<|Zz (l:=[19])<|B1 [true,true] [(15,(_,_)),(4,(_,_))] V rfl (Zu [_,_] Y cF Y V (IL _ [17,19] _ _ _ _ AN AN)) ?_ (fun _ _ h=>h.elim) Ag;rintro _ _ ⟨rfl,rfl⟩;refine B5<|A2 22 rfl (FP Y Y)<|A2 23 rfl (Da Y Y)<|A2 24 rfl (BH Th Fc Y Y (by first|omega|(rw [GS,Ca _ (by rw [CS];omega)];omega)))<|Yw 25 67108863 rfl (Zs Fc Y Y rfl (hc:=by exact JP B k (Yt (FX B k) k) A1 (RS B k A1)) (hi:=by(rw [GS,Ca _ (by rw [CS];omega)];omega)))<|CM<|Ai<|Zn [2,4] ?_;refine A8<|Zx<|Zg<|Zm Y<|Ya (n:=1) Y Y<|AG Y<|Zn [4,2] ?_;refine Aa (e':=[(4,_)]) (by exact ⟨k+1,V,by omega,V,V⟩)
 refine Ay<|Zt<|Zt<|AR<|Zx<|A0<|Zo Wh (AA isAgg431 sizeOf431 Y (by(rw [GS,Ca _ (by rw [CS];omega)];omega)) (by exact IR _ _ (by rw [GS,Ca _ (by rw [CS];omega)]))) ?_;refine Xe (BM sizeOf431 Y Y (by exact bL _) Wu (by exact qQ _) (by rw [GS,Ca _ (by rw [CS];omega)]) (by(rw [GS,Ca _ (by rw [CS];omega)];omega)) (by exact BA _)) ?_;refine A4<|AJ<|Ct rfl results333 Y Wh (Ak isAgg431 sizeOf431 (by(rw [GS,Ca _ (by rw [CS];omega)];omega)) (IR _ _ (by rw [GS,Ca _ (by rw [CS];omega)]))) (by
  have e:k=64:=by omega
  exact ⟨by rw [e,Xv _ (CS _ _)];rfl,rfl⟩)
def v8c(v:V8):Array Value:=#[Co v.a,Co v.b,Co v.c,Co v.d,Co v.e,Co v.f,Co v.g,Co v.h]
theorem ny(v:V8):v8c v=(v.list.map Co).toArray:=rfl
theorem q4(k:Nat)(h:k<64):(En.map Co).toArray[k*1]?=some (Co (En.getD k 0)):=by rw [LS];exact XI Co En k 0 (by rw [rU];exact h)
def Vk(x y:V8)(i:Nat):List UInt32:=(xe x y).list.take i++x.list.drop i
theorem Me(x y:V8)(i:Nat)(h:i<=8):(Vk x y i).length=8:=by
 have:(xe x y).list.length=8:=rfl;have h2:x.list.length=8:=rfl
 simp [Vk,this,h2];omega
theorem mE(x y:V8)(i:Nat)(h:i<8):((Vk x y i).map Co).toArray[i]?=some (Co (x.list.getD i 0)):=by
 have:i=0\/i=1\/i=2\/i=3\/i=4\/i=5\/i=6\/i=7:=by omega
 rcases this with rfl|rfl|rfl|rfl|rfl|rfl|rfl|rfl<;>rfl
theorem o5(y:V8)(i:Nat)(h:i<8):(v8c y)[i]?=some (Co (y.list.getD i 0)):=by
 have:i=0\/i=1\/i=2\/i=3\/i=4\/i=5\/i=6\/i=7:=by omega
 rcases this with rfl|rfl|rfl|rfl|rfl|rfl|rfl|rfl<;>rfl
theorem mD(x y:V8)(i:Nat)(h:i<8):((Vk x y i).map Co).toArray.setIfInBounds i (.int .u32 ((x.list.getD i 0+y.list.getD i 0).toNat:Int))=((Vk x y (i+1)).map Co).toArray:=by
 have:i=0\/i=1\/i=2\/i=3\/i=4\/i=5\/i=6\/i=7:=by omega
 rcases this with rfl|rfl|rfl|rfl|rfl|rfl|rfl|rfl<;>rfl
theorem bS(x:V8)(k:Nat)(m:List UInt32)(v:V8)(B:x=LW m v k):
 ((#[Co x.a,Co x.a,Co x.b,Co x.c,Co x.d,Co x.e,Co x.f,Co x.g]:Array Value).setIfInBounds 0 (.int .u32 ((Gw.D6 x (En.getD k 0) (m.getD k 0)+xq x).toNat:Int))).setIfInBounds 4 (.int .u32 ((x.d+Gw.D6 x (En.getD k 0) (m.getD k 0)).toNat:Int))=v8c (LW m v (k+1)):=by
 subst B;rfl
theorem jf(g:List UInt8):(iI g).length=64:=CS g 64
theorem oh(g:List UInt32)(h:g.length=64):((g.map Co).toArray).size=64:=by rw [GS,B2,h]
theorem ol(g:List UInt32)(h:g.length=64):EI (Ef []).toArray 0 ((g.map Co).toArray).toList=(g.map Co).toArray:=
 Yj (Ef []).toArray (g.map Co) (by rw [B2,h];rfl)
theorem vF:0+64<=((Ef []).toArray).size:=by rw [GS,Ca _ (C0 _)];exact CT _
theorem gZ(v:V8):∀x∈(v8c v).toList,x.oneCell'=true:=by
 intro x g;rw [ny]at g;simp only [Bk]at g;obtain ⟨y,_,rfl⟩:=g;rfl
theorem oC(l:List UInt32):∀x∈(l.map Co).toArray.toList,x.oneCell'=true:=by
 intro x g;simp only [Bk]at g;obtain ⟨y,_,rfl⟩:=g;rfl
theorem uX(K g o cap:Nat)(c:Array Value)(T:TypeId)(z:Nat×Nat)(I:List UInt8)(hb:I.length=64)(hc:Ml c o I)(O Tg:TypeId)(zg:Nat×Nat)(v:V8):
 Ba prog 305 #[I5 K,.slice (some ⟨g,o,none⟩) 64 cap] [[(K,.cells (v8c v) O (0,0))],[(g,.cells c T z)],[(4,.cells (En.map Co).toArray Tg zg)]]
  (fun r H'=>r= .tuple #[]/\H'=[[(K,.cells (v8c (XY v I)) O (0,0))],[(g,.cells c T z)],[(4,.cells (En.map Co).toArray Tg zg)]]):=by
 refine KS func305 V ntmps305 V ?_;intro u R;obtain ⟨B,G⟩:∃B,B=iI I:=⟨_,rfl⟩;have hw:B.length=64:=by rw [G];exact jf I
 have J:=cB g o cap c T z I hb hc;rw [<-G]at J;have U:XY v I=xe v (LW B v 64):=by rw [G];rfl
 clear G;rw [U];refine Zb [0,1] ?_;refine A0<|Zm Y<|Xr [_] Y call333 Y V (J) ?_;refine Ze (FC zeroValue431 (cs:=(Ef []).toArray) A6)<|AD fun bw=>Xe (BM sizeOf431 Y Y (by exact oC _) Wu (by exact ol B hw) (by exact oh B hw) (by exact vF) (by exact BA _)) ?_;refine A4<|A0<|Zm Y<|Zp Y V<|Zo Wh (AA (cs:=v8c v) isAgg406 sizeOf406 Y Wn AM) ?_;refine Ze (Al zeroValue406 #[_,_,_,_,_,_,_,_])<|AD fun bv=>Xe (BM sizeOf406 Y Y (by exact gZ v) Wu (by exact (rfl:_=v8c (LW B v 0))) E7 Wn (by exact BA _)) ?_;refine A4<|Zq<|A0<|Zo Wh (AA (cs:=(En.map Co).toArray) isAgg431 sizeOf431 Y (by exact CT _) (by exact IR _ _ V)) ?_;refine Zm Y<|A4<|AP<|Zb [19,0,4,5,18] ?_;refine BB (e0:=[(19,_)]) (fun m e H=>∃k:Nat,m=64 -k/\(k<=64)/\e=[(19,I4 (k:Int))]/\H=[[(bv,.cells (v8c (LW B v k)) 406 (0,0))]]) (by exact ⟨0,V,C0 _,V,V⟩) Wp ?_;rintro _ _ _ ⟨k,rfl,hk,rfl,rfl⟩;obtain ⟨x,Z⟩:∃x,x=LW B v k:=⟨_,rfl⟩;rw [<-Z];refine A0<|Zv (Au (n:=64) Y Y)<|A4<|Zq<|Av Y (fun W=>?_) (fun W=>?_)
 ·
  refine AC<|Zx<|Zq<|AP<|A0<|Zm Y<|Zv (Qa Th HO Fc Y Y A1 (by exact q4 k A1))<|Za Y<|A3 Y<|Zq<|Az (n:=6) (0::1::0::4::3::31::[]) 0 A6 A6 V<|A2 0 V (BH (j:=0) Kd Fc Y Y A1)<|B3 1 V HO Y ?_;refine A2 2 V (BH (j:=4) Kd Fc Y Y A1)<|B3 3 V HO Y ?_;refine A2 4 V (Aw Y)<|A2 5 V (Aw Y)<|Ai<|Zx<|Zq<|Az (n:=24) (0::1::0::0::12::31::0::0::128::448::0::1024::0::4096::15360::32704::65535::0::262143::0::524288::1572864::4194303::8388607::[]) 24 A6 A6 V<|A2 0 V (BH (j:=7) Kd Fc Y Y A1)<|B3 1 V HO Y ?_;refine A2 2 V (AQ Y)<|A2 6 V (AQ Y)<|A2 7 V (BH (j:=5) Kd Fc Y Y A1)<|B3 8 V HO Y ?_;refine A2 9 V (K8 Y Y)<|A2 10 V (AQ Y)<|A2 11 V (kT Y)<|A2 12 V (BH (j:=6) Kd Fc Y Y A1)<|B3 13 V HO Y ?_;refine A2 14 V (K8 Y Y)<|A2 15 V (FP Y Y)<|A2 17 V (AQ Y)<|A2 19 V (AQ Y)<|A2 20 V (BH Th Fc Y Y A1)<|B3 21 V HO Y (hv:=by exact XI Co B k 0 A1) ?_;refine Yz 3 0 3866575 [21,13,8,1] [true,true,true,true] [(21,(_,_)),(13,(_,_)),(8,(_,_)),(1,(_,_))] V Y V rfl V rfl (Ah (vs:=[_,_,_]) (cs:=[_,_,_]) Cd A5 Gk Y V rfl V rfl V)<|AD fun b3=>B5<|Yz 4 12 3866591 [21,13,8,1] [true,true,true,true] [(21,(_,_)),(13,(_,_)),(8,(_,_)),(1,(_,_))] V Y V rfl V rfl (Zu [_,_] Y cF Y V (IL _ [6,11,25] _ _ _ _ AN AN))<|CM<|B5<|A2 5 V (Da Y Y)<|A2 16 V (Da Y Y)<|A2 18 V (Da Y Y)<|A2 22 V (Da Y Y)<|A2 23 V (Aw Y)<|Ai<|Zn [0,4,5,8,10,18,19] ?_;refine Zx<|Zq<|Az (n:=20) (0::0::3::0::0::16::56::0::0::256::896::2040::0::4096::0::16384::61440::131064::262143::524287::[]) 6 A6 A6 V<|A2 0 V (AQ Y)<|A2 3 V (AQ Y)<|A2 4 V (BH (j:=1) Kd Fc Y Y A1)<|B3 5 V HO Y ?_;refine A2 6 V (K8 Y Y)<|A2 7 V (AQ Y)<|A2 8 V (BH (j:=2) Kd Fc Y Y A1)<|B3 9 V HO Y ?_;refine A2 10 V (K8 Y Y)<|A2 11 V (FP Y Y)<|A2 12 V (BH (j:=1) Kd Fc Y Y A1)<|B3 13 V HO Y ?_;refine A2 14 V (BH (j:=2) Kd Fc Y Y A1)<|B3 15 V HO Y ?_
  refine A2 16 V (K8 Y Y)<|A2 17 V (FP Y Y)<|Zz (l:=[1])<|B1 [true,true,true,true] [(15,(_,_)),(13,(_,_)),(9,(_,_)),(5,(_,_))] V rfl (Ah (vs:=[_,_,_]) (cs:=[_,_,_]) Cd A5 Gk Y V rfl V rfl V) ?_ (fun _ _ h=>h.elim) Ag;rintro _ _ ⟨b4,rfl,rfl⟩;refine B5<|Yz 2 3 262143 [15,13,9,5] [true,true,true,true] [(15,(_,_)),(13,(_,_)),(9,(_,_)),(5,(_,_))] V Y V rfl V rfl (Zu [_,_] Y cF Y V (IL _ [2,13,22] _ _ _ _ AN AN))<|CM<|B5<|A2 18 V (Da Y Y)<|A2 19 V (Aw Y)<|Ai<|Zn [0,4,5,10,11,18,19] ?_;refine Zx<|Zq<|Az (n:=3) (0::0::3::[]) 4 A6 A6 V<|A2 0 V (Px (l:=1) Kd Fc Y Y A1)<|A2 1 V (Sq (h:=7) Kd Fc Y Y A1)<|Yw 2 7 V (yK (cs:=[_,_,_,_,_,_,_]) (c':=#[_,_,_,_,_,_,_,_]) underlying434 Fc Y Y Wh Wu AM AM AM (by exact CT 8) (BA _) (by simp [Value.oneCell',Co]))<|CM<|Ai<|Zx<|Zg<|Zm Y<|Zm Y<|Zv (Da Y Y)<|BX (BH (j:=4) Kd Fc Y Y A1)<|Zl HO Y ?_;refine Zm Y<|Zv (Da Y Y)<|BX (BH (j:=0) Kd Fc Y Y A1)<|Xe (Zs Fc Y Y V) ?_;refine BX (BH (j:=4) Kd Fc Y Y A1)<|Xe (Zs Fc Y Y V (hc:=by exact (bS x k B v Z))) ?_;refine Z0<|Zn [0,4,5,18,19] ?_;refine A8<|Zx<|Zg<|Ya (n:=1) Y Y<|Zm Y<|Z0<|Zn [19,0,4,5,18] ?_;refine Aa (e':=[(19,_)]) (by exact ⟨k+1,V,by omega,V,V⟩)
 refine Ay<|Zt<|Zt<|AR<|Zx<|A0<|Zm Y<|A4<|AP ?_;have ek:k=64:=by omega
 subst ek;refine Zb [82,0,5] ?_;refine BB (e0:=[(82,_)]) (fun m e H=>∃i:Nat,m=8 -i/\(i<=8)/\e=[(82,I4 (i:Int))]/\H=[[(K,.cells ((Vk v x i).map Co).toArray O (0,0))]]) (by exact ⟨0,V,C0 _,V,V⟩) Wp ?_;rintro _ _ _ ⟨i,rfl,hi,rfl,rfl⟩;refine A0<|Zv (Au (n:=8) Y Y)<|A4<|Zq<|Av Y (fun X=>?_) (fun X=>?_)
 ·
  refine AC<|Zx<|Zq<|AP<|A0<|Zm Y<|A3 Y<|Az (n:=12) (0::0::1::7::15::0::32::96::255::1::1023::2047::[]) 2048 A6 A6 rfl<|A2 0 rfl (AQ Y)<|A2 1 rfl (AQ Y)<|A2 2 rfl (Ap Y rfl)<|A2 3 rfl (BH Kd Fc Y Y (by first|omega|(rw [GS,B2,Me _ _ _ A1];omega)))<|B3 4 rfl HO Y (hv:=by exact mE _ _ i A1) ?_;refine A2 5 rfl (AQ Y)<|A2 6 rfl (BH Kd Fc Y Y (by first|omega|(rw [GS,B2,Me _ _ _ A1];omega)))<|B3 7 rfl HO Y (hv:=by exact o5 _ i A1) ?_;refine A2 8 rfl (Da Y Y)<|A2 9 rfl (Ap Y rfl)<|A2 10 rfl (BH Kd Fc Y Y (by first|omega|(rw [GS,B2,Me _ _ _ A1];omega)))<|Yw 11 4095 rfl (Zs Fc Y Y rfl (hc:=by exact mD _ _ i A1) (hi:=by(rw [GS,B2,Me _ _ _ A1];omega)))<|CM<|Ai<|Zn [0,5,82] ?_;refine A8<|Zx<|Zg<|Ya (n:=1) Y Y<|Zm Y<|Z0<|Zn [82,0,5] ?_;refine Aa (e':=[(82,_)]) (by exact ⟨i+1,V,by omega,V,V⟩)
 have ei:i=8:=by omega
 subst ei;rw [<-Z];refine Ay<|Zt<|Zt<|AR<|Cv V results305 (by exact ⟨V,V⟩)
def Sm(N:Nat)(l:List UInt8):Array Value:=(l.map u8v++List.replicate (N -l.length) (Value.int .u8 0)).toArray
theorem qF(N:Nat)(l:List UInt8)(x:UInt8)(k:Nat)(g:k=l.length)(h:l.length<N):(Sm N l).setIfInBounds k (.int .u8 (x.toNat:Int))=Sm N (l++[x]):=by
 subst g;unfold Sm;rw [mC];congr 1;rw [j1 _ _ B0];simp only [B2,W1,B7,DE,It];obtain ⟨n,m⟩:∃n,N -l.length=n+1:=⟨N -1 -l.length,by omega⟩;rw [m,show N -(l.length+(0+1))=n by omega];simp [List.replicate_succ,u8v]
theorem VT(N:Nat)(l:List UInt8)(h:l.length<=N):(Sm N l).size=N:=by simp [Sm];omega
theorem kQ(N:Nat)(l:List UInt8)(h:l.length=N):(Sm N l).toList=l.map u8v:=by simp [Sm,h]
def Qx(v:V8)(i k:Nat):List UInt8:=(v.list.take i).flatMap Oi++(Oi (v.list.getD i 0)).take k
theorem Oh(v:V8)(i k:Nat)(hi:i<8)(g:k<=4):(Qx v i k).length=4*i+k:=by
 have:i=0\/i=1\/i=2\/i=3\/i=4\/i=5\/i=6\/i=7:=by omega
 rcases this with rfl|rfl|rfl|rfl|rfl|rfl|rfl|rfl<;>simp [Qx,V8.list,Oi]<;>omega
theorem kV(v:V8)(i:Nat)(hi:i<8):Qx v (i+1) 0=Qx v i 4:=by
 have:i=0\/i=1\/i=2\/i=3\/i=4\/i=5\/i=6\/i=7:=by omega
 rcases this with rfl|rfl|rfl|rfl|rfl|rfl|rfl|rfl<;>rfl
theorem kU(v:V8)(i k:Nat)(g:k<4):Qx v i (k+1)=Qx v i k++[((v.list.getD i 0)>>>UInt32.ofNat (24 -8*k)).toUInt8]:=by
 have:k=0\/k=1\/k=2\/k=3:=by omega
 unfold Qx;generalize v.list.getD i 0=x;rcases this with rfl|rfl|rfl|rfl
 · simp [Oi]
 · simp [Oi]
 · simp [Oi]
 · have e:x>>>UInt32.ofNat (24 -8*3)=x:=by
    apply UInt32.toNat_inj.1;simp [UInt32.toNat_shiftRight]
   rw [e];simp [Oi]
theorem iT(v:V8):Qx v 8 0=qR v:=rfl
theorem nz(y:V8)(i:Nat)(h:i<8):(v8c y)[i*1]?=some (Co (y.list.getD i 0)):=by rw [LS];exact o5 y i h
theorem aQ(v:V8):BJ prog 306 #[.agg (v8c v)] [] (.string (str (qR v))):=by
 refine Se func306 ntmps306 [0] ?_;intro u R;refine A0<|Ze (Eo Y (cs:=(v8c v)) A6)<|AD fun K=>A3 Y<|A0<|Ze (FC zeroValue426 (cs:=(Sm 32 [])) A6)<|AD fun G=>A4<|Zq<|A0<|Zo Wh (AA (cs:=v8c v) isAgg406 sizeOf406 Y (by exact CT _) (by exact IR _ _ V)) ?_;refine Zm Y<|A4<|AP<|Zb [8,3,7] ?_;refine BB (e0:=[(8,_)]) (fun m e H=>∃i:Nat,m=8 -i/\(i<=8)/\e=[(8,I4 (i:Int))]/\H=[[(G,.cells (Sm 32 (Qx v i 0)) 426 (0,0))]]) (by exact ⟨0,V,C0 _,V,V⟩) Wp ?_;rintro _ _ _ ⟨i,rfl,hi,rfl,rfl⟩;refine A0<|Zv (Au (n:=8) Y Y)<|A4<|Zq<|Av Y (fun g=>?_) (fun g=>?_)
 ·
  refine AC<|Zx<|Zq<|AP<|A0<|Zm Y<|Zv (Qa Kd HO Fc Y Y A1 (by exact nz v i A1))<|Za Y<|A3 Y<|A0<|Zm Y<|A4<|AP<|Zb [12,3,4,5,7,8] ?_;refine BB (e0:=[(12,_)]) (fun m e H=>∃k:Nat,m=4 -k/\(k<=4)/\e=[(12,I4 (k:Int))]/\H=[[(G,.cells (Sm 32 (Qx v i k)) 426 (0,0))]]) (by exact ⟨0,V,C0 _,V,V⟩) Wp ?_;rintro _ _ _ ⟨k,rfl,O,rfl,rfl⟩;refine A0<|Zv (Au (n:=4) Y Y)<|A4<|Zq<|Av Y (fun B=>?_) (fun B=>?_)
  ·
   refine AC<|Zx<|Zq<|AP<|A0<|Zm Y<|A3 Y<|Zg<|Zm Y<|BX (Ey (m:=4) Y Y A1)<|Zm Y<|Ya Y Y<|Zm Y<|Zm Y<|BX (Ey (m:=8) Y Y A1)<|Yb (m:=24) Y Y ?_;refine BX (MW Y Y A1)<|Zv (UQ Sp Ln Y)<|BX (BH underlying426 Hv Y Y (by first|omega|(rw [VT _ _ (by rw [Oh _ _ _ A1 A1];omega)];omega)))<|Xe (Zs Hv Y Y rfl (hc:=by exact (qF 32 (Qx v i k) _ _ (by rw [Oh _ _ _ A1 A1]) (by rw [Oh _ _ _ A1 A1];omega)).trans (congrArg (Sm 32) (kU v i k A1).symm)) (hi:=by(rw [VT _ _ (by rw [Oh _ _ _ A1 A1];omega)];omega))) ?_;refine Z0<|Zn [3,4,5,7,8,12] ?_;refine A8<|Zx<|Zg<|Ya (n:=1) Y Y<|Zm Y<|Z0<|Zn [12,3,4,5,7,8] ?_;refine Aa (e':=[(12,_)]) (by exact ⟨k+1,V,by omega,V,V⟩)
  have J:k=4:=by omega
  subst J;refine Ay<|Zt<|Zt<|AR<|A8<|Zx<|Zg<|Ya (n:=1) Y Y<|Zm Y<|Z0<|Zn [8,3,7] ?_;refine Aa (e':=[(8,_)]) (by exact ⟨i+1,rfl,by omega,rfl,by rw [kV v i A1]⟩)
 have I:i=8:=by omega
 subst I;refine Ay<|Zt<|Zt<|AR<|Zx<|A0<|Zv (Ia underlying426 Hv Y)<|Zo Wh (K7 HA Ln GO Y (by exact ⟨(by rw [kQ 32 (Qx v 8 0) (by rw [iT];rfl)];exact Hi (by rw [PC,B2,iT];exact CT 32)),rfl⟩)) ?_;refine A3 Y<|AJ<|AO V results306 Y (by exact ⟨V,V⟩)
def QG(g j:Nat):Value:= .slice (some ⟨g,64*j,none⟩) 64 64
theorem uC(g k M:Nat)(h:k<M):Value.slice (some ⟨g,0+64*k*1,none⟩) (64*k+min 64 (64*M -64*k) -64*k) (64*k+min 64 (64*M -64*k) -64*k)=QG g k:=by
 have m:64*k+min 64 (64*M -64*k) -64*k=64:=by omega
 have h2:0+64*k*1=64*k:=by omega
 rw [m,h2];rfl
theorem YN(M k:Nat)(h:k<M):List.range M=List.range k++k::(List.range' (k+1) (M -k -1)):=by
 rw [mw,mw,<-nf];rw [show M -k -1+1=M -k by omega];have:=List.range'_append_1 (s:=0) (m:=k) (n:=M -k)
 rw [show 0+k=k by omega,show k+(M -k)=M by omega]at this;exact this.symm
theorem gG(g cap M:Nat)(U O:Nat)(hM:64*M<=cap)(hc:cap<=maxLen):
 UB prog 332 #[I5 U,I5 O] [[(U,.cells #[I6 g (64*M) cap] 97 (0,0))],[(O,.cells #[I4 64] 3 (0,0))]] (fun j=>#[QG g j]) (List.range M):=by
 have Z:=mL;intro l J hy s G;refine Se func332 ntmps332 [0,1,2] ?_;intro u R;refine A0<|A3 Y<|AP<|Zb [4,0,1,2] ?_;refine BB (e0:=[(4,_)]) (fun m e H=>∃(k:Nat) (s:List A9),m=M -k/\(k<=M/\J (List.range k) s)/\e=[(4,I4 ((64*k:Nat):Int))]/\H=[s]) (by exact ⟨0,s,V,⟨C0 _,G⟩,V,V⟩) Wp ?_;rintro _ _ _ ⟨k,s,rfl,⟨hk,G⟩,rfl,rfl⟩;refine Zq<|A0<|Zm Y<|Zl S6 Y ?_;refine Zv (Ab HA Y)<|Zv (Au Y Y)<|A4<|Av Y (fun K=>?_) (fun K=>?_)
 ·
  refine AC<|Zx<|Zq<|AP<|Zq<|Az (n:=7) (0::0::0::6::14::31::63::[]) 0 A6 A6 V<|B3 0 V AE Y ?_;refine B3 1 V S6 Y ?_;refine A2 2 V (AQ Y)<|A2 3 V (C8 HA Hv Y Y A1)<|A2 4 V (Ab HA Y)<|A2 5 V (Q0 Y Y)<|A2 6 V (Aw Y)<|Ai<|Zx<|Zq ?_;have B:=hy (List.range k) k _ s (YN M k A1) G
  rw [<-gA]at B;rw [show(fun j=>#[QG g j]) k=#[QG g k] from rfl,<-uC g k M A1]at B;refine Zg<|Zm Y<|Zl S6 Y ?_;refine Zm Y<|Zm Y<|Zm Y<|Ya Y Y<|Zm Y<|Zm Y<|Ya Y Y ?_
  (refine BX (Sn HA Hv Y Y Y Y ?_ ?_) ?_;(focus ((simp only [Nat.min_def];split<;>omega)));(focus (omega)))
  refine Ze (GR (vs:=[_]) Y Y (B) Wp) ?_;rintro _ _ ⟨_,⟨s',rfl,rfl,I⟩,rfl⟩;refine Zv (Br Y)<|Z0<|Zn [0,1,2,4,30] ?_;refine Zx<|AV Y (fun W=>by cases W)<|fun W=>AC<|A8<|Zx<|Zg<|Zm Y<|Zl AE Y ?_;refine Yi Y Y<|AG Y<|Zn [4,0,1,2] ?_;refine Aa (e':=[(4,_)]) (by exact ⟨k+1,s',V,⟨by omega,I⟩,V,V⟩)
 have X:k=M:=by omega
 subst X;refine Ay<|Zt<|Zt<|AR<|Cv V results332 (by exact ⟨s,V,G⟩)
theorem gF(p:Option Addr)(n cap:Nat):Ba prog 304 #[.slice p n cap,I4 64] [] (fun r H'=>∃B m,r= .func (.func 332) #[] #[I5 B,I5 m]/\H'=[[(B,.cells #[.slice p n cap] 97 (0,0))],[(m,.cells #[I4 64] 3 (0,0))]]):=by
 refine Se func304 ntmps304 [0,1] ?_;intro u R;refine A0<|Ze (Bx #[_])<|AD fun G=>Ze (Bx #[_])<|AD fun I=>A3 Y<|Zq<|A0<|Zl AE Y ?_;refine Zv (Au (n:=1) Y Y)<|A4<|Av Y (fun g=>?_) (fun g=>?_)
 ·
  exact absurd g AN
 refine AC<|Zx<|A0<|Zv (Bg (vs:=[]) (us:=[_,_]) Y Y)<|A3 Y<|AJ<|AO V results304 Y (by exact ⟨G,I,V,V⟩)
theorem Qq:∀(n:Nat) (h:V8) (b:List UInt8),JG (n+1) h b=XY (JG n h b) ((b.drop (64*n)).take 64)
 |0,h,b=>by simp [JG]
 |n+1,h,b=>by
  rw [JG,Qq n,JG,XS];rw [show 64+64*n=64*(n+1) by omega]
def Qw(l:List UInt8)(k:Nat):List UInt8:=l++[128]++List.replicate k 0
theorem Ld(l:List UInt8)(k:Nat):(Qw l k).length=l.length+1+k:=by simp [Qw];omega
theorem kM(l:List UInt8)(k:Nat):(Qw l k).map u8v++[.int .u8 0]=(Qw l (k+1)).map u8v:=by
 unfold Qw;rw [List.replicate_succ'];simp [u8v]
def UK(l:List UInt8)(j:Nat):List UInt8:=Qw l (L6 l.length)++(Qy l.length).take j
theorem kN(l:List UInt8):UK l 0=Qw l (L6 l.length):=by simp [UK]
theorem VS(l:List UInt8):UK l 8=Gn l:=by
 have:(Qy l.length).take 8=Qy l.length:=Hi (by simp [Qy]);simp [UK,Qw,Gn,this]
theorem rO(n j:Nat)(h:j<8):(Qy n).take (j+1)=(Qy n).take j++[UInt8.ofNat (8*n/2^(8*(7 -j)))]:=by
 rw [mB (by simp [Qy];omega)];simp [Qy]
theorem kP(l:List UInt8)(j q:Nat)(h:q+j=7):(UK l j).map u8v++[.int .u8 ((UInt8.ofNat (8*l.length/2^(8*q))).toNat:Int)]=(UK l (j+1)).map u8v:=by
 unfold UK;rw [rO _ _ A1,show 7 -j=q by omega];simp [u8v]
theorem Yd(l:List UInt8)(j:Nat)(h:j<=8):(UK l j).length=l.length+1+L6 l.length+j:=by
 have:(Qy l.length).length=8:=by simp [Qy]
 simp [UK,Ld,this];omega
theorem wM(m:Nat):IntKind.u8.wrap (m:Int)=((UInt8.ofNat m).toNat:Int):=by
 rw [IntKind.wrap_u8',UInt8.toNat_ofNat'];omega
theorem uw(n k:Nat)(g:k<=L6 n)(h:(n+1+k)%64≠56):k<L6 n:=by
 have:=gW n;rcases EV k (L6 n)with h1|h1
 · exact h1
 · have:k=L6 n:=by omega
   subst this;contradiction
theorem uy(n k:Nat)(g:k<=L6 n)(h:(n+1+k)%64=56):k=L6 n:=by
 unfold L6 at g⊢;omega
theorem jw{M x:Nat}{pre g:List Nat}(h:List.range M=pre++x::g):x=pre.length/\x<M:=by
 have m:(List.range M)[pre.length]?=some x:=by rw [h];simp
 have B:pre.length<M:=by
  have:=(BE.1 m).1;simpa using this
 rw [Wr B]at m;have:=PA m
 omega
theorem aY{cur:Array Value}{p:List UInt8}(h:cur.toList.take (p.map u8v).length=p.map u8v)(k:Nat)(m:64*k+64<=p.length):Ml cur (64*k) ((p.drop (64*k)).take 64):=by
 unfold Ml;have g:((p.drop (64*k)).take 64).length=64:=by simp;omega
 rw [g,List.map_take,gE,<-h];rw [eC,TX];congr 1;simp;omega
theorem vS(l:List UInt8)(M:Nat)(h:(Gn l).length=64*M):sha l=qR (JG M h0 (Gn l)):=by
 unfold sha;rw [h,Nat.mul_div_cancel_left _ A1]
theorem oD(s:ByteArray)(hs:s.size<=140737488355000)(Tg:TypeId)(zg:Nat×Nat):
 BJ prog 278 #[.string s] [[(4,.cells (En.map Co).toArray Tg zg)]] (.string (str (sha s.data.toList))):=by
 have l8:=mL;obtain ⟨l,U⟩:∃l,l=s.data.toList:=⟨_,rfl⟩;have J:l.length=s.size:=by rw [U];rfl
 have hz:L6 s.size<64:=by unfold L6;omega
 refine DK func278 V ntmps278 V ?_;intro u R;refine Zb [0] ?_;refine A0<|A3 Y<|A0<|Zv (BK (vs:=[(0,_),(1,_),(2,_),(3,_),(4,_),(5,_),(6,_),(7,_)]) (cs:=#[_,_,_,_,_,_,_,_]) Y (DY zeroValue406 Kd Fc V))<|Ze (Al zeroValue406 #[_,_,_,_,_,_,_,_])<|AD fun bh=>Xe (BM sizeOf406 Y Y (by exact gZ h0) Wu (by exact (rfl:_=v8c (JG 0 h0 (Gn l)))) E7 Wn (by exact BA _)) ?_;refine A4<|A0<|Zm Y<|Ze (vH GO HA Ln Y A1) ?_;rintro _ _ ⟨sa,W,rfl⟩;obtain ⟨ga,ca,rfl⟩:=W.form;refine Ze (Ah (vs:=[_]) (cs:=[_]) HA Hv S4 Y V rfl V rfl V)<|AD fun b3=>Ze (EQ (by_:=1) (news:=[_]) HA (V:Tryz.prog.info? 5=some Tryz.t5) V rfl V rfl Y W Y Wo Wh AM V Fm AN (by(simp only [B2,<-U,J];omega)) (by(simp only [B2,<-U,J];omega))) ?_;rintro _ _ ⟨sb,X,rfl⟩;obtain ⟨gb,cb,rfl⟩:=X.form;refine A3 Y<|Zq<|AP ?_;have gq:Row 5 (.slice gb (List.map u8v s.data.toList++[Value.int IntKind.u8 128]).length cb) ((Qw l 0).map u8v) sb:=by
  have e:(Qw l 0).map u8v=List.map u8v s.data.toList++[Value.int IntKind.u8 128]:=by rw [<-U];simp [Qw,u8v]
  rw [e];exact X
 refine Zb [4,0,3] ?_;refine BB (e0:=[(4,_)]) (fun m e H=>∃(k:Nat) (v:Value) (K:List A9),m=L6 s.size -k/\(k<=L6 s.size/\Row 5 v ((Qw l k).map u8v) K)/\e=[(4,v)]/\H=[K]) (by exact ⟨0,_,_,V,⟨C0 _,gq⟩,V,V⟩) Wp ?_;rintro _ _ _ ⟨k,v,K,rfl,⟨hk,B⟩,rfl,rfl⟩;obtain ⟨gv,cv,rfl⟩:=B.form;refine Zq<|A0<|Zm Y<|Zv (Ab HA Y)<|BX (FQ (n:=64) Y Y A1)<|Zv (FR (n:=56) Y Y)<|A4<|Av Y (fun G=>?_) (fun G=>?_)
 ·
  rw [B2,Ld,J]at G;have cO:=uw _ _ hk G
  refine AC<|Zx<|AP<|Zg<|Zm Y<|Ze (Ah (vs:=[_]) (cs:=[_]) HA Hv S4 Y V rfl V rfl V)<|AD fun b5=>Ze (EQ (by_:=1) (news:=[_]) HA (V:Tryz.prog.info? 5=some Tryz.t5) V rfl V rfl Y B Y Wo Wh AM V Fm AN (by(simp only [B2,Ld,J];omega)) (by(simp only [B2,Ld,J];omega))) ?_;rintro _ _ ⟨sc,Z,rfl⟩;obtain ⟨gc,cc,rfl⟩:=Z.form;refine AG Y<|A8<|Zn [4,0,3] ?_;refine Aa (e':=[(4,_)]) (by exact ⟨k+1,_,_,rfl,⟨cO,by rw [<-kM];exact Z⟩,rfl,rfl⟩)
 rw [B2,Ld,J]at G;have ek:=uy _ _ hk A1
 subst ek;refine Ay<|Zt<|Zt<|AR<|Zx<|Zq<|A0<|A3 Y<|AP<|Zb [4,5,0,3] ?_;refine BB (e0:=[(4,_),(5,_)]) (fun m e H=>∃(j:Nat) (i:Int) (v:Value) (K:List A9),m=8 -j/\(j<=8/\i=7 -(j:Int)/\Row 5 v ((UK l j).map u8v) K)/\e=[(4,v),(5,I4 i)]/\H=[K]) (by exact ⟨0,_,_,_,rfl,⟨C0 _,rfl,by rw [kN,J];exact B⟩,rfl,rfl⟩) Wp ?_;rintro _ _ _ ⟨j,i,v,K,rfl,⟨hj,hi,B⟩,rfl,rfl⟩;obtain ⟨gv,cv,rfl⟩:=B.form;refine Zq<|A0<|Zm Y<|Zv (H5 Y Y)<|A4<|Av Y (fun O=>?_) (fun O=>?_)
 ·
  obtain ⟨q,rfl⟩:=Int.eq_ofNat_of_zero_le O;refine AC<|Zx<|Zq<|AP<|Zg<|Zm Y<|Zm Y<|Zv (Q4 GO Y)<|BX (Ey (m:=8) Y Y A1)<|Zm Y<|BX (Ey (m:=8) Y Y A1)<|BX (Py Y Y (by first|decide|(simp [IntKind.bits];done)|(simp [IntKind.bits];omega)))<|Ka (Em Cl Ln Y (wM _)) rfl rfl ?_;refine Ze (Ah (vs:=[_]) (cs:=[_]) HA Hv S4 Y V rfl V rfl V)<|AD fun b7=>Ze (EQ (by_:=1) (news:=[_]) HA (V:Tryz.prog.info? 5=some Tryz.t5) V rfl V rfl Y B Y Wo Wh AM V Fm AN (by(simp only [B2,Yd l j hj,J];omega)) (by(simp only [B2,Yd l j hj,J];omega))) ?_;rintro _ _ ⟨sd,af,rfl⟩;obtain ⟨gd,cd,rfl⟩:=af.form;refine AG Y<|Zn [0,3,4,5] ?_;refine A8<|Zx<|Zg<|Zm Y ?_
  (refine BX (GG Y Y (IntWalk.i64_in _ ?_)) ?_;(focus (omega)))
  refine AG Y<|Zn [4,5,0,3] ?_;refine Aa (e':=[(4,_),(5,_)]) (by exact ⟨j+1,_,_,_,rfl,⟨by omega,by omega,by rw [<-kP l j q A1,J];exact af⟩,rfl,rfl⟩)
 have ej:j=8:=by omega
 subst ej;refine Ay<|Zt<|Zt<|AR<|Zx<|Zq<|Zq ?_;rw [VS]at B;obtain ⟨M,hM⟩:∃M,(Gn l).length=64*M:=⟨(Gn l).length/64,by have:=di l;omega⟩;have gm:=Sl l
 rw [J]at gm;rw [VS];obtain ⟨g,cap,cur,z,hv,rfl,d9,cu,kv,gy,l5⟩:=B.some (by rw [B2];omega);simp only [Value.slice.injEq]at hv;obtain ⟨rfl,_,rfl⟩:=hv;rw [B2]at d9;rw [B2,hM];refine Zg<|Zm Y<|Zc [_,_] Y call304 Y V (gF _ _ _) ?_;rintro _ _ ⟨_,⟨bs,bn,rfl,rfl⟩,rfl⟩;refine A4<|AP<|Zb [3,34] ?_;refine Qt (H0:=_) (R:=_) (I:=(fun pre H=>H=[[(bh,.cells (v8c (JG pre.length h0 (Gn l))) 406 (0,0))],[(g,.cells cur 5 z)],[(4,.cells (En.map Co).toArray Tg zg)]])) (asg:=fun x=>[(6,QG g x),(35,QG g x)]) V Y call332 (gG g cv M bs bn A1 cu) Y V Wp (V) ?ha_6 ?hbd_6 ?hk_6
 case ha_6=>
  intro _ x _ _;refine Zg<|Za Y<|Z0 ?_;exact qY
 case hbd_6=>
  intro l pre x j5 u H1 R1 j3 hI;subst hI;obtain ⟨ic,l9⟩:=jw j3;subst ic;refine AP<|Zg<|Zm Y<|Zc [_,_] Y call305 Y rfl (uX _ _ _ _ _ _ _ _ (by rw [C2,C3];omega) (aY gy _ A1) _ _ _ _) ?_;rintro _ _ ⟨_,⟨rfl,rfl⟩,rfl⟩;refine Z0<|A8<|Ez rfl (by rw [B7,E0,Qq])
 intro D1 H2 ax;subst ax;refine Zn [3] ?_;refine A8<|Zx<|A0<|Zo Wh (AA (cs:=v8c (JG M h0 (Gn l))) isAgg406 sizeOf406 Y Wn (by rw [aq];exact IR _ _ rfl)) ?_;refine Xr [_] Y call306 Y V (aQ _) ?_;refine A3 Y<|AJ<|GI rfl (dF results278 Y) Wo (by exact ⟨by rw [<-U,vS l M hM],rfl⟩)
end Go.Proofs.YteaiajghbkenoaaGreatDoor
