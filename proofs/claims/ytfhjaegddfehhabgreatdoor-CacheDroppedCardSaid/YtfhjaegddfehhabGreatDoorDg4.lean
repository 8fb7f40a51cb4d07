/- Contracts: bits.RotateLeft32 at the counts of the program, digest.mixed, digest.schedule. -/
import Derived.Test.YtfhjaegddfehhabGreatDoorA1
import Derived.Test.YtfhjaegddfehhabGreatDoorSha
import Derived.Test.YtfhjaegddfehhabGreatDoorLin2
set_option linter.unusedVariables false
set_option linter.unusedSimpArgs false
namespace Go.Proofs.YtfhjaegddfehhabGreatDoor
open Go.Proofs.Tryz
open Go Go.RowKit Gw
set_option maxRecDepth 100000
attribute [local irreducible] Gw.At Gw.Nx Gw.Ops
theorem lU(x:UInt32)(n m:Nat)(h0:0<n)(g:n<32)(B:n+m=32):(x<<<UInt32.ofNat m)|||(x>>>UInt32.ofNat n)=rC x (UInt32.ofNat n):=by
 unfold rC;have:(32:UInt32) -UInt32.ofNat n=UInt32.ofNat m:=by
  apply UInt32.toNat_inj.1;rw [UInt32.toNat_sub,mC,mC];simp only [UInt32.reduceToNat];omega
 rw [this]
theorem xW(n m:Nat)(h0:0<n)(B:n<32)(G:n+m=32):bits .and .u64 (IntKind.u64.wrap (-(n:Int))) 31=(m:Int):=by
 have h:IntKind.u64.wrap (-(n:Int))=((18446744073709551616 -n:Nat):Int):=by rw [IntKind.wrap_u64];omega
 have g:(31:Int)=((31:Nat):Int):=rfl;rw [h,g,u64_and_nat _ _ A1 A1,nat_mask5];omega
theorem lT(x:UInt32)(n:Nat)(h0:0<n)(g:n<32):BB prog 329 #[.int .u32 x.toNat,I4 (-(n:Int))] [] (.int .u32 (rC x (UInt32.ofNat n)).toNat):=by
 refine Kn func329 V ntmps329 V ?_;intro u R;obtain ⟨m,B⟩:∃m,n+m=32:=⟨32 -n,by omega⟩;refine Zb [0,1] ?_;refine A0<|A4 Y<|A0<|Zm Y<|Kz (Ep CM Wk Y V) V rfl<|Kz (sS Y Y (xW n m h0 g B)) V rfl<|A4 Y<|A0<|Zm Y<|Zm Y<|BV (Mt Y Y A1)<|Zm Y<|Zm Y<|BV (Un (m:=32) Y Y A1 A1)<|BV (Ms Y Y A1)<|Zv (PG Y Y)<|AN Y<|Zn [4] ?_;refine Zx<|AJ<|AO V results329 Y (by
  have e:32 -m=n:=by omega
  exact ⟨by rw [e,lU x n m h0 g B],rfl⟩)
theorem tV(x:UInt32)(l:List UInt32)(n:UInt32):Xa x (l++[n])=Xa x l^^^rC x n:=by simp [Xa]
def qq(n:Nat):A3:=I4 (n:Int)
theorem ky{α β:Type}(f:α->β)(l:List α)(k:Nat)(d:α)(h:k<l.length):(l.take (k+1)).map f=(l.take k).map f++[f (l.getD k d)]:=by
 rw [oR h,C2];simp [N6,B7 h]
theorem Xo{α:Type}(f:α->A3)(l:List α)(k:Nat)(d:α)(h:k<l.length):(l.map f).toArray[k]?=some (f (l.getD k d)):=by
 simp [B7 h,N6]
theorem Ic(x:UInt32)(l:List Nat)(g cap:Nat)(T:AK)(z:Nat×Nat)(I:∀n∈l,0<n/\n<32)(hn:l.length<=100):
 BB prog 315 #[.int .u32 x.toNat,I6 g l.length cap] [[(g,.cells (l.map qq).toArray T z)]] (.int .u32 (Xa x (l.map UInt32.ofNat)).toNat):=by
 refine Se func315 ntmps315 [0,1] ?_;intro u R;refine A0<|A4 Y<|A0<|A4 Y<|Zq<|A0<|Zm Y<|Zv (AY DH Y)<|Zm Y<|A5<|AQ<|Zb [5,10,0,8,9] ?_;refine BA (e0:=[(5,_),(10,_)]) (fun m e H=>∃k:Nat,m=l.length -k/\(k<=l.length)/\e=[(5,.int .u32 ((Xa x ((l.take k).map UInt32.ofNat)).toNat:Int)),(10,I4 (k:Int))]/\H=[]) (by exact ⟨0,V,C5 _,V,V⟩) Wp ?_;rintro _ _ _ ⟨k,rfl,J,rfl,rfl⟩;refine A0<|Zv (Au Y Y)<|A5<|Zq<|Aq Y (fun G=>?_) (fun G=>?_);·
  refine AC<|Zx<|Zq<|AQ<|A0<|BV (BU DH A6 Y Y A1)<|Zl AF Y (hv:=by exact Xo qq l k 0 A1)<|AN Y<|Zx ?_;have B:=I (l.getD k 0) (by rw [N6,B7 A1];exact ph _)
  refine Zg<|Zm Y<|Zm Y<|Zm Y<|Kz (jf (c:=-(l.getD k 0:Int)) Y (by rw [Int.zero_sub];exact IntWalk.i64_in _ A1)) rfl rfl<|Xr [_,_] Y call329 Y rfl (lT _ _ B.1 B.2)<|Zv (FY Y Y)<|AN Y<|A8<|Zx<|Zg<|Ya (n:=1) Y Y<|Zm Y<|Z0<|Zn [5,10,0,8,9] ?_;refine Ab (e':=[(5,_),(10,_)]) (by exact ⟨k+1,rfl,by omega,by rw [ky _ _ _ 0 A1,tV],rfl⟩)
 refine Ay<|Zt<|Zt<|AR<|Zx<|A0<|Zm Y<|A4 Y<|AJ<|AO V results315 Y (by
  have e:k=l.length:=by omega
  exact ⟨by rw [e,GS],rfl⟩)
def Ei(l:List UInt32):List A3:=l.map Ct++List.replicate (64 -l.length) (.int .u32 0)
theorem Cb(l:List UInt32)(h:l.length<=64):(Ei l).length=64:=by simp [Ei];omega
theorem dU(l:List UInt32)(i:Nat)(h:i<l.length):(Ei l).toArray[i]?=some (Ct (l.getD i 0)):=by
 simp [Ei,p6,h,N6]
theorem dR(l:List UInt32)(x:UInt32)(h:l.length<64):(Ei l).toArray.setIfInBounds l.length (Ct x)=(Ei (l++[x])).toArray:=by
 rw [oS];congr 1;unfold Ei;rw [mB _ _ B4];simp only [B8,Wf,BW,Dd,LI];obtain ⟨n,hn⟩:∃n,64 -l.length=n+1:=⟨63 -l.length,by omega⟩;rw [hn,show 64 -(l.length+(0+1))=n by omega];simp [List.replicate_succ]
theorem Ja(b:List UInt8)(k:Nat)(x:UInt32)(h:k<64)(hx:Fe b (k+1)=Fe b k++[x]):(Ei (Fe b k)).toArray.setIfInBounds k (.int .u32 (x.toNat:Int))=(Ei (Fe b (k+1))).toArray:=by
 have:=dR (Fe b k) x (by rw [CV];exact h);rw [CV]at this;rw [hx];exact this
theorem dS(l:List UInt32):∀v∈(Ei l).toArray.toList,v.oneCell'=true:=by
 intro v hv;simp only [Ei,Bm,C3,List.mem_replicate]at hv;rcases hv with⟨x,_,rfl⟩|⟨_,rfl⟩<;>rfl
theorem YQ(l:List UInt32)(h:l.length=64):Ei l=l.map Ct:=by simp [Ei,h]
theorem qA(b:List UInt8)(k:Nat)(h:k<16):Fe b (k+1)=Fe b k++[dN b k]:=by rw [Fe,Ax h]
theorem Rx(b:List UInt8)(k:Nat)(h:16<=k):Fe b (k+1)=Fe b k++[ZX (Fe b k) k]:=by rw [Fe,An A1]
def NJ(c:AH)(o:Nat)(bs:List UInt8):Prop:=(c.toList.drop o).take bs.length=bs.map u8v
theorem NJ.get{c:AH}{o:Nat}{bs:List UInt8}(h:NJ c o bs)(j:Nat)(m:j<bs.length):c[o+j]?=some (u8v (bs.getD j 0)):=by
 have g:((c.toList.drop o).take bs.length)[j]?=(bs.map u8v)[j]?:=by rw [h]
 rw [HJ,Ax m,Q2,E0,B7 m]at g;rw [HR]at g;rw [g];simp [N6,B7 m]
theorem Kj(b:List UInt8)(k i:Nat)(h:i<k):(Ei (Fe b k)).toArray[i]?=some (Ct ((Fe b k).getD i 0)):=dU _ _ (by rw [CV];exact h)
theorem eF(g o cap:Nat)(c:AH)(T:AK)(z:Nat×Nat)(bs:List UInt8)(hb:bs.length=64)(hc:NJ c o bs):
 BB prog 314 #[.slice (some ⟨g,o,none⟩) 64 cap] [[(g,.cells c T z)]] (.agg ((jY bs).map Ct).toArray):=by
 refine Se func314 ntmps314 [0] ?_;intro u R;refine A0<|Ze (EZ zeroValue418 (cs:=(Ei []).toArray) AE)<|AG fun J=>A5<|Zq<|A0<|Zm Y<|A5<|AQ<|Zb [7,0,2] ?_;refine BA (e0:=[(7,_)]) (fun m e H=>∃k:Nat,m=16 -k/\(k<=16)/\e=[(7,I4 (k:Int))]/\H=[[(J,.cells (Ei (Fe bs k)).toArray 418 (0,0))]]) (by exact ⟨0,V,C5 _,V,V⟩) Wp ?_;rintro _ _ _ ⟨k,rfl,O,rfl,rfl⟩;refine A0<|Zv (Au (n:=16) Y Y)<|A5<|Zq<|Aq Y (fun G=>?_) (fun G=>?_);·
  refine AC<|Zx<|Zq<|AQ<|A0<|Zm Y<|A4 Y<|Az (n:=36) (0::0::0::4::14::30::62::126::0::0::512::1536::3840::7936::16128::32512::65534::0::0::262144::786432::1966080::4063232::8257536::16646144::33554430::0::0::134217728::402653184::1006632960::2080374784::4227858432::8589934590::17179869183::34359738367::[]) 34359738368 AE AE rfl<|A2 0 rfl (AP Y)<|A2 1 rfl (AP Y)<|A2 2 rfl (AP Y)<|A2 3 rfl (F6 (m:=4) Y Y A1)<|A2 4 rfl (CF HM K0 Y Y (by first|omega|(rw [HD,Cb _ (by rw [CV];omega)];omega)))<|B9 5 rfl UP Y (hv:=by exact hc.get _ A1) ?_;refine A2 6 rfl (IM N1 Tl Y)<|A2 7 rfl (Mt (n:=24) Y Y A1)<|A2 8 rfl (AP Y)<|A2 9 rfl (AP Y)<|A2 10 rfl (F6 (m:=4) Y Y A1)<|A2 11 rfl (ED (n:=1) Y Y A1)<|A2 12 rfl (CF HM K0 Y Y (by first|omega|(rw [HD,Cb _ (by rw [CV];omega)];omega)))<|B9 13 rfl UP Y (hv:=by exact hc.get _ A1) ?_;refine A2 14 rfl (IM N1 Tl Y)<|A2 15 rfl (Mt (n:=16) Y Y A1)<|A2 16 rfl (PG Y Y)<|A2 17 rfl (AP Y)<|A2 18 rfl (AP Y)<|A2 19 rfl (F6 (m:=4) Y Y A1)<|A2 20 rfl (ED (n:=2) Y Y A1)<|A2 21 rfl (CF HM K0 Y Y (by first|omega|(rw [HD,Cb _ (by rw [CV];omega)];omega)))<|B9 22 rfl UP Y (hv:=by exact hc.get _ A1) ?_;refine A2 23 rfl (IM N1 Tl Y)<|A2 24 rfl (Mt (n:=8) Y Y A1)<|A2 25 rfl (PG Y Y)<|A2 26 rfl (AP Y)<|A2 27 rfl (AP Y)<|A2 28 rfl (F6 (m:=4) Y Y A1)<|A2 29 rfl (ED (n:=3) Y Y A1)<|A2 30 rfl (CF HM K0 Y Y (by first|omega|(rw [HD,Cb _ (by rw [CV];omega)];omega)))<|B9 31 rfl UP Y (hv:=by exact hc.get _ A1) ?_;refine A2 32 rfl (IM N1 Tl Y)<|A2 33 rfl (PG Y Y)<|A2 34 rfl (BJ W0 G1 Y Y (by first|omega|(rw [HD,Cb _ (by rw [CV];omega)];omega)))<|Yw 35 68719476735 rfl (Zs G1 Y Y rfl (hc:=by exact Ja bs k (dN bs k) A1 (qA bs k A1)) (hi:=by(rw [HD,Cb _ (by rw [CV];omega)];omega)))<|D4<|Ag<|Zn [0,2,7] ?_;refine A8<|Zx<|Zg<|Ya (n:=1) Y Y<|Zm Y<|Z0<|Zn [7,0,2] ?_;refine Ab (e':=[(7,_)]) (by exact ⟨k+1,V,by omega,V,V⟩)
 refine Ay<|Zt<|Zt<|AR<|Zx<|Zq<|A0<|A4 Y<|AQ ?_;have B:k=16:=by omega
 subst B;refine Zb [4,2] ?_;refine BA (e0:=[(4,_)]) (fun m e H=>∃k:Nat,m=64 -k/\(16<=k/\k<=64)/\e=[(4,I4 (k:Int))]/\H=[[(J,.cells (Ei (Fe bs k)).toArray 418 (0,0))]]) (by exact ⟨16,V,by omega,V,V⟩) Wp ?_;rintro _ _ _ ⟨k,rfl,⟨U,O⟩,rfl,rfl⟩;refine Zq<|A0<|Zm Y<|Zv (Au (n:=64) Y Y)<|A5<|Aq Y (fun I=>?_) (fun I=>?_);·
  refine AC<|Zx<|Zq<|AQ<|Zq<|Az (n:=10) (0::1::3::7::0::16::48::112::15::511::[]) 0 AE AE V<|A2 0 V (AP Y) ?_
  (refine Dr (D':=3) 1 (CQ (n:=15) Y Y ?_ ?_) ?_;(focus (omega));(focus (omega)))
  refine A2 2 V (BJ W0 G1 Y Y A1)<|B9 3 V Hv Y (hv:=by exact Kj bs k _ A1) ?_;refine A2 4 V (AP Y) ?_
  (refine Dr (D':=63) 5 (CQ (n:=2) Y Y ?_ ?_) ?_;(focus (omega));(focus (omega)))
  refine A2 6 V (BJ W0 G1 Y Y A1)<|B9 7 V Hv Y (hv:=by exact Kj bs k _ A1) ?_;refine A2 8 V (Aw Y)<|A2 9 V (Aw Y)<|Ag<|Zx<|Az (n:=26) (0::0::2::6::14::0::0::96::0::256::992::2046::0::4096::12288::28672::65534::0::0::393440::0::1048576::4063456::8388606::16777215::33554431::[]) 34341056 AE AE V<|A2 0 V (AP Y)<|A2 1 V (AP Y) ?_
  (refine Dr (D':=7) 2 (CQ (n:=16) Y Y ?_ ?_) ?_;(focus (omega));(focus (omega)))
  refine A2 3 rfl (BJ W0 G1 Y Y (by first|omega|(rw [HD,Cb _ (by rw [CV];omega)];omega)))<|B9 4 rfl Hv Y (hv:=by exact Kj bs k _ A1) ?_;refine A2 5 V (AP Y)<|A2 8 V (AP Y)<|A2 9 V (Ms (n:=3) Y Y A1)<|A2 12 V (AP Y) ?_
  (refine Dr (D':=13119) 13 (CQ (n:=7) Y Y ?_ ?_) ?_;(focus (omega));(focus (omega)))
  refine A2 14 rfl (BJ W0 G1 Y Y (by first|omega|(rw [HD,Cb _ (by rw [CV];omega)];omega)))<|B9 15 rfl Hv Y (hv:=by exact Kj bs k _ A1) ?_;refine A2 17 V (AP Y)<|A2 20 V (AP Y)<|A2 21 V (Ms (n:=10) Y Y A1)<|Zz (l:=[6,18])<|B5 [true,true] [(15,(_,_)),(4,(_,_))] V rfl (Ai (vs:=[_,_]) (cs:=[_,_]) DH A6 HG Y V rfl V rfl V) ?_ (fun _ _ h=>h.elim) ?_;·
   rintro _ _ ⟨W,rfl,rfl⟩;refine BT<|Zz (l:=[7,18])<|B5 [true,true] [(15,(_,_)),(4,(_,_))] V rfl (Zu [_,_] Y cI Y V (Ic _ [7,18] _ _ _ _ AW AW)) ?_ (fun _ _ h=>h.elim) ?_;·
    rintro _ _ ⟨rfl,rfl⟩;refine BT<|A2 10 V (FY Y Y)<|A2 11 V (Dh Y Y)<|A2 16 V (Dh Y Y)<|Zz (l:=[18])<|B5 [true,true] [(15,(_,_)),(4,(_,_))] V rfl (Ai (vs:=[_,_]) (cs:=[_,_]) DH A6 HG Y V rfl V rfl V) ?_ (fun _ _ h=>h.elim) Ah;rintro _ _ ⟨X,rfl,rfl⟩;refine BT<|Yz 19 393440 4194303 [15,4] [true,true] [(15,(_,_)),(4,(_,_))] V Y V rfl V rfl (Zu [_,_] Y cI Y V (Ic _ [17,19] _ _ _ _ AW AW))<|D4<|BT<|A2 22 rfl (FY Y Y)<|A2 23 rfl (Dh Y Y)<|A2 24 rfl (BJ W0 G1 Y Y (by first|omega|(rw [HD,Cb _ (by rw [CV];omega)];omega)))<|Yw 25 67108863 rfl (Zs G1 Y Y rfl (hc:=by exact Ja bs k (ZX (Fe bs k) k) A1 (Rx bs k A1)) (hi:=by(rw [HD,Cb _ (by rw [CV];omega)];omega)))<|D4<|Ag<|Zn [2,4] ?_;refine A8<|Zx<|Zg<|Zm Y<|Ya (n:=1) Y Y<|AN Y<|Zn [4,2] ?_;refine Ab (e':=[(4,_)]) (by exact ⟨k+1,V,by omega,V,V⟩)
   refine B5 [true,true] [(15,(_,_)),(4,(_,_))] V rfl (Ai (vs:=[_,_]) (cs:=[_,_]) DH A6 HG Y V rfl V rfl V) ?_ (fun _ _ h=>h.elim) Ah;rintro _ _ ⟨Z,rfl,rfl⟩;refine BT<|Yz 7 96 3601407 [15,4] [true,true] [(15,(_,_)),(4,(_,_))] V Y V rfl V rfl (Zu [_,_] Y cI Y V (Ic _ [7,18] _ _ _ _ AW AW))<|D4<|BT<|A2 10 V (FY Y Y)<|A2 11 V (Dh Y Y)<|A2 16 V (Dh Y Y)<|Zz (l:=[19])<|B5 [true,true] [(15,(_,_)),(4,(_,_))] V rfl (Zu [_,_] Y cI Y V (Ic _ [17,19] _ _ _ _ AW AW)) ?_ (fun _ _ h=>h.elim) Ah;rintro _ _ ⟨rfl,rfl⟩;refine BT<|A2 22 rfl (FY Y Y)<|A2 23 rfl (Dh Y Y)<|A2 24 rfl (BJ W0 G1 Y Y (by first|omega|(rw [HD,Cb _ (by rw [CV];omega)];omega)))<|Yw 25 67108863 rfl (Zs G1 Y Y rfl (hc:=by exact Ja bs k (ZX (Fe bs k) k) A1 (Rx bs k A1)) (hi:=by(rw [HD,Cb _ (by rw [CV];omega)];omega)))<|D4<|Ag<|Zn [2,4] ?_;refine A8<|Zx<|Zg<|Zm Y<|Ya (n:=1) Y Y<|AN Y<|Zn [4,2] ?_;refine Ab (e':=[(4,_)]) (by exact ⟨k+1,V,by omega,V,V⟩)
  refine B5 [true,true] [(15,(_,_)),(4,(_,_))] V rfl (Ai (vs:=[_,_]) (cs:=[_,_]) DH A6 HG Y V rfl V rfl V) ?_ (fun _ _ h=>h.elim) Ah;rintro _ _ ⟨b5,rfl,rfl⟩;refine BT<|Yz 6 0 3601279 [15,4] [true,true] [(15,(_,_)),(4,(_,_))] V Y V rfl V rfl (Ai (vs:=[_,_]) (cs:=[_,_]) DH A6 HG Y V rfl V rfl V)<|AG fun b6=>BT<|Yz 7 96 3601407 [15,4] [true,true] [(15,(_,_)),(4,(_,_))] V Y V rfl V rfl (Zu [_,_] Y cI Y V (Ic _ [7,18] _ _ _ _ AW AW))<|D4<|BT<|A2 10 V (FY Y Y)<|A2 11 V (Dh Y Y)<|A2 16 V (Dh Y Y)<|Zz (l:=[19])<|B5 [true,true] [(15,(_,_)),(4,(_,_))] V rfl (Zu [_,_] Y cI Y V (Ic _ [17,19] _ _ _ _ AW AW)) ?_ (fun _ _ h=>h.elim) Ah;rintro _ _ ⟨rfl,rfl⟩;refine BT<|A2 22 rfl (FY Y Y)<|A2 23 rfl (Dh Y Y)<|A2 24 rfl (BJ W0 G1 Y Y (by first|omega|(rw [HD,Cb _ (by rw [CV];omega)];omega)))<|Yw 25 67108863 rfl (Zs G1 Y Y rfl (hc:=by exact Ja bs k (ZX (Fe bs k) k) A1 (Rx bs k A1)) (hi:=by(rw [HD,Cb _ (by rw [CV];omega)];omega)))<|D4<|Ag<|Zn [2,4] ?_;refine A8<|Zx<|Zg<|Zm Y<|Ya (n:=1) Y Y<|AN Y<|Zn [4,2] ?_;refine Ab (e':=[(4,_)]) (by exact ⟨k+1,V,by omega,V,V⟩)
 refine Ay<|Zt<|Zt<|AR<|Zx<|A0<|Zo Wh (AA isAgg418 sizeOf418 Y (by(rw [HD,Cb _ (by rw [CV];omega)];omega)) (by exact Ih _ _ (by rw [HD,Cb _ (by rw [CV];omega)]))) ?_;refine Xe (BM sizeOf418 Y Y (by exact dS _) Wu (by exact sV _) (by rw [HD,Cb _ (by rw [CV];omega)]) (by(rw [HD,Cb _ (by rw [CV];omega)];omega)) (by exact BC _)) ?_;refine A5<|AJ<|Cs rfl results314 Y Wh (Am isAgg418 sizeOf418 (by(rw [HD,Cb _ (by rw [CV];omega)];omega)) (Ih _ _ (by rw [HD,Cb _ (by rw [CV];omega)]))) (by
  have e:k=64:=by omega
  exact ⟨by rw [e,YQ _ (CV _ _)];rfl,rfl⟩)
def v8c(v:V8):AH:=#[Ct v.a,Ct v.b,Ct v.c,Ct v.d,Ct v.e,Ct v.f,Ct v.g,Ct v.h]
theorem qD(v:V8):v8c v=(v.list.map Ct).toArray:=rfl
theorem wx(k:Nat)(h:k<64):(Er.map Ct).toArray[k*1]?=some (Ct (Er.getD k 0)):=by rw [Mz];exact Xo Ct Er k 0 (by rw [uL];exact h)
def WL(x y:V8)(i:Nat):List UInt32:=(zL x y).list.take i++x.list.drop i
theorem NB(x y:V8)(i:Nat)(h:i<=8):(WL x y i).length=8:=by
 have:(zL x y).list.length=8:=rfl;have h2:x.list.length=8:=rfl
 simp [WL,this,h2];omega
theorem o5(x y:V8)(i:Nat)(h:i<8):((WL x y i).map Ct).toArray[i]?=some (Ct (x.list.getD i 0)):=by
 have:i=0\/i=1\/i=2\/i=3\/i=4\/i=5\/i=6\/i=7:=by omega
 rcases this with rfl|rfl|rfl|rfl|rfl|rfl|rfl|rfl<;>rfl
theorem qF(y:V8)(i:Nat)(h:i<8):(v8c y)[i]?=some (Ct (y.list.getD i 0)):=by
 have:i=0\/i=1\/i=2\/i=3\/i=4\/i=5\/i=6\/i=7:=by omega
 rcases this with rfl|rfl|rfl|rfl|rfl|rfl|rfl|rfl<;>rfl
theorem nz(x y:V8)(i:Nat)(h:i<8):((WL x y i).map Ct).toArray.setIfInBounds i (.int .u32 ((x.list.getD i 0+y.list.getD i 0).toNat:Int))=((WL x y (i+1)).map Ct).toArray:=by
 have:i=0\/i=1\/i=2\/i=3\/i=4\/i=5\/i=6\/i=7:=by omega
 rcases this with rfl|rfl|rfl|rfl|rfl|rfl|rfl|rfl<;>rfl
theorem df(x:V8)(k:Nat)(m:List UInt32)(v:V8)(hx:x=Lv m v k):
 ((#[Ct x.a,Ct x.a,Ct x.b,Ct x.c,Ct x.d,Ct x.e,Ct x.f,Ct x.g]:AH).setIfInBounds 0 (.int .u32 ((Gw.D7 x (Er.getD k 0) (m.getD k 0)+zR x).toNat:Int))).setIfInBounds 4 (.int .u32 ((x.d+Gw.D7 x (Er.getD k 0) (m.getD k 0)).toNat:Int))=v8c (Lv m v (k+1)):=by
 subst hx;rfl
theorem lI(bs:List UInt8):(jY bs).length=64:=CV bs 64
theorem qm(g:List UInt32)(h:g.length=64):((g.map Ct).toArray).size=64:=by rw [HD,B8,h]
theorem qy(g:List UInt32)(h:g.length=64):EO (Ei []).toArray 0 ((g.map Ct).toArray).toList=(g.map Ct).toArray:=
 ZP (Ei []).toArray (g.map Ct) (by rw [B8,h];rfl)
theorem xD:0+64<=((Ei []).toArray).size:=by rw [HD,Cb _ (C5 _)];exact D2 _
theorem jM(v:V8):∀x∈(v8c v).toList,x.oneCell'=true:=by
 intro x hx;rw [qD]at hx;simp only [C3]at hx;obtain ⟨y,_,rfl⟩:=hx;rfl
theorem qJ(l:List UInt32):∀x∈(l.map Ct).toArray.toList,x.oneCell'=true:=by
 intro x hx;simp only [C3]at hx;obtain ⟨y,_,rfl⟩:=hx;rfl
theorem wN(J g o cap:Nat)(c:AH)(T:AK)(z:Nat×Nat)(bs:List UInt8)(hb:bs.length=64)(hc:NJ c o bs)(O Z:AK)(zg:Nat×Nat)(v:V8):
 BZ prog 277 #[I5 J,.slice (some ⟨g,o,none⟩) 64 cap] [[(J,.cells (v8c v) O (0,0))],[(g,.cells c T z)],[(2,.cells (Er.map Ct).toArray Z zg)]]
  (fun r H'=>r= .tuple #[]/\H'=[[(J,.cells (v8c (Y8 v bs)) O (0,0))],[(g,.cells c T z)],[(2,.cells (Er.map Ct).toArray Z zg)]]):=by
 refine Kn func277 V ntmps277 V ?_;intro u R;obtain ⟨B,G⟩:∃B,B=jY bs:=⟨_,rfl⟩;have hw:B.length=64:=by rw [G];exact lI bs
 have I:=eF g o cap c T z bs hb hc;rw [<-G]at I;have U:Y8 v bs=zL v (Lv B v 64):=by rw [G];rfl
 clear G;rw [U];refine Zb [0,1] ?_;refine A0<|Zm Y<|Xr [_] Y call314 Y V (I) ?_;refine Ze (EZ zeroValue418 (cs:=(Ei []).toArray) AE)<|AG fun bw=>Xe (BM sizeOf418 Y Y (by exact qJ _) Wu (by exact qy B hw) (by exact qm B hw) (by exact xD) (by exact BC _)) ?_;refine A5<|A0<|Zm Y<|Zp Y V<|Zo Wh (AA (cs:=v8c v) isAgg392 sizeOf392 Y Wn As) ?_;refine Ze (Al zeroValue392 #[_,_,_,_,_,_,_,_])<|AG fun bv=>Xe (BM sizeOf392 Y Y (by exact jM v) Wu (by exact (rfl:_=v8c (Lv B v 0))) Fc Wn (by exact BC _)) ?_;refine A5<|Zq<|A0<|Zo Wh (AA (cs:=(Er.map Ct).toArray) isAgg418 sizeOf418 Y (by exact D2 _) (by exact Ih _ _ V)) ?_;refine Zm Y<|A5<|AQ<|Zb [19,0,4,5,18] ?_;refine BA (e0:=[(19,_)]) (fun m e H=>∃k:Nat,m=64 -k/\(k<=64)/\e=[(19,I4 (k:Int))]/\H=[[(bv,.cells (v8c (Lv B v k)) 392 (0,0))]]) (by exact ⟨0,V,C5 _,V,V⟩) Wp ?_;rintro _ _ _ ⟨k,rfl,hk,rfl,rfl⟩;obtain ⟨x,hx⟩:∃x,x=Lv B v k:=⟨_,rfl⟩;rw [<-hx];refine A0<|Zv (Au (n:=64) Y Y)<|A5<|Zq<|Aq Y (fun W=>?_) (fun W=>?_);·
  refine AC<|Zx<|Zq<|AQ<|A0<|Zm Y<|Zv (R4 W0 Hv G1 Y Y A1 (by exact wx k A1))<|Za Y<|A4 Y<|Zq<|Az (n:=6) (0::1::0::4::3::31::[]) 0 AE AE V<|A2 0 V (BJ (j:=0) Lo G1 Y Y A1)<|B9 1 V Hv Y ?_;refine A2 2 V (BJ (j:=4) Lo G1 Y Y A1)<|B9 3 V Hv Y ?_;refine A2 4 V (Aw Y)<|A2 5 V (Aw Y)<|Ag<|Zx<|Zq<|Az (n:=24) (0::1::0::0::12::31::0::0::128::448::0::1024::0::4096::15360::32704::65535::0::262143::0::524288::1572864::4194303::8388607::[]) 24 AE AE V<|A2 0 V (BJ (j:=7) Lo G1 Y Y A1)<|B9 1 V Hv Y ?_;refine A2 2 V (AP Y)<|A2 6 V (AP Y)<|A2 7 V (BJ (j:=5) Lo G1 Y Y A1)<|B9 8 V Hv Y ?_;refine A2 9 V (KS Y Y)<|A2 10 V (AP Y)<|A2 11 V (mP Y)<|A2 12 V (BJ (j:=6) Lo G1 Y Y A1)<|B9 13 V Hv Y ?_;refine A2 14 V (KS Y Y)<|A2 15 V (FY Y Y)<|A2 17 V (AP Y)<|A2 19 V (AP Y)<|A2 20 V (BJ W0 G1 Y Y A1)<|B9 21 V Hv Y (hv:=by exact Xo Ct B k 0 A1) ?_;refine Yz 3 0 3866575 [21,13,8,1] [true,true,true,true] [(21,(_,_)),(13,(_,_)),(8,(_,_)),(1,(_,_))] V Y V rfl V rfl (Ai (vs:=[_,_,_]) (cs:=[_,_,_]) DH A6 HG Y V rfl V rfl V)<|AG fun b3=>BT<|Yz 4 12 3866591 [21,13,8,1] [true,true,true,true] [(21,(_,_)),(13,(_,_)),(8,(_,_)),(1,(_,_))] V Y V rfl V rfl (Zu [_,_] Y cI Y V (Ic _ [6,11,25] _ _ _ _ AW AW))<|D4<|BT<|A2 5 V (Dh Y Y)<|A2 16 V (Dh Y Y)<|A2 18 V (Dh Y Y)<|A2 22 V (Dh Y Y)<|A2 23 V (Aw Y)<|Ag<|Zn [0,4,5,8,10,18,19] ?_;refine Zx<|Zq<|Az (n:=20) (0::0::3::0::0::16::56::0::0::256::896::2040::0::4096::0::16384::61440::131064::262143::524287::[]) 6 AE AE V<|A2 0 V (AP Y)<|A2 3 V (AP Y)<|A2 4 V (BJ (j:=1) Lo G1 Y Y A1)<|B9 5 V Hv Y ?_;refine A2 6 V (KS Y Y)<|A2 7 V (AP Y)<|A2 8 V (BJ (j:=2) Lo G1 Y Y A1)<|B9 9 V Hv Y ?_;refine A2 10 V (KS Y Y)<|A2 11 V (FY Y Y)<|A2 12 V (BJ (j:=1) Lo G1 Y Y A1)<|B9 13 V Hv Y ?_;refine A2 14 V (BJ (j:=2) Lo G1 Y Y A1)<|B9 15 V Hv Y ?_
  refine A2 16 V (KS Y Y)<|A2 17 V (FY Y Y)<|Zz (l:=[1])<|B5 [true,true,true,true] [(15,(_,_)),(13,(_,_)),(9,(_,_)),(5,(_,_))] V rfl (Ai (vs:=[_,_,_]) (cs:=[_,_,_]) DH A6 HG Y V rfl V rfl V) ?_ (fun _ _ h=>h.elim) Ah;rintro _ _ ⟨b4,rfl,rfl⟩;refine BT<|Yz 2 3 262143 [15,13,9,5] [true,true,true,true] [(15,(_,_)),(13,(_,_)),(9,(_,_)),(5,(_,_))] V Y V rfl V rfl (Zu [_,_] Y cI Y V (Ic _ [2,13,22] _ _ _ _ AW AW))<|D4<|BT<|A2 18 V (Dh Y Y)<|A2 19 V (Aw Y)<|Ag<|Zn [0,4,5,10,11,18,19] ?_;refine Zx<|Zq<|Az (n:=3) (0::0::3::[]) 4 AE AE V<|A2 0 V (QP (l:=1) Lo G1 Y Y A1)<|A2 1 V (TS (h:=7) Lo G1 Y Y A1)<|Yw 2 7 V (sn (cs:=[_,_,_,_,_,_,_]) (c':=#[_,_,_,_,_,_,_,_]) underlying421 G1 Y Y Wh Wu As As As (by exact D2 8) (BC _) (by simp [Value.oneCell',Ct]))<|D4<|Ag<|Zx<|Zg<|Zm Y<|Zm Y<|Zv (Dh Y Y)<|BV (BJ (j:=4) Lo G1 Y Y A1)<|Zl Hv Y ?_;refine Zm Y<|Zv (Dh Y Y)<|BV (BJ (j:=0) Lo G1 Y Y A1)<|Xe (Zs G1 Y Y V) ?_;refine BV (BJ (j:=4) Lo G1 Y Y A1)<|Xe (Zs G1 Y Y V (hc:=by exact (df x k B v hx))) ?_;refine Z0<|Zn [0,4,5,18,19] ?_;refine A8<|Zx<|Zg<|Ya (n:=1) Y Y<|Zm Y<|Z0<|Zn [19,0,4,5,18] ?_;refine Ab (e':=[(19,_)]) (by exact ⟨k+1,V,by omega,V,V⟩)
 refine Ay<|Zt<|Zt<|AR<|Zx<|A0<|Zm Y<|A5<|AQ ?_;have ek:k=64:=by omega
 subst ek;refine Zb [82,0,5] ?_;refine BA (e0:=[(82,_)]) (fun m e H=>∃i:Nat,m=8 -i/\(i<=8)/\e=[(82,I4 (i:Int))]/\H=[[(J,.cells ((WL v x i).map Ct).toArray O (0,0))]]) (by exact ⟨0,V,C5 _,V,V⟩) Wp ?_;rintro _ _ _ ⟨i,rfl,hi,rfl,rfl⟩;refine A0<|Zv (Au (n:=8) Y Y)<|A5<|Zq<|Aq Y (fun X=>?_) (fun X=>?_);·
  refine AC<|Zx<|Zq<|AQ<|A0<|Zm Y<|A4 Y<|Az (n:=12) (0::0::1::7::15::0::32::96::255::1::1023::2047::[]) 2048 AE AE rfl<|A2 0 rfl (AP Y)<|A2 1 rfl (AP Y)<|A2 2 rfl (Ap Y rfl)<|A2 3 rfl (BJ Lo G1 Y Y (by first|omega|(rw [HD,B8,NB _ _ _ A1];omega)))<|B9 4 rfl Hv Y (hv:=by exact o5 _ _ i A1) ?_;refine A2 5 rfl (AP Y)<|A2 6 rfl (BJ Lo G1 Y Y (by first|omega|(rw [HD,B8,NB _ _ _ A1];omega)))<|B9 7 rfl Hv Y (hv:=by exact qF _ i A1) ?_;refine A2 8 rfl (Dh Y Y)<|A2 9 rfl (Ap Y rfl)<|A2 10 rfl (BJ Lo G1 Y Y (by first|omega|(rw [HD,B8,NB _ _ _ A1];omega)))<|Yw 11 4095 rfl (Zs G1 Y Y rfl (hc:=by exact nz _ _ i A1) (hi:=by(rw [HD,B8,NB _ _ _ A1];omega)))<|D4<|Ag<|Zn [0,5,82] ?_;refine A8<|Zx<|Zg<|Ya (n:=1) Y Y<|Zm Y<|Z0<|Zn [82,0,5] ?_;refine Ab (e':=[(82,_)]) (by exact ⟨i+1,V,by omega,V,V⟩)
 have ei:i=8:=by omega
 subst ei;rw [<-hx];refine Ay<|Zt<|Zt<|AR<|Cw V results277 (by exact ⟨V,V⟩)
def TQ(N:Nat)(l:List UInt8):AH:=(l.map u8v++List.replicate (N -l.length) (Value.int .u8 0)).toArray
theorem sD(N:Nat)(l:List UInt8)(x:UInt8)(k:Nat)(g:k=l.length)(h:l.length<N):(TQ N l).setIfInBounds k (.int .u8 (x.toNat:Int))=TQ N (l++[x]):=by
 subst g;unfold TQ;rw [oS];congr 1;rw [mB _ _ B4];simp only [B8,Wf,BW,Dd,LI];obtain ⟨n,hn⟩:∃n,N -l.length=n+1:=⟨N -1 -l.length,by omega⟩;rw [hn,show N -(l.length+(0+1))=n by omega];simp [List.replicate_succ,u8v]
theorem Vt(N:Nat)(l:List UInt8)(h:l.length<=N):(TQ N l).size=N:=by simp [TQ];omega
theorem mM(N:Nat)(l:List UInt8)(h:l.length=N):(TQ N l).toList=l.map u8v:=by simp [TQ,h]
def RU(v:V8)(i k:Nat):List UInt8:=(v.list.take i).flatMap PI++(PI (v.list.getD i 0)).take k
theorem PH(v:V8)(i k:Nat)(hi:i<8)(g:k<=4):(RU v i k).length=4*i+k:=by
 have:i=0\/i=1\/i=2\/i=3\/i=4\/i=5\/i=6\/i=7:=by omega
 rcases this with rfl|rfl|rfl|rfl|rfl|rfl|rfl|rfl<;>simp [RU,V8.list,PI]<;>omega
theorem mU(v:V8)(i:Nat)(hi:i<8):RU v (i+1) 0=RU v i 4:=by
 have:i=0\/i=1\/i=2\/i=3\/i=4\/i=5\/i=6\/i=7:=by omega
 rcases this with rfl|rfl|rfl|rfl|rfl|rfl|rfl|rfl<;>rfl
theorem mR(v:V8)(i k:Nat)(g:k<4):RU v i (k+1)=RU v i k++[((v.list.getD i 0)>>>UInt32.ofNat (24 -8*k)).toUInt8]:=by
 have:k=0\/k=1\/k=2\/k=3:=by omega
 unfold RU;generalize v.list.getD i 0=x;rcases this with rfl|rfl|rfl|rfl
 · simp [PI]
 · simp [PI]
 · simp [PI]
 · have e:x>>>UInt32.ofNat (24 -8*3)=x:=by
    apply UInt32.toNat_inj.1;simp [UInt32.toNat_shiftRight]
   rw [e];simp [PI]
theorem jh(v:V8):RU v 8 0=sZ v:=rfl
theorem qE(y:V8)(i:Nat)(h:i<8):(v8c y)[i*1]?=some (Ct (y.list.getD i 0)):=by rw [Mz];exact qF y i h
theorem bR(v:V8):BB prog 278 #[.agg (v8c v)] [] (.string (str (sZ v))):=by
 refine Se func278 ntmps278 [0] ?_;intro u R;refine A0<|Ze (Es Y (cs:=(v8c v)) AE)<|AG fun O=>A4 Y<|A0<|Ze (EZ zeroValue422 (cs:=(TQ 32 [])) AE)<|AG fun G=>A5<|Zq<|A0<|Zo Wh (AA (cs:=v8c v) isAgg392 sizeOf392 Y (by exact D2 _) (by exact Ih _ _ V))<|Zm Y<|A5<|AQ<|Zb [8,3,7] ?_;refine BA (e0:=[(8,_)]) (fun m e H=>∃i:Nat,m=8 -i/\(i<=8)/\e=[(8,I4 (i:Int))]/\H=[[(G,.cells (TQ 32 (RU v i 0)) 422 (0,0))]]) (by exact ⟨0,V,C5 _,V,V⟩) Wp ?_;rintro _ _ _ ⟨i,rfl,hi,rfl,rfl⟩;refine A0<|Zv (Au (n:=8) Y Y)<|A5<|Zq<|Aq Y (fun g=>?_) (fun g=>?_);·
  refine AC<|Zx<|Zq<|AQ<|A0<|Zm Y<|Zv (R4 Lo Hv G1 Y Y A1 (by exact qE v i A1))<|Za Y<|A4 Y<|A0<|Zm Y<|A5<|AQ<|Zb [12,3,4,5,7,8] ?_;refine BA (e0:=[(12,_)]) (fun m e H=>∃k:Nat,m=4 -k/\(k<=4)/\e=[(12,I4 (k:Int))]/\H=[[(G,.cells (TQ 32 (RU v i k)) 422 (0,0))]]) (by exact ⟨0,V,C5 _,V,V⟩) Wp ?_;rintro _ _ _ ⟨k,rfl,U,rfl,rfl⟩;refine A0<|Zv (Au (n:=4) Y Y)<|A5<|Zq<|Aq Y (fun B=>?_) (fun B=>?_);·
   refine AC<|Zx<|Zq<|AQ<|A0<|Zm Y<|A4 Y<|Zg<|Zm Y<|BV (F6 (m:=4) Y Y A1)<|Zm Y<|Ya Y Y<|Zm Y<|Zm Y<|BV (F6 (m:=8) Y Y A1)<|Yb (m:=24) Y Y ?_;refine BV (Ms Y Y A1)<|Zv (Ur Tl N1 Y)<|BV (BJ underlying422 K0 Y Y (by first|omega|(rw [Vt _ _ (by rw [PH _ _ _ A1 A1];omega)];omega)))<|Xe (Zs K0 Y Y rfl (hc:=by exact (sD 32 (RU v i k) _ _ (by rw [PH _ _ _ A1 A1]) (by rw [PH _ _ _ A1 A1];omega)).trans (congrArg (TQ 32) (mR v i k A1).symm)) (hi:=by(rw [Vt _ _ (by rw [PH _ _ _ A1 A1];omega)];omega)))<|Z0<|Zn [3,4,5,7,8,12] ?_;refine A8<|Zx<|Zg<|Ya (n:=1) Y Y<|Zm Y<|Z0<|Zn [12,3,4,5,7,8] ?_;refine Ab (e':=[(12,_)]) (by exact ⟨k+1,V,by omega,V,V⟩)
  have J:k=4:=by omega
  subst J;refine Ay<|Zt<|Zt<|AR<|A8<|Zx<|Zg<|Ya (n:=1) Y Y<|Zm Y<|Z0<|Zn [8,3,7] ?_;refine Ab (e':=[(8,_)]) (by exact ⟨i+1,rfl,by omega,rfl,by rw [mU v i A1]⟩)
 have I:i=8:=by omega
 subst I;refine Ay<|Zt<|Zt<|AR<|Zx<|A0<|Zv (Io underlying422 K0 Y)<|Zo Wh (KR HM N1 H4 Y (by exact ⟨(by rw [mM 32 (RU v 8 0) (by rw [jh];rfl)];exact J0 (by rw [RW,B8,jh];exact D2 32)),rfl⟩))<|A4 Y<|AJ<|AO rfl results278 Y ir
def Qj(g j:Nat):A3:= .slice (some ⟨g,64*j,none⟩) 64 64
theorem vV(g k M:Nat)(h:k<M):Value.slice (some ⟨g,0+64*k*1,none⟩) (64*k+min 64 (64*M -64*k) -64*k) (64*k+min 64 (64*M -64*k) -64*k)=Qj g k:=by
 have m:64*k+min 64 (64*M -64*k) -64*k=64:=by omega
 have h2:0+64*k*1=64*k:=by omega
 rw [m,h2];rfl
theorem Z6(M k:Nat)(h:k<M):List.range M=List.range k++k::(List.range' (k+1) (M -k -1)):=by
 rw [p5,p5,<-my];rw [show M -k -1+1=M -k by omega];have:=List.range'_append_1 (s:=0) (m:=k) (n:=M -k)
 rw [show 0+k=k by omega,show k+(M -k)=M by omega]at this;exact this.symm
theorem ik(g cap M:Nat)(bs U:Nat)(hM:64*M<=cap)(hc:cap<=maxLen):
 Uc prog 313 #[I5 bs,I5 U] [[(bs,.cells #[I6 g (64*M) cap] 110 (0,0))],[(U,.cells #[I4 64] 3 (0,0))]] (fun j=>#[Qj g j]) (List.range M):=by
 have Z:=mL;intro l J hy s G;refine Se func313 ntmps313 [0,1,2] ?_;intro u R;refine A0<|A4 Y<|AQ<|Zb [4,0,1,2] ?_;refine BA (e0:=[(4,_)]) (fun m e H=>∃(k:Nat) (s:List A9),m=M -k/\(k<=M/\J (List.range k) s)/\e=[(4,I4 ((64*k:Nat):Int))]/\H=[s]) (by exact ⟨0,s,V,⟨C5 _,G⟩,V,V⟩) Wp ?_;rintro _ _ _ ⟨k,s,rfl,⟨hk,G⟩,rfl,rfl⟩;refine Zq<|A0<|Zm Y<|Zl Ss Y ?_;refine Zv (AY HM Y)<|Zv (Au Y Y)<|A5<|Aq Y (fun O=>?_) (fun O=>?_);·
  refine AC<|Zx<|Zq<|AQ<|Zq<|Az (n:=7) (0::0::0::6::14::31::63::[]) 0 AE AE V<|B9 0 V AF Y ?_;refine B9 1 V Ss Y ?_;refine A2 2 V (AP Y)<|A2 3 V (CE HM K0 Y Y A1)<|A2 4 V (AY HM Y)<|A2 5 V (Mv Y Y)<|A2 6 V (Aw Y)<|Ag<|Zx<|Zq ?_;have B:=hy (List.range k) k _ s (Z6 M k A1) G
  rw [<-kB]at B;rw [show(fun j=>#[Qj g j]) k=#[Qj g k] from rfl,<-vV g k M A1]at B;refine Zg<|Zm Y<|Zl Ss Y ?_;refine Zm Y<|Zm Y<|Zm Y<|Ya Y Y<|Zm Y<|Zm Y<|Ya Y Y ?_
  (refine BV (TR HM K0 Y Y Y Y ?_ ?_) ?_;(focus ((simp only [Nat.min_def];split<;>omega)));(focus (omega)))
  refine Ze (Ga (vs:=[_]) Y Y (B) Wp) ?_;rintro _ _ ⟨_,⟨s',rfl,rfl,I⟩,rfl⟩;refine Zv (Br Y)<|Z0<|Zn [0,1,2,4,30] ?_;refine Zx<|AU Y (fun W=>by cases W)<|fun W=>AC<|A8<|Zx<|Zg<|Zm Y<|Zl AF Y ?_;refine Yi Y Y<|AN Y<|Zn [4,0,1,2] ?_;refine Ab (e':=[(4,_)]) (by exact ⟨k+1,s',V,⟨by omega,I⟩,V,V⟩)
 have X:k=M:=by omega
 subst X;refine Ay<|Zt<|Zt<|AR<|Cw V results313 (by exact ⟨s,V,G⟩)
theorem ig(p:B6)(n cap:Nat):BZ prog 276 #[.slice p n cap,I4 64] [] (fun r H'=>∃bs m,r= .func (.func 313) #[] #[I5 bs,I5 m]/\H'=[[(bs,.cells #[.slice p n cap] 110 (0,0))],[(m,.cells #[I4 64] 3 (0,0))]]):=by
 refine Se func276 ntmps276 [0,1] ?_;intro u R;refine A0<|Ze (Bx #[_])<|AG fun B=>Ze (Bx #[_])<|AG fun G=>A4 Y<|Zq<|A0<|Zl AF Y<|Zv (Au (n:=1) Y Y)<|A5<|Aq Y (fun g=>?_) (fun g=>?_);·
  exact absurd g AW
 refine AC<|Zx<|A0<|Zv (Bh (vs:=[]) (us:=[_,_]) Y Y)<|A4 Y<|AJ<|AO V results276 Y (by exact ⟨B,G,V,V⟩)
theorem RJ:∀(n:Nat) (h:V8) (b:List UInt8),JR (n+1) h b=Y8 (JR n h b) ((b.drop (64*n)).take 64)
 |0,h,b=>by simp [JR]
 |n+1,h,b=>by
  rw [JR,RJ n,JR,bj];rw [show 64+64*n=64*(n+1) by omega]
def RS(l:List UInt8)(k:Nat):List UInt8:=l++[128]++List.replicate k 0
theorem M7(l:List UInt8)(k:Nat):(RS l k).length=l.length+1+k:=by simp [RS];omega
theorem mI(l:List UInt8)(k:Nat):(RS l k).map u8v++[.int .u8 0]=(RS l (k+1)).map u8v:=by
 unfold RS;rw [List.replicate_succ'];simp [u8v]
def Ul(l:List UInt8)(j:Nat):List UInt8:=RS l (Lc l.length)++(RV l.length).take j
theorem mJ(l:List UInt8):Ul l 0=RS l (Lc l.length):=by simp [Ul]
theorem Vs(l:List UInt8):Ul l 8=Gv l:=by
 have:(RV l.length).take 8=RV l.length:=J0 (by simp [RV]);simp [Ul,RS,Gv,this]
theorem uF(n j:Nat)(h:j<8):(RV n).take (j+1)=(RV n).take j++[UInt8.ofNat (8*n/2^(8*(7 -j)))]:=by
 rw [oR (by simp [RV];omega)];simp [RV]
theorem mK(l:List UInt8)(j q:Nat)(h:q+j=7):(Ul l j).map u8v++[.int .u8 ((UInt8.ofNat (8*l.length/2^(8*q))).toNat:Int)]=(Ul l (j+1)).map u8v:=by
 unfold Ul;rw [uF _ _ A1,show 7 -j=q by omega];simp [u8v]
theorem ZM(l:List UInt8)(j:Nat)(h:j<=8):(Ul l j).length=l.length+1+Lc l.length+j:=by
 have:(RV l.length).length=8:=by simp [RV]
 simp [Ul,M7,this];omega
theorem yC(m:Nat):IntKind.u8.wrap (m:Int)=((UInt8.ofNat m).toNat:Int):=by
 rw [IntKind.wrap_u8',mn];omega
theorem wu(n k:Nat)(g:k<=Lc n)(h:(n+1+k)%64≠56):k<Lc n:=by
 have:=jI n;rcases E4 k (Lc n)with h1|h1
 · exact h1
 · have:k=Lc n:=by omega
   subst this;contradiction
theorem ww(n k:Nat)(g:k<=Lc n)(h:(n+1+k)%64=56):k=Lc n:=by
 unfold Lc at g⊢;omega
theorem lY{M x:Nat}{pre g:List Nat}(h:List.range M=pre++x::g):x=pre.length/\x<M:=by
 have m:(List.range M)[pre.length]?=some x:=by rw [h];simp
 have B:pre.length<M:=by
  have:=(C4.1 m).1;simpa using this
 rw [aq B]at m;have:=SO m
 omega
theorem bg{cur:AH}{p:List UInt8}(h:cur.toList.take (p.map u8v).length=p.map u8v)(k:Nat)(m:64*k+64<=p.length):NJ cur (64*k) ((p.drop (64*k)).take 64):=by
 unfold NJ;have g:((p.drop (64*k)).take 64).length=64:=by simp;omega
 rw [g,List.map_take,ka,<-h];rw [fj,V2];congr 1;simp;omega
theorem xR(l:List UInt8)(M:Nat)(h:(Gv l).length=64*M):sha l=sZ (JR M h0 (Gv l)):=by
 unfold sha;rw [h,Nat.mul_div_cancel_left _ A1]
theorem qM(s:Bk)(hs:s.size<=140737488355000)(Tg:AK)(zg:Nat×Nat):
 BB prog 247 #[.string s] [[(2,.cells (Er.map Ct).toArray Tg zg)]] (.string (str (sha s.data.toList))):=by
 have l8:=mL;obtain ⟨l,U⟩:∃l,l=s.data.toList:=⟨_,rfl⟩;have hn:l.length=s.size:=by rw [U];rfl
 have hz:Lc s.size<64:=by unfold Lc;omega
 refine DT func247 V ntmps247 V ?_;intro u R;refine Zb [0] ?_;refine A0<|A4 Y<|A0<|Zv (BL (vs:=[(0,_),(1,_),(2,_),(3,_),(4,_),(5,_),(6,_),(7,_)]) (cs:=#[_,_,_,_,_,_,_,_]) Y (DI zeroValue392 Lo G1 V))<|Ze (Al zeroValue392 #[_,_,_,_,_,_,_,_])<|AG fun bh=>Xe (BM sizeOf392 Y Y (jM h0) Wu (by exact (rfl:_=v8c (JR 0 h0 (Gv l)))) Fc Wn (by exact BC _))<|A5<|A0<|Zm Y<|Ze (xG H4 HM N1 Y A1) ?_;rintro _ _ ⟨sa,W,rfl⟩;obtain ⟨ga,ca,rfl⟩:=W.form;refine Ze (Ai (vs:=[_]) (cs:=[_]) HM K0 Sp Y V rfl V rfl V)<|AG fun b3=>Ze (Eb (by_:=1) (news:=[_]) HM (V:Tryz.prog.info? 5=some Tryz.t5) V rfl V rfl Y W Y Wo Wh As V GP AW (by(simp only [B8,<-U,hn];omega)) (by(simp only [B8,<-U,hn];omega))) ?_;rintro _ _ ⟨sb,X,rfl⟩;obtain ⟨gb,cb,rfl⟩:=X.form;refine A4 Y<|Zq<|AQ ?_;have gq:Row 5 (.slice gb (List.map u8v s.data.toList++[Value.int IntKind.u8 128]).length cb) ((RS l 0).map u8v) sb:=by
  have e:(RS l 0).map u8v=List.map u8v s.data.toList++[Value.int IntKind.u8 128]:=by rw [<-U];simp [RS,u8v]
  rw [e];exact X
 refine Zb [4,0,3] ?_;refine BA (e0:=[(4,_)]) (fun m e H=>∃(k:Nat) (v:A3) (J:List A9),m=Lc s.size -k/\(k<=Lc s.size/\Row 5 v ((RS l k).map u8v) J)/\e=[(4,v)]/\H=[J]) (by exact ⟨0,_,_,V,⟨C5 _,gq⟩,V,V⟩) Wp ?_;rintro _ _ _ ⟨k,v,J,rfl,⟨hk,B⟩,rfl,rfl⟩;obtain ⟨gv,cv,rfl⟩:=B.form;refine Zq<|A0<|Zm Y<|Zv (AY HM Y)<|BV (FZ (n:=64) Y Y A1)<|Zv (Dn (n:=56) Y Y)<|A5<|Aq Y (fun G=>?_) (fun G=>?_);·
  rw [B8,M7,hn]at G;have cO:=wu _ _ hk G
  refine AC<|Zx<|AQ<|Zg<|Zm Y<|Ze (Ai (vs:=[_]) (cs:=[_]) HM K0 Sp Y V rfl V rfl V)<|AG fun b5=>Ze (Eb (by_:=1) (news:=[_]) HM (V:Tryz.prog.info? 5=some Tryz.t5) V rfl V rfl Y B Y Wo Wh As V GP AW (by(simp only [B8,M7,hn];omega)) (by(simp only [B8,M7,hn];omega))) ?_;rintro _ _ ⟨sc,Z,rfl⟩;obtain ⟨gc,cc,rfl⟩:=Z.form;refine AN Y<|A8<|Zn [4,0,3] ?_;refine Ab (e':=[(4,_)]) (by exact ⟨k+1,_,_,rfl,⟨cO,by rw [<-mI];exact Z⟩,rfl,rfl⟩)
 rw [B8,M7,hn]at G;have ek:=ww _ _ hk A1
 subst ek;refine Ay<|Zt<|Zt<|AR<|Zx<|Zq<|A0<|A4 Y<|AQ<|Zb [4,5,0,3] ?_;refine BA (e0:=[(4,_),(5,_)]) (fun m e H=>∃(j:Nat) (i:Int) (v:A3) (J:List A9),m=8 -j/\(j<=8/\i=7 -(j:Int)/\Row 5 v ((Ul l j).map u8v) J)/\e=[(4,v),(5,I4 i)]/\H=[J]) (by exact ⟨0,_,_,_,rfl,⟨C5 _,rfl,by rw [mJ,hn];exact B⟩,rfl,rfl⟩) Wp ?_;rintro _ _ _ ⟨j,i,v,J,rfl,⟨hj,hi,B⟩,rfl,rfl⟩;obtain ⟨gv,cv,rfl⟩:=B.form;refine Zq<|A0<|Zm Y<|Zv (He Y Y)<|A5<|Aq Y (fun O=>?_) (fun O=>?_);·
  obtain ⟨q,rfl⟩:=Int.eq_ofNat_of_zero_le O;refine AC<|Zx<|Zq<|AQ<|Zg<|Zm Y<|Zm Y<|Zv (QT H4 Y)<|BV (F6 (m:=8) Y Y A1)<|Zm Y<|BV (F6 (m:=8) Y Y A1)<|BV (QQ Y Y (by first|decide|(simp [IntKind.bits];done)|(simp [IntKind.bits];omega)))<|Kz (Ep CM N1 Y (yC _)) rfl rfl<|Ze (Ai (vs:=[_]) (cs:=[_]) HM K0 Sp Y rfl rfl rfl rfl rfl)<|AG fun b7=>Ze (Eb (by_:=1) (news:=[_]) HM (V:Tryz.prog.info? 5=some Tryz.t5) V rfl V rfl Y B Y Wo Wh As V GP AW (by(simp only [B8,ZM l j hj,hn];omega)) (by(simp only [B8,ZM l j hj,hn];omega))) ?_;rintro _ _ ⟨sd,af,rfl⟩;obtain ⟨gd,cd,rfl⟩:=af.form;refine AN Y<|Zn [0,3,4,5] ?_;refine A8<|Zx<|Zg<|Zm Y<|BV (GN Y Y (IntWalk.i64_in _ A1))<|AN Y<|Zn [4,5,0,3] ?_;refine Ab (e':=[(4,_),(5,_)]) (by exact ⟨j+1,_,_,_,rfl,⟨by omega,by omega,by rw [<-mK l j q A1,hn];exact af⟩,rfl,rfl⟩)
 have ej:j=8:=by omega
 subst ej;refine Ay<|Zt<|Zt<|AR<|Zx<|Zq<|Zq ?_;rw [Vs]at B;obtain ⟨M,hM⟩:∃M,(Gv l).length=64*M:=⟨(Gv l).length/64,by have:=fe l;omega⟩;have gm:=TP l
 rw [hn]at gm;rw [Vs];obtain ⟨g,cap,cur,z,hv,rfl,d9,cu,kv,gy,l5⟩:=B.some (by rw [B8];omega);simp only [Value.slice.injEq]at hv;obtain ⟨rfl,_,rfl⟩:=hv;rw [B8]at d9;rw [B8,hM];refine Zg<|Zm Y<|Zc [_,_] Y call276 Y V (ig _ _ _) ?_;rintro _ _ ⟨_,⟨bs,bn,rfl,rfl⟩,rfl⟩;refine A5<|AQ<|Zb [3,34] ?_;refine RN (H0:=_) (R:=_) (I:=(fun pre H=>H=[[(bh,.cells (v8c (JR pre.length h0 (Gv l))) 392 (0,0))],[(g,.cells cur 5 z)],[(2,.cells (Er.map Ct).toArray Tg zg)]])) (asg:=fun x=>[(6,Qj g x),(35,Qj g x)]) V Y call313 (ik g cv M bs bn A1 cu) Y V Wp (V) ?ha_6 ?hbd_6 ?hk_6
 case ha_6=>
  intro _ x _ _;refine Zg<|Za Y<|Z0 ?_;exact tJ
 case hbd_6=>
  intro l pre x j5 u H1 R1 j3 hI;subst hI;obtain ⟨ic,l9⟩:=lY j3;subst ic;refine AQ<|Zg<|Zm Y<|Zc [_,_] Y call277 Y rfl (wN _ _ _ _ _ _ _ _ (by rw [CC,CD];omega) (bg gy _ A1) _ _ _ _) ?_;rintro _ _ ⟨_,⟨rfl,rfl⟩,rfl⟩;refine Z0<|A8<|F7 rfl (by rw [BW,Fl,RJ])
 intro D1 H2 ax;subst ax;refine Zn [3] ?_;refine A8<|Zx<|A0<|Zo Wh (AA (cs:=v8c (JR M h0 (Gv l))) isAgg392 sizeOf392 Y Wn (by rw [cU];exact Ih _ _ rfl))<|Xr [_] Y call278 Y rfl (bR _)<|A4 Y<|AJ<|GR rfl (eZ results247 Y) Wo (by exact ⟨by rw [<-U,xR l M hM],rfl⟩)
end Go.Proofs.YtfhjaegddfehhabGreatDoor
