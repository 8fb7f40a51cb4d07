/- Contracts: bits.RotateLeft32 at the counts of the program, digest.mixed, digest.schedule. -/
import Derived.Test.YtlkdhannldcfbaaGreatDoorA1
import Derived.Test.YtlkdhannldcfbaaGreatDoorSha
import Derived.Test.YtlkdhannldcfbaaGreatDoorEx39
set_option linter.unusedVariables false
set_option linter.unusedSimpArgs false
namespace Go.Proofs.YtlkdhannldcfbaaGreatDoor
open Go.Proofs.Tryz
open Go Go.RowKit Gw
set_option maxRecDepth 100000
attribute [local irreducible] Gw.At Gw.Nx Gw.Ops
theorem VE(x:UInt32)(n m:Nat)(h0:0<n)(g:n<32)(y:n+m=32):(x<<<UInt32.ofNat m)|||(x>>>UInt32.ofNat n)=JE x (UInt32.ofNat n):=by
 unfold JE;have:(32:UInt32) -UInt32.ofNat n=UInt32.ofNat m:=by
  apply UInt32.toNat_inj.1;rw [UInt32.toNat_sub,fL,fL];simp only [UInt32.reduceToNat];omega
 rw [this]
theorem uD(n m:Nat)(h0:0<n)(y:n<32)(E:n+m=32):bits .and .u64 (IntKind.u64.wrap (-(n:Int))) 31=(m:Int):=by
 have h:IntKind.u64.wrap (-(n:Int))=((18446744073709551616 -n:Nat):Int):=by rw [IntKind.wrap_u64];omega
 have g:(31:Int)=((31:Nat):Int):=rfl;rw [h,g,u64_and_nat _ _ A0 A0,nat_mask5];omega
theorem jM(x:UInt32)(n:Nat)(h0:0<n)(g:n<32):BC prog 223 #[.int .u32 x.toNat,I4 (-(n:Int))] [] (.int .u32 (JE x (UInt32.ofNat n)).toNat):=by
 refine Jf func223 V ntmps223 V ?_;intro u R;obtain ⟨m,y⟩:∃m,n+m=32:=⟨32 -n,by omega⟩;refine Zb [0,1] ?_;refine A1<|A3 Y<|A1<|Zm Y<|KY (FB F0 hG Y V) V rfl<|KY (oM Y Y (uD n m h0 g y)) V rfl<|A3 Y<|A1<|Zm Y<|Zm Y<|Ap (HY Y Y A0)<|Zm Y<|Zm Y<|Ap (Nj (m:=32) Y Y A0 A0)<|Ap (Fv Y Y A0)<|Zv (Iz Y Y)<|AH Y<|Zn [4] ?_;refine Zx<|AA<|AC V results223 Y (by
  have e:32 -m=n:=by omega
  exact ⟨by rw [e,VE x n m h0 g y],rfl⟩)
theorem ou(x:UInt32)(l:List UInt32)(n:UInt32):QT x (l++[n])=QT x l^^^JE x n:=by simp [QT]
def yQ(n:Nat):A4:=I4 (n:Int)
theorem NG{α β:Type}(f:α->β)(l:List α)(k:Nat)(d:α)(h:k<l.length):(l.take (k+1)).map f=(l.take k).map f++[f (l.getD k d)]:=by
 rw [i6 h,Dg];simp [Lw,zn h]
theorem Rj{α:Type}(f:α->A4)(l:List α)(k:Nat)(d:α)(h:k<l.length):(l.map f).toArray[k]?=some (f (l.getD k d)):=by
 simp [zn h,Lw]
theorem J4(x:UInt32)(l:List Nat)(g cap:Nat)(T:AM)(z:Nat×Nat)(G:∀n∈l,0<n/\n<32)(hn:l.length<=100):
 BC prog 191 #[.int .u32 x.toNat,I6 g l.length cap] [[(g,.cells (l.map yQ).toArray T z)]] (.int .u32 (QT x (l.map UInt32.ofNat)).toNat):=by
 refine Se func191 ntmps191 [0,1] ?_;intro u R;refine A1<|A3 Y<|A1<|A3 Y<|Zq<|A1<|Zm Y<|Zv (AP Fi Y)<|Zm Y<|AD<|AX<|Zb [5,10,0,8,9] ?_;refine BB (e0:=[(5,_),(10,_)]) (fun m e H=>∃k:Nat,m=l.length -k/\(k<=l.length)/\e=[(5,.int .u32 ((QT x ((l.take k).map UInt32.ofNat)).toNat:Int)),(10,I4 (k:Int))]/\H=[]) (by exact ⟨0,V,C2 _,V,V⟩) Wp ?_;rintro _ _ _ ⟨k,rfl,I,rfl,rfl⟩;refine A1<|Zv (Au Y Y)<|AD<|Zq<|Ak Y (fun E=>?_) (fun E=>?_);·
  refine AB<|Zx<|Zq<|AX<|A1<|Ap (BD Fi A5 Y Y A0)<|Zl AE Y (hv:=by exact Rj yQ l k 0 A0)<|AH Y<|Zx ?_;have y:=G (l.getD k 0) (by rw [Lw,zn A0];exact jz _)
  refine Zg<|Zm Y<|Zm Y<|Zm Y<|KY (TA (c:=-(l.getD k 0:Int)) Y (by rw [Int.zero_sub];exact IntWalk.i64_in _ A0)) rfl rfl<|Xr [_,_] Y call223 Y rfl (jM _ _ y.1 y.2)<|Zv (DC Y Y)<|AH Y<|A8<|Zx<|Zg<|Ya (n:=1) Y Y<|Zm Y<|Z0<|Zn [5,10,0,8,9] ?_;refine AZ (e':=[(5,_),(10,_)]) (by exact ⟨k+1,rfl,by omega,by rw [NG _ _ _ 0 A0,ou],rfl⟩)
 refine Aw<|Zt<|Zt<|AQ<|Zx<|A1<|Zm Y<|A3 Y<|AA<|AC V results191 Y (by
  have e:k=l.length:=by omega
  exact ⟨by rw [e,G0],rfl⟩)
def F6(l:List UInt32):List A4:=l.map CB++List.replicate (64 -l.length) (.int .u32 0)
theorem Cn(l:List UInt32)(h:l.length<=64):(F6 l).length=64:=by simp [F6];omega
theorem bE(l:List UInt32)(i:Nat)(h:i<l.length):(F6 l).toArray[i]?=some (CB (l.getD i 0)):=by
 simp [F6,iv,h,Lw]
theorem bC(l:List UInt32)(x:UInt32)(h:l.length<64):(F6 l).toArray.setIfInBounds l.length (CB x)=(F6 (l++[x])).toArray:=by
 rw [iS];congr 1;unfold F6;rw [eA _ _ B3];simp only [zu,S1,zq,D3,KK];obtain ⟨n,hn⟩:∃n,64 -l.length=n+1:=⟨63 -l.length,by omega⟩;rw [hn,show 64 -(l.length+(0+1))=n by omega];simp [List.replicate_succ]
theorem K3(b:List UInt8)(k:Nat)(x:UInt32)(h:k<64)(hx:EH b (k+1)=EH b k++[x]):(F6 (EH b k)).toArray.setIfInBounds k (.int .u32 (x.toNat:Int))=(F6 (EH b (k+1))).toArray:=by
 have:=bC (EH b k) x (by rw [BX];exact h);rw [BX]at this;rw [hx];exact this
theorem bD(l:List UInt32):∀v∈(F6 l).toArray.toList,v.oneCell'=true:=by
 intro v hv;simp only [F6,DM,GB,List.mem_replicate]at hv;rcases hv with⟨x,_,rfl⟩|⟨_,rfl⟩<;>rfl
theorem Xt(l:List UInt32)(h:l.length=64):F6 l=l.map CB:=by simp [F6,h]
theorem Xo(b:List UInt8)(k:Nat)(h:k<16):EH b (k+1)=EH b k++[av b k]:=by rw [EH,B0 h]
theorem OZ(b:List UInt8)(k:Nat)(h:16<=k):EH b (k+1)=EH b k++[TK (EH b k) k]:=by rw [EH,As A0]
def MI(c:AN)(o:Nat)(bs:List UInt8):Prop:=(c.toList.drop o).take bs.length=bs.map u8v
theorem MI.get{c:AN}{o:Nat}{bs:List UInt8}(h:MI c o bs)(j:Nat)(m:j<bs.length):c[o+j]?=some (u8v (bs.getD j 0)):=by
 have g:((c.toList.drop o).take bs.length)[j]?=(bs.map u8v)[j]?:=by rw [h]
 rw [Gk,B0 m,Hh,FG,zn m]at g;rw [HS]at g;rw [g];simp [Lw,zn m]
theorem Lb(b:List UInt8)(k i:Nat)(h:i<k):(F6 (EH b k)).toArray[i]?=some (CB ((EH b k).getD i 0)):=bE _ _ (by rw [BX];exact h)
theorem bO(g o cap:Nat)(c:AN)(T:AM)(z:Nat×Nat)(bs:List UInt8)(Z:bs.length=64)(hc:MI c o bs):
 BC prog 190 #[.slice (some ⟨g,o,none⟩) 64 cap] [[(g,.cells c T z)]] (.agg ((Dx bs).map CB).toArray):=by
 refine Se func190 ntmps190 [0] ?_;intro u R;refine A1<|Ze (ND zeroValue269 (cs:=(F6 []).toArray) AG)<|AF fun I=>AD<|Zq<|A1<|Zm Y<|AD<|AX<|Zb [7,0,2] ?_;refine BB (e0:=[(7,_)]) (fun m e H=>∃k:Nat,m=16 -k/\(k<=16)/\e=[(7,I4 (k:Int))]/\H=[[(I,.cells (F6 (EH bs k)).toArray 269 (0,0))]]) (by exact ⟨0,V,C2 _,V,V⟩) Wp ?_;rintro _ _ _ ⟨k,rfl,J,rfl,rfl⟩;refine A1<|Zv (Au (n:=16) Y Y)<|AD<|Zq<|Ak Y (fun E=>?_) (fun E=>?_);·
  refine AB<|Zx<|Zq<|AX<|A1<|Zm Y<|A3 Y<|BJ (n:=36) (0::0::0::4::14::30::62::126::0::0::512::1536::3840::7936::16128::32512::65534::0::0::262144::786432::1966080::4063232::8257536::16646144::33554430::0::0::134217728::402653184::1006632960::2080374784::4227858432::8589934590::17179869183::34359738367::[]) 34359738368 AG AG rfl<|A2 0 rfl (AJ Y)<|A2 1 rfl (AJ Y)<|A2 2 rfl (AJ Y)<|A2 3 rfl (Df (m:=4) Y Y A0)<|A2 4 rfl (BP DS HN Y Y (by first|omega|(rw [HA,Cn _ (by rw [BX];omega)];omega)))<|B2 5 rfl S6 Y (hv:=by exact hc.get _ A0) ?_;refine A2 6 rfl (Eg HG MT Y)<|A2 7 rfl (HY (n:=24) Y Y A0)<|A2 8 rfl (AJ Y)<|A2 9 rfl (AJ Y)<|A2 10 rfl (Df (m:=4) Y Y A0)<|A2 11 rfl (Bp (n:=1) Y Y A0)<|A2 12 rfl (BP DS HN Y Y (by first|omega|(rw [HA,Cn _ (by rw [BX];omega)];omega)))<|B2 13 rfl S6 Y (hv:=by exact hc.get _ A0) ?_;refine A2 14 rfl (Eg HG MT Y)<|A2 15 rfl (HY (n:=16) Y Y A0)<|A2 16 rfl (Iz Y Y)<|A2 17 rfl (AJ Y)<|A2 18 rfl (AJ Y)<|A2 19 rfl (Df (m:=4) Y Y A0)<|A2 20 rfl (Bp (n:=2) Y Y A0)<|A2 21 rfl (BP DS HN Y Y (by first|omega|(rw [HA,Cn _ (by rw [BX];omega)];omega)))<|B2 22 rfl S6 Y (hv:=by exact hc.get _ A0) ?_;refine A2 23 rfl (Eg HG MT Y)<|A2 24 rfl (HY (n:=8) Y Y A0)<|A2 25 rfl (Iz Y Y)<|A2 26 rfl (AJ Y)<|A2 27 rfl (AJ Y)<|A2 28 rfl (Df (m:=4) Y Y A0)<|A2 29 rfl (Bp (n:=3) Y Y A0)<|A2 30 rfl (BP DS HN Y Y (by first|omega|(rw [HA,Cn _ (by rw [BX];omega)];omega)))<|B2 31 rfl S6 Y (hv:=by exact hc.get _ A0) ?_;refine A2 32 rfl (Eg HG MT Y)<|A2 33 rfl (Iz Y Y)<|A2 34 rfl (Ag S2 CI Y Y (by first|omega|(rw [HA,Cn _ (by rw [BX];omega)];omega)))<|Yw 35 68719476735 rfl (Zs CI Y Y rfl (hc:=by exact K3 bs k (av bs k) A0 (Xo bs k A0)) (hi:=by(rw [HA,Cn _ (by rw [BX];omega)];omega)))<|C3<|Ao<|Zn [0,2,7] ?_;refine A8<|Zx<|Zg<|Ya (n:=1) Y Y<|Zm Y<|Z0<|Zn [7,0,2] ?_;refine AZ (e':=[(7,_)]) (by exact ⟨k+1,V,by omega,V,V⟩)
 refine Aw<|Zt<|Zt<|AQ<|Zx<|Zq<|A1<|A3 Y<|AX ?_;have y:k=16:=by omega
 subst y;refine Zb [4,2] ?_;refine BB (e0:=[(4,_)]) (fun m e H=>∃k:Nat,m=64 -k/\(16<=k/\k<=64)/\e=[(4,I4 (k:Int))]/\H=[[(I,.cells (F6 (EH bs k)).toArray 269 (0,0))]]) (by exact ⟨16,V,by omega,V,V⟩) Wp ?_;rintro _ _ _ ⟨k,rfl,⟨K,J⟩,rfl,rfl⟩;refine Zq<|A1<|Zm Y<|Zv (Au (n:=64) Y Y)<|AD<|Ak Y (fun G=>?_) (fun G=>?_);·
  refine AB<|Zx<|Zq<|AX<|Zq<|BJ (n:=10) (0::1::3::7::0::16::48::112::15::511::[]) 0 AG AG V<|A2 0 V (AJ Y) ?_
  (refine Bq (D':=3) 1 (Bo (n:=15) Y Y ?_ ?_) ?_;(focus (omega));(focus (omega)))
  refine A2 2 V (Ag S2 CI Y Y A0)<|B2 3 V EV Y (hv:=by exact Lb bs k _ A0) ?_;refine A2 4 V (AJ Y) ?_
  (refine Bq (D':=63) 5 (Bo (n:=2) Y Y ?_ ?_) ?_;(focus (omega));(focus (omega)))
  refine A2 6 V (Ag S2 CI Y Y A0)<|B2 7 V EV Y (hv:=by exact Lb bs k _ A0) ?_;refine A2 8 V (BF Y)<|A2 9 V (BF Y)<|Ao<|Zx<|BJ (n:=26) (0::0::2::6::14::0::0::96::0::256::992::2046::0::4096::12288::28672::65534::0::0::393440::0::1048576::4063456::8388606::16777215::33554431::[]) 34341056 AG AG V<|A2 0 V (AJ Y)<|A2 1 V (AJ Y) ?_
  (refine Bq (D':=7) 2 (Bo (n:=16) Y Y ?_ ?_) ?_;(focus (omega));(focus (omega)))
  refine A2 3 rfl (Ag S2 CI Y Y (by first|omega|(rw [HA,Cn _ (by rw [BX];omega)];omega)))<|B2 4 rfl EV Y (hv:=by exact Lb bs k _ A0) ?_;refine A2 5 V (AJ Y)<|A2 8 V (AJ Y)<|A2 9 V (Fv (n:=3) Y Y A0)<|A2 12 V (AJ Y) ?_
  (refine Bq (D':=13119) 13 (Bo (n:=7) Y Y ?_ ?_) ?_;(focus (omega));(focus (omega)))
  refine A2 14 rfl (Ag S2 CI Y Y (by first|omega|(rw [HA,Cn _ (by rw [BX];omega)];omega)))<|B2 15 rfl EV Y (hv:=by exact Lb bs k _ A0) ?_;refine A2 17 V (AJ Y)<|A2 20 V (AJ Y)<|A2 21 V (Fv (n:=10) Y Y A0)<|Zz (l:=[6,18])<|BE [true,true] [(15,(_,_)),(4,(_,_))] V rfl (Af (vs:=[_,_]) (cs:=[_,_]) Fi A5 HL Y V rfl V rfl V) ?_ (fun _ _ h=>h.elim) ?_;·
   rintro _ _ ⟨M,rfl,rfl⟩;refine BT<|Zz (l:=[7,18])<|BE [true,true] [(15,(_,_)),(4,(_,_))] V rfl (Zu [_,_] Y X1 Y V (J4 _ [7,18] _ _ _ _ AK AK)) ?_ (fun _ _ h=>h.elim) ?_;·
    rintro _ _ ⟨rfl,rfl⟩;refine BT<|A2 10 V (DC Y Y)<|A2 11 V (CU Y Y)<|A2 16 V (CU Y Y)<|Zz (l:=[18])<|BE [true,true] [(15,(_,_)),(4,(_,_))] V rfl (Af (vs:=[_,_]) (cs:=[_,_]) Fi A5 HL Y V rfl V rfl V) ?_ (fun _ _ h=>h.elim) Ay;rintro _ _ ⟨O,rfl,rfl⟩;refine BT<|Yz 19 393440 4194303 [15,4] [true,true] [(15,(_,_)),(4,(_,_))] V Y V rfl V rfl (Zu [_,_] Y X1 Y V (J4 _ [17,19] _ _ _ _ AK AK))<|C3<|BT<|A2 22 rfl (DC Y Y)<|A2 23 rfl (CU Y Y)<|A2 24 rfl (Ag S2 CI Y Y (by first|omega|(rw [HA,Cn _ (by rw [BX];omega)];omega)))<|Yw 25 67108863 rfl (Zs CI Y Y rfl (hc:=by exact K3 bs k (TK (EH bs k) k) A0 (OZ bs k A0)) (hi:=by(rw [HA,Cn _ (by rw [BX];omega)];omega)))<|C3<|Ao<|Zn [2,4] ?_;refine A8<|Zx<|Zg<|Zm Y<|Ya (n:=1) Y Y<|AH Y<|Zn [4,2] ?_;refine AZ (e':=[(4,_)]) (by exact ⟨k+1,V,by omega,V,V⟩)
   refine BE [true,true] [(15,(_,_)),(4,(_,_))] V rfl (Af (vs:=[_,_]) (cs:=[_,_]) Fi A5 HL Y V rfl V rfl V) ?_ (fun _ _ h=>h.elim) Ay;rintro _ _ ⟨U,rfl,rfl⟩;refine BT<|Yz 7 96 3601407 [15,4] [true,true] [(15,(_,_)),(4,(_,_))] V Y V rfl V rfl (Zu [_,_] Y X1 Y V (J4 _ [7,18] _ _ _ _ AK AK))<|C3<|BT<|A2 10 V (DC Y Y)<|A2 11 V (CU Y Y)<|A2 16 V (CU Y Y)<|Zz (l:=[19])<|BE [true,true] [(15,(_,_)),(4,(_,_))] V rfl (Zu [_,_] Y X1 Y V (J4 _ [17,19] _ _ _ _ AK AK)) ?_ (fun _ _ h=>h.elim) Ay;rintro _ _ ⟨rfl,rfl⟩;refine BT<|A2 22 rfl (DC Y Y)<|A2 23 rfl (CU Y Y)<|A2 24 rfl (Ag S2 CI Y Y (by first|omega|(rw [HA,Cn _ (by rw [BX];omega)];omega)))<|Yw 25 67108863 rfl (Zs CI Y Y rfl (hc:=by exact K3 bs k (TK (EH bs k) k) A0 (OZ bs k A0)) (hi:=by(rw [HA,Cn _ (by rw [BX];omega)];omega)))<|C3<|Ao<|Zn [2,4] ?_;refine A8<|Zx<|Zg<|Zm Y<|Ya (n:=1) Y Y<|AH Y<|Zn [4,2] ?_;refine AZ (e':=[(4,_)]) (by exact ⟨k+1,V,by omega,V,V⟩)
  refine BE [true,true] [(15,(_,_)),(4,(_,_))] V rfl (Af (vs:=[_,_]) (cs:=[_,_]) Fi A5 HL Y V rfl V rfl V) ?_ (fun _ _ h=>h.elim) Ay;rintro _ _ ⟨W,rfl,rfl⟩;refine BT<|Yz 6 0 3601279 [15,4] [true,true] [(15,(_,_)),(4,(_,_))] V Y V rfl V rfl (Af (vs:=[_,_]) (cs:=[_,_]) Fi A5 HL Y V rfl V rfl V)<|AF fun X=>BT<|Yz 7 96 3601407 [15,4] [true,true] [(15,(_,_)),(4,(_,_))] V Y V rfl V rfl (Zu [_,_] Y X1 Y V (J4 _ [7,18] _ _ _ _ AK AK))<|C3<|BT<|A2 10 V (DC Y Y)<|A2 11 V (CU Y Y)<|A2 16 V (CU Y Y)<|Zz (l:=[19])<|BE [true,true] [(15,(_,_)),(4,(_,_))] V rfl (Zu [_,_] Y X1 Y V (J4 _ [17,19] _ _ _ _ AK AK)) ?_ (fun _ _ h=>h.elim) Ay;rintro _ _ ⟨rfl,rfl⟩;refine BT<|A2 22 rfl (DC Y Y)<|A2 23 rfl (CU Y Y)<|A2 24 rfl (Ag S2 CI Y Y (by first|omega|(rw [HA,Cn _ (by rw [BX];omega)];omega)))<|Yw 25 67108863 rfl (Zs CI Y Y rfl (hc:=by exact K3 bs k (TK (EH bs k) k) A0 (OZ bs k A0)) (hi:=by(rw [HA,Cn _ (by rw [BX];omega)];omega)))<|C3<|Ao<|Zn [2,4] ?_;refine A8<|Zx<|Zg<|Zm Y<|Ya (n:=1) Y Y<|AH Y<|Zn [4,2] ?_;refine AZ (e':=[(4,_)]) (by exact ⟨k+1,V,by omega,V,V⟩)
 refine Aw<|Zt<|Zt<|AQ<|Zx<|A1<|Zo Wh (A9 isAgg269 sizeOf269 Y (by(rw [HA,Cn _ (by rw [BX];omega)];omega)) (by exact J9 _ _ (by rw [HA,Cn _ (by rw [BX];omega)]))) ?_;refine Xe (BN sizeOf269 Y Y (by exact bD _) Wu (by exact oO _) (by rw [HA,Cn _ (by rw [BX];omega)]) (by(rw [HA,Cn _ (by rw [BX];omega)];omega)) (by exact BU _)) ?_;refine AD<|AA<|DI rfl results190 Y Wh (Ar isAgg269 sizeOf269 (by(rw [HA,Cn _ (by rw [BX];omega)];omega)) (J9 _ _ (by rw [HA,Cn _ (by rw [BX];omega)]))) (by
  have e:k=64:=by omega
  exact ⟨by rw [e,Xt _ (BX _ _)];rfl,rfl⟩)
def v8c(v:V8):AN:=#[CB v.a,CB v.b,CB v.c,CB v.d,CB v.e,CB v.f,CB v.g,CB v.h]
theorem mG(v:V8):v8c v=(v.list.map CB).toArray:=rfl
theorem yS(k:Nat)(h:k<64):(Di.map CB).toArray[k*1]?=some (CB (Di.getD k 0)):=by rw [Iv];exact Rj CB Di k 0 (by rw [ZC];exact h)
def Vt(x y:V8)(i:Nat):List UInt32:=(sF x y).list.take i++x.list.drop i
theorem NT(x y:V8)(i:Nat)(h:i<=8):(Vt x y i).length=8:=by
 have:(sF x y).list.length=8:=rfl;have h2:x.list.length=8:=rfl
 simp [Vt,this,h2];omega
theorem kZ(x y:V8)(i:Nat)(h:i<8):((Vt x y i).map CB).toArray[i]?=some (CB (x.list.getD i 0)):=by
 have:i=0\/i=1\/i=2\/i=3\/i=4\/i=5\/i=6\/i=7:=by omega
 rcases this with rfl|rfl|rfl|rfl|rfl|rfl|rfl|rfl<;>rfl
theorem mI(y:V8)(i:Nat)(h:i<8):(v8c y)[i]?=some (CB (y.list.getD i 0)):=by
 have:i=0\/i=1\/i=2\/i=3\/i=4\/i=5\/i=6\/i=7:=by omega
 rcases this with rfl|rfl|rfl|rfl|rfl|rfl|rfl|rfl<;>rfl
theorem kY(x y:V8)(i:Nat)(h:i<8):((Vt x y i).map CB).toArray.setIfInBounds i (.int .u32 ((x.list.getD i 0+y.list.getD i 0).toNat:Int))=((Vt x y (i+1)).map CB).toArray:=by
 have:i=0\/i=1\/i=2\/i=3\/i=4\/i=5\/i=6\/i=7:=by omega
 rcases this with rfl|rfl|rfl|rfl|rfl|rfl|rfl|rfl<;>rfl
theorem bI(x:V8)(k:Nat)(ws:List UInt32)(v:V8)(hx:x=Cf ws v k):
 ((#[CB x.a,CB x.a,CB x.b,CB x.c,CB x.d,CB x.e,CB x.f,CB x.g]:AN).setIfInBounds 0 (.int .u32 ((Gw.DR x (Di.getD k 0) (ws.getD k 0)+mi x).toNat:Int))).setIfInBounds 4 (.int .u32 ((x.d+Gw.DR x (Di.getD k 0) (ws.getD k 0)).toNat:Int))=v8c (Cf ws v (k+1)):=by
 subst hx;rfl
theorem jF(bs:List UInt8):(Dx bs).length=64:=BX bs 64
theorem nO(ws:List UInt32)(h:ws.length=64):((ws.map CB).toArray).size=64:=by rw [HA,zu,h]
theorem nP(ws:List UInt32)(h:ws.length=64):FD (F6 []).toArray 0 ((ws.map CB).toArray).toList=(ws.map CB).toArray:=
 Yq (F6 []).toArray (ws.map CB) (by rw [zu,h];rfl)
theorem sW:0+64<=((F6 []).toArray).size:=by rw [HA,Cn _ (C2 _)];exact B8 _
theorem fw(v:V8):∀x∈(v8c v).toList,x.oneCell'=true:=by
 intro x hx;rw [mG]at hx;simp only [GB]at hx;obtain ⟨y,_,rfl⟩:=hx;rfl
theorem mK(l:List UInt32):∀x∈(l.map CB).toArray.toList,x.oneCell'=true:=by
 intro x hx;simp only [GB]at hx;obtain ⟨y,_,rfl⟩:=hx;rfl
theorem rz(G g o cap:Nat)(c:AN)(T:AM)(z:Nat×Nat)(bs:List UInt8)(hb:bs.length=64)(hc:MI c o bs)(I O:AM)(W:Nat×Nat)(v:V8):
 Bz prog 167 #[I5 G,.slice (some ⟨g,o,none⟩) 64 cap] [[(G,.cells (v8c v) I (0,0))],[(g,.cells c T z)],[(1,.cells (Di.map CB).toArray O W)]]
  (fun r H'=>r= .tuple #[]/\H'=[[(G,.cells (v8c (MG v bs)) I (0,0))],[(g,.cells c T z)],[(1,.cells (Di.map CB).toArray O W)]]):=by
 refine Jf func167 V ntmps167 V ?_;intro u R;obtain ⟨ws,y⟩:∃ws,ws=Dx bs:=⟨_,rfl⟩;have U:ws.length=64:=by rw [y];exact jF bs
 have E:=bO g o cap c T z bs hb hc;rw [<-y]at E;have J:MG v bs=sF v (Cf ws v 64):=by rw [y];rfl
 clear y;rw [J];refine Zb [0,1] ?_;refine A1<|Zm Y<|Xr [_] Y call190 Y V (E) ?_;refine Ze (ND zeroValue269 (cs:=(F6 []).toArray) AG)<|AF fun bw=>Xe (BN sizeOf269 Y Y (by exact mK _) Wu (by exact nP ws U) (by exact nO ws U) (by exact sW) (by exact BU _)) ?_;refine AD<|A1<|Zm Y<|Zp Y V<|Zo Wh (A9 (cs:=v8c v) isAgg238 sizeOf238 Y Wn An) ?_;refine Ze (Al zeroValue238 #[_,_,_,_,_,_,_,_])<|AF fun X=>Xe (BN sizeOf238 Y Y (by exact fw v) Wu (by exact (rfl:_=v8c (Cf ws v 0))) Ek Wn (by exact BU _)) ?_;refine AD<|Zq<|A1<|Zo Wh (A9 (cs:=(Di.map CB).toArray) isAgg269 sizeOf269 Y (by exact B8 _) (by exact J9 _ _ V)) ?_;refine Zm Y<|AD<|AX<|Zb [19,0,4,5,18] ?_;refine BB (e0:=[(19,_)]) (fun m e H=>∃k:Nat,m=64 -k/\(k<=64)/\e=[(19,I4 (k:Int))]/\H=[[(X,.cells (v8c (Cf ws v k)) 238 (0,0))]]) (by exact ⟨0,V,C2 _,V,V⟩) Wp ?_;rintro _ _ _ ⟨k,rfl,hk,rfl,rfl⟩;obtain ⟨x,hx⟩:∃x,x=Cf ws v k:=⟨_,rfl⟩;rw [<-hx];refine A1<|Zv (Au (n:=64) Y Y)<|AD<|Zq<|Ak Y (fun K=>?_) (fun K=>?_);·
  refine AB<|Zx<|Zq<|AX<|A1<|Zm Y<|Zv (R6 S2 EV CI Y Y A0 (by exact yS k A0))<|Za Y<|A3 Y<|Zq<|BJ (n:=6) (0::1::0::4::3::31::[]) 0 AG AG V<|A2 0 V (Ag (j:=0) L3 CI Y Y A0)<|B2 1 V EV Y ?_;refine A2 2 V (Ag (j:=4) L3 CI Y Y A0)<|B2 3 V EV Y ?_;refine A2 4 V (BF Y)<|A2 5 V (BF Y)<|Ao<|Zx<|Zq<|BJ (n:=24) (0::1::0::0::12::31::0::0::128::448::0::1024::0::4096::15360::32704::65535::0::262143::0::524288::1572864::4194303::8388607::[]) 24 AG AG V<|A2 0 V (Ag (j:=7) L3 CI Y Y A0)<|B2 1 V EV Y ?_;refine A2 2 V (AJ Y)<|A2 6 V (AJ Y)<|A2 7 V (Ag (j:=5) L3 CI Y Y A0)<|B2 8 V EV Y ?_;refine A2 9 V (Fy Y Y)<|A2 10 V (AJ Y)<|A2 11 V (Vd Y)<|A2 12 V (Ag (j:=6) L3 CI Y Y A0)<|B2 13 V EV Y ?_;refine A2 14 V (Fy Y Y)<|A2 15 V (DC Y Y)<|A2 17 V (AJ Y)<|A2 19 V (AJ Y)<|A2 20 V (Ag S2 CI Y Y A0)<|B2 21 V EV Y (hv:=by exact Rj CB ws k 0 A0) ?_;refine Yz 3 0 3866575 [21,13,8,1] [true,true,true,true] [(21,(_,_)),(13,(_,_)),(8,(_,_)),(1,(_,_))] V Y V rfl V rfl (Af (vs:=[_,_,_]) (cs:=[_,_,_]) Fi A5 HL Y V rfl V rfl V)<|AF fun b3=>BT<|Yz 4 12 3866591 [21,13,8,1] [true,true,true,true] [(21,(_,_)),(13,(_,_)),(8,(_,_)),(1,(_,_))] V Y V rfl V rfl (Zu [_,_] Y X1 Y V (J4 _ [6,11,25] _ _ _ _ AK AK))<|C3<|BT<|A2 5 V (CU Y Y)<|A2 16 V (CU Y Y)<|A2 18 V (CU Y Y)<|A2 22 V (CU Y Y)<|A2 23 V (BF Y)<|Ao<|Zn [0,4,5,8,10,18,19] ?_;refine Zx<|Zq<|BJ (n:=20) (0::0::3::0::0::16::56::0::0::256::896::2040::0::4096::0::16384::61440::131064::262143::524287::[]) 6 AG AG V<|A2 0 V (AJ Y)<|A2 3 V (AJ Y)<|A2 4 V (Ag (j:=1) L3 CI Y Y A0)<|B2 5 V EV Y ?_;refine A2 6 V (Fy Y Y)<|A2 7 V (AJ Y)<|A2 8 V (Ag (j:=2) L3 CI Y Y A0)<|B2 9 V EV Y ?_;refine A2 10 V (Fy Y Y)<|A2 11 V (DC Y Y)<|A2 12 V (Ag (j:=1) L3 CI Y Y A0)<|B2 13 V EV Y ?_;refine A2 14 V (Ag (j:=2) L3 CI Y Y A0)<|B2 15 V EV Y ?_
  refine A2 16 V (Fy Y Y)<|A2 17 V (DC Y Y)<|Zz (l:=[1])<|BE [true,true,true,true] [(15,(_,_)),(13,(_,_)),(9,(_,_)),(5,(_,_))] V rfl (Af (vs:=[_,_,_]) (cs:=[_,_,_]) Fi A5 HL Y V rfl V rfl V) ?_ (fun _ _ h=>h.elim) Ay;rintro _ _ ⟨b4,rfl,rfl⟩;refine BT<|Yz 2 3 262143 [15,13,9,5] [true,true,true,true] [(15,(_,_)),(13,(_,_)),(9,(_,_)),(5,(_,_))] V Y V rfl V rfl (Zu [_,_] Y X1 Y V (J4 _ [2,13,22] _ _ _ _ AK AK))<|C3<|BT<|A2 18 V (CU Y Y)<|A2 19 V (BF Y)<|Ao<|Zn [0,4,5,10,11,18,19] ?_;refine Zx<|Zq<|BJ (n:=3) (0::0::3::[]) 4 AG AG V<|A2 0 V (QN (l:=1) L3 CI Y Y A0)<|A2 1 V (Sz (h:=7) L3 CI Y Y A0)<|Yw 2 7 V (wS (cs:=[_,_,_,_,_,_,_]) (c':=#[_,_,_,_,_,_,_,_]) G3 CI Y Y Wh Wu An An An (by exact B8 8) (BU _) (by simp [Value.oneCell',CB]))<|C3<|Ao<|Zx<|Zg<|Zm Y<|Zm Y<|Zv (CU Y Y)<|Ap (Ag (j:=4) L3 CI Y Y A0)<|Zl EV Y ?_;refine Zm Y<|Zv (CU Y Y)<|Ap (Ag (j:=0) L3 CI Y Y A0)<|Xe (Zs CI Y Y V) ?_;refine Ap (Ag (j:=4) L3 CI Y Y A0)<|Xe (Zs CI Y Y V (hc:=by exact (bI x k ws v hx))) ?_;refine Z0<|Zn [0,4,5,18,19] ?_;refine A8<|Zx<|Zg<|Ya (n:=1) Y Y<|Zm Y<|Z0<|Zn [19,0,4,5,18] ?_;refine AZ (e':=[(19,_)]) (by exact ⟨k+1,V,by omega,V,V⟩)
 refine Aw<|Zt<|Zt<|AQ<|Zx<|A1<|Zm Y<|AD<|AX ?_;have ek:k=64:=by omega
 subst ek;refine Zb [82,0,5] ?_;refine BB (e0:=[(82,_)]) (fun m e H=>∃i:Nat,m=8 -i/\(i<=8)/\e=[(82,I4 (i:Int))]/\H=[[(G,.cells ((Vt v x i).map CB).toArray I (0,0))]]) (by exact ⟨0,V,C2 _,V,V⟩) Wp ?_;rintro _ _ _ ⟨i,rfl,hi,rfl,rfl⟩;refine A1<|Zv (Au (n:=8) Y Y)<|AD<|Zq<|Ak Y (fun M=>?_) (fun M=>?_);·
  refine AB<|Zx<|Zq<|AX<|A1<|Zm Y<|A3 Y<|BJ (n:=12) (0::0::1::7::15::0::32::96::255::1::1023::2047::[]) 2048 AG AG rfl<|A2 0 rfl (AJ Y)<|A2 1 rfl (AJ Y)<|A2 2 rfl (EY Y rfl)<|A2 3 rfl (Ag L3 CI Y Y (by first|omega|(rw [HA,zu,NT _ _ _ A0];omega)))<|B2 4 rfl EV Y (hv:=by exact kZ _ _ i A0) ?_;refine A2 5 rfl (AJ Y)<|A2 6 rfl (Ag L3 CI Y Y (by first|omega|(rw [HA,zu,NT _ _ _ A0];omega)))<|B2 7 rfl EV Y (hv:=by exact mI _ i A0) ?_;refine A2 8 rfl (CU Y Y)<|A2 9 rfl (EY Y rfl)<|A2 10 rfl (Ag L3 CI Y Y (by first|omega|(rw [HA,zu,NT _ _ _ A0];omega)))<|Yw 11 4095 rfl (Zs CI Y Y rfl (hc:=by exact kY _ _ i A0) (hi:=by(rw [HA,zu,NT _ _ _ A0];omega)))<|C3<|Ao<|Zn [0,5,82] ?_;refine A8<|Zx<|Zg<|Ya (n:=1) Y Y<|Zm Y<|Z0<|Zn [82,0,5] ?_;refine AZ (e':=[(82,_)]) (by exact ⟨i+1,V,by omega,V,V⟩)
 have Z:i=8:=by omega
 subst Z;rw [<-hx];refine Aw<|Zt<|Zt<|AQ<|GX V results167 (by exact ⟨V,V⟩)
def Sv(N:Nat)(l:List UInt8):AN:=(l.map u8v++List.replicate (N -l.length) (Value.int .u8 0)).toArray
theorem oH(N:Nat)(l:List UInt8)(x:UInt8)(k:Nat)(g:k=l.length)(h:l.length<N):(Sv N l).setIfInBounds k (.int .u8 (x.toNat:Int))=Sv N (l++[x]):=by
 subst g;unfold Sv;rw [iS];congr 1;rw [eA _ _ B3];simp only [zu,S1,zq,D3,KK];obtain ⟨n,hn⟩:∃n,N -l.length=n+1:=⟨N -1 -l.length,by omega⟩;rw [hn,show N -(l.length+(0+1))=n by omega];simp [List.replicate_succ,u8v]
theorem VZ(N:Nat)(l:List UInt8)(h:l.length<=N):(Sv N l).size=N:=by simp [Sv];omega
theorem jg(N:Nat)(l:List UInt8)(h:l.length=N):(Sv N l).toList=l.map u8v:=by simp [Sv,h]
def RV(v:V8)(i k:Nat):List UInt8:=(v.list.take i).flatMap KJ++(KJ (v.list.getD i 0)).take k
theorem PG(v:V8)(i k:Nat)(hi:i<8)(g:k<=4):(RV v i k).length=4*i+k:=by
 have:i=0\/i=1\/i=2\/i=3\/i=4\/i=5\/i=6\/i=7:=by omega
 rcases this with rfl|rfl|rfl|rfl|rfl|rfl|rfl|rfl<;>simp [RV,V8.list,KJ]<;>omega
theorem jm(v:V8)(i:Nat)(hi:i<8):RV v (i+1) 0=RV v i 4:=by
 have:i=0\/i=1\/i=2\/i=3\/i=4\/i=5\/i=6\/i=7:=by omega
 rcases this with rfl|rfl|rfl|rfl|rfl|rfl|rfl|rfl<;>rfl
theorem jl(v:V8)(i k:Nat)(g:k<4):RV v i (k+1)=RV v i k++[((v.list.getD i 0)>>>UInt32.ofNat (24 -8*k)).toUInt8]:=by
 have:k=0\/k=1\/k=2\/k=3:=by omega
 unfold RV;generalize v.list.getD i 0=x;rcases this with rfl|rfl|rfl|rfl
 · simp [KJ]
 · simp [KJ]
 · simp [KJ]
 · have e:x>>>UInt32.ofNat (24 -8*3)=x:=by
    apply UInt32.toNat_inj.1;simp [UInt32.toNat_shiftRight]
   rw [e];simp [KJ]
theorem gX(v:V8):RV v 8 0=oP v:=rfl
theorem mH(y:V8)(i:Nat)(h:i<8):(v8c y)[i*1]?=some (CB (y.list.getD i 0)):=by rw [Iv];exact mI y i h
theorem aN(v:V8):BC prog 168 #[.agg (v8c v)] [] (.string (str (oP v))):=by
 refine Se func168 ntmps168 [0] ?_;intro u R;refine A1<|Ze (Ik Y (cs:=(v8c v)) AG)<|AF fun J=>A3 Y<|A1<|Ze (ND zeroValue272 (cs:=(Sv 32 [])) AG)<|AF fun E=>AD<|Zq<|A1<|Zo Wh (A9 (cs:=v8c v) isAgg238 sizeOf238 Y (by exact B8 _) (by exact J9 _ _ V))<|Zm Y<|AD<|AX<|Zb [8,3,7] ?_;refine BB (e0:=[(8,_)]) (fun m e H=>∃i:Nat,m=8 -i/\(i<=8)/\e=[(8,I4 (i:Int))]/\H=[[(E,.cells (Sv 32 (RV v i 0)) 272 (0,0))]]) (by exact ⟨0,V,C2 _,V,V⟩) Wp ?_;rintro _ _ _ ⟨i,rfl,hi,rfl,rfl⟩;refine A1<|Zv (Au (n:=8) Y Y)<|AD<|Zq<|Ak Y (fun g=>?_) (fun g=>?_);·
  refine AB<|Zx<|Zq<|AX<|A1<|Zm Y<|Zv (R6 L3 EV CI Y Y A0 (by exact mH v i A0))<|Za Y<|A3 Y<|A1<|Zm Y<|AD<|AX<|Zb [12,3,4,5,7,8] ?_;refine BB (e0:=[(12,_)]) (fun m e H=>∃k:Nat,m=4 -k/\(k<=4)/\e=[(12,I4 (k:Int))]/\H=[[(E,.cells (Sv 32 (RV v i k)) 272 (0,0))]]) (by exact ⟨0,V,C2 _,V,V⟩) Wp ?_;rintro _ _ _ ⟨k,rfl,K,rfl,rfl⟩;refine A1<|Zv (Au (n:=4) Y Y)<|AD<|Zq<|Ak Y (fun y=>?_) (fun y=>?_);·
   refine AB<|Zx<|Zq<|AX<|A1<|Zm Y<|A3 Y<|Zg<|Zm Y<|Ap (Df (m:=4) Y Y A0)<|Zm Y<|Ya Y Y<|Zm Y<|Zm Y<|Ap (Df (m:=8) Y Y A0)<|Yb (m:=24) Y Y ?_;refine Ap (Fv Y Y A0)<|Zv (Gg MT HG Y)<|Ap (Ag underlying272 HN Y Y (by first|omega|(rw [VZ _ _ (by rw [PG _ _ _ A0 A0];omega)];omega)))<|Xe (Zs HN Y Y rfl (hc:=by exact (oH 32 (RV v i k) _ _ (by rw [PG _ _ _ A0 A0]) (by rw [PG _ _ _ A0 A0];omega)).trans (congrArg (Sv 32) (jl v i k A0).symm)) (hi:=by(rw [VZ _ _ (by rw [PG _ _ _ A0 A0];omega)];omega)))<|Z0<|Zn [3,4,5,7,8,12] ?_;refine A8<|Zx<|Zg<|Ya (n:=1) Y Y<|Zm Y<|Z0<|Zn [12,3,4,5,7,8] ?_;refine AZ (e':=[(12,_)]) (by exact ⟨k+1,V,by omega,V,V⟩)
  have I:k=4:=by omega
  subst I;refine Aw<|Zt<|Zt<|AQ<|A8<|Zx<|Zg<|Ya (n:=1) Y Y<|Zm Y<|Z0<|Zn [8,3,7] ?_;refine AZ (e':=[(8,_)]) (by exact ⟨i+1,rfl,by omega,rfl,by rw [jm v i A0]⟩)
 have G:i=8:=by omega
 subst G;refine Aw<|Zt<|Zt<|AQ<|Zx<|A1<|Zv (Fg underlying272 HN Y)<|Zo Wh (Dh DS HG HE Y (by exact ⟨(by rw [jg 32 (RV v 8 0) (by rw [gX];rfl)];exact HK (by rw [NO,zu,gX];exact B8 32)),rfl⟩))<|A3 Y<|AA<|AC rfl results168 Y dj
def Qc(g j:Nat):A4:= .slice (some ⟨g,64*j,none⟩) 64 64
theorem rM(g k M:Nat)(h:k<M):Value.slice (some ⟨g,0+64*k*1,none⟩) (64*k+min 64 (64*M -64*k) -64*k) (64*k+min 64 (64*M -64*k) -64*k)=Qc g k:=by
 have m:64*k+min 64 (64*M -64*k) -64*k=64:=by omega
 have h2:0+64*k*1=64*k:=by omega
 rw [m,h2];rfl
theorem YT(M k:Nat)(h:k<M):List.range M=List.range k++k::(List.range' (k+1) (M -k -1)):=by
 rw [iu,iu,<-fg];rw [show M -k -1+1=M -k by omega];have:=List.range'_append_1 (s:=0) (m:=k) (n:=M -k)
 rw [show 0+k=k by omega,show k+(M -k)=M by omega]at this;exact this.symm
theorem eZ(g cap M:Nat)(bs K:Nat)(Z:64*M<=cap)(hc:cap<=maxLen):
 UA prog 189 #[I5 bs,I5 K] [[(bs,.cells #[I6 g (64*M) cap] 76 (0,0))],[(K,.cells #[I4 64] 3 (0,0))]] (fun j=>#[Qc g j]) (List.range M):=by
 have W:=mL;intro l J hy s E;refine Se func189 ntmps189 [0,1,2] ?_;intro u R;refine A1<|A3 Y<|AX<|Zb [4,0,1,2] ?_;refine BB (e0:=[(4,_)]) (fun m e H=>∃(k:Nat) (s:List AU),m=M -k/\(k<=M/\J (List.range k) s)/\e=[(4,I4 ((64*k:Nat):Int))]/\H=[s]) (by exact ⟨0,s,V,⟨C2 _,E⟩,V,V⟩) Wp ?_;rintro _ _ _ ⟨k,s,rfl,⟨hk,E⟩,rfl,rfl⟩;refine Zq<|A1<|Zm Y<|Zl isAgg76 Y ?_;refine Zv (AP DS Y)<|Zv (Au Y Y)<|AD<|Ak Y (fun I=>?_) (fun I=>?_);·
  refine AB<|Zx<|Zq<|AX<|Zq<|BJ (n:=7) (0::0::0::6::14::31::63::[]) 0 AG AG V<|B2 0 V AE Y ?_;refine B2 1 V isAgg76 Y ?_;refine A2 2 V (AJ Y)<|A2 3 V (Bn DS HN Y Y A0)<|A2 4 V (AP DS Y)<|A2 5 V (Ky Y Y)<|A2 6 V (BF Y)<|Ao<|Zx<|Zq ?_;have y:=hy (List.range k) k _ s (YT M k A0) E
  rw [<-cQ]at y;rw [show(fun j=>#[Qc g j]) k=#[Qc g k] from rfl,<-rM g k M A0]at y;refine Zg<|Zm Y<|Zl isAgg76 Y ?_;refine Zm Y<|Zm Y<|Zm Y<|Ya Y Y<|Zm Y<|Zm Y<|Ya Y Y ?_
  (refine Ap (Sy DS HN Y Y Y Y ?_ ?_) ?_;(focus ((simp only [Nat.min_def];split<;>omega)));(focus (omega)))
  refine Ze (Oa (vs:=[_]) Y Y (y) Wp) ?_;rintro _ _ ⟨_,⟨X,rfl,rfl,G⟩,rfl⟩;refine Zv (Cj Y)<|Z0<|Zn [0,1,2,4,30] ?_;refine Zx<|Ad Y (fun O=>by cases O)<|fun O=>AB<|A8<|Zx<|Zg<|Zm Y<|Zl AE Y ?_;refine Yi Y Y<|AH Y<|Zn [4,0,1,2] ?_;refine AZ (e':=[(4,_)]) (by exact ⟨k+1,X,V,⟨by omega,G⟩,V,V⟩)
 have U:k=M:=by omega
 subst U;refine Aw<|Zt<|Zt<|AQ<|GX V results189 (by exact ⟨s,V,E⟩)
theorem eY(p:B7)(n cap:Nat):Bz prog 166 #[.slice p n cap,I4 64] [] (fun r H'=>∃bs m,r= .func (.func 189) #[] #[I5 bs,I5 m]/\H'=[[(bs,.cells #[.slice p n cap] 76 (0,0))],[(m,.cells #[I4 64] 3 (0,0))]]):=by
 refine Se func166 ntmps166 [0,1] ?_;intro u R;refine A1<|Ze (Bx #[_])<|AF fun y=>Ze (Bx #[_])<|AF fun E=>A3 Y<|Zq<|A1<|Zl AE Y<|Zv (Au (n:=1) Y Y)<|AD<|Ak Y (fun g=>?_) (fun g=>?_);·
  exact absurd g AK
 refine AB<|Zx<|A1<|Zv (Bt (vs:=[]) (us:=[_,_]) Y Y)<|A3 Y<|AA<|AC V results166 Y (by exact ⟨y,E,V,V⟩)
theorem N8:∀(n:Nat) (h:V8) (b:List UInt8),GM (n+1) h b=MG (GM n h b) ((b.drop (64*n)).take 64)
 |0,h,b=>by simp [GM]
 |n+1,h,b=>by
  rw [GM,N8 n,GM,ab];rw [show 64+64*n=64*(n+1) by omega]
def OB(l:List UInt8)(k:Nat):List UInt8:=l++[128]++List.replicate k 0
theorem Hy(l:List UInt8)(k:Nat):(OB l k).length=l.length+1+k:=by simp [OB];omega
theorem VW(l:List UInt8)(k:Nat):(OB l k).map u8v++[.int .u8 0]=(OB l (k+1)).map u8v:=by
 unfold OB;rw [List.replicate_succ'];simp [u8v]
def Su(l:List UInt8)(j:Nat):List UInt8:=OB l (JM l.length)++(RX l.length).take j
theorem VX(l:List UInt8):Su l 0=OB l (JM l.length):=by simp [Su]
theorem QK(l:List UInt8):Su l 8=Ec l:=by
 have:(RX l.length).take 8=RX l.length:=HK (by simp [RX]);simp [Su,OB,Ec,this]
theorem pQ(n j:Nat)(h:j<8):(RX n).take (j+1)=(RX n).take j++[UInt8.ofNat (8*n/2^(8*(7 -j)))]:=by
 rw [i6 (by simp [RX];omega)];simp [RX]
theorem VY(l:List UInt8)(j q:Nat)(h:q+j=7):(Su l j).map u8v++[.int .u8 ((UInt8.ofNat (8*l.length/2^(8*q))).toNat:Int)]=(Su l (j+1)).map u8v:=by
 unfold Su;rw [pQ _ _ A0,show 7 -j=q by omega];simp [u8v]
theorem PE(l:List UInt8)(j:Nat)(h:j<=8):(Su l j).length=l.length+1+JM l.length+j:=by
 have:(RX l.length).length=8:=by simp [RX]
 simp [Su,Hy,this];omega
theorem iD(m:Nat):IntKind.u8.wrap (m:Int)=((UInt8.ofNat m).toNat:Int):=by
 rw [IntKind.wrap_u8',fY];omega
theorem fU(n k:Nat)(g:k<=JM n)(h:(n+1+k)%64≠56):k<JM n:=by
 have:=fT n;rcases DP k (JM n)with h1|h1
 · exact h1
 · have:k=JM n:=by omega
   subst this;contradiction
theorem fV(n k:Nat)(g:k<=JM n)(h:(n+1+k)%64=56):k=JM n:=by
 unfold JM at g⊢;omega
theorem jQ{M x:Nat}{pre g:List Nat}(h:List.range M=pre++x::g):x=pre.length/\x<M:=by
 have m:(List.range M)[pre.length]?=some x:=by rw [h];simp
 have y:pre.length<M:=by
  have:=(zt.1 m).1;simpa using this
 rw [cH y]at m;have:=PC m
 omega
theorem RH{cur:AN}{p:List UInt8}(h:cur.toList.take (p.map u8v).length=p.map u8v)(k:Nat)(m:64*k+64<=p.length):MI cur (64*k) ((p.drop (64*k)).take 64):=by
 unfold MI;have g:((p.drop (64*k)).take 64).length=64:=by simp;omega
 rw [g,List.map_take,List.map_drop,<-h];rw [fz,SR];congr 1;simp;omega
theorem gN(l:List UInt8)(M:Nat)(h:(Ec l).length=64*M):sha l=oP (GM M h0 (Ec l)):=by
 unfold sha;rw [h,Nat.mul_div_cancel_left _ A0]
theorem mX(s:ByteArray)(hs:s.size<=140737488355000)(Tg:AM)(zg:Nat×Nat):
 BC prog 135 #[.string s] [[(1,.cells (Di.map CB).toArray Tg zg)]] (.string (str (sha s.data.toList))):=by
 have l8:=mL;obtain ⟨l,K⟩:∃l,l=s.data.toList:=⟨_,rfl⟩;have hn:l.length=s.size:=by rw [K];rfl
 have hz:JM s.size<64:=by unfold JM;omega
 refine GA func135 V ntmps135 V ?_;intro u R;refine Zb [0] ?_;refine A1<|A3 Y<|A1<|Zv (BQ (vs:=[(0,_),(1,_),(2,_),(3,_),(4,_),(5,_),(6,_),(7,_)]) (cs:=#[_,_,_,_,_,_,_,_]) Y (Cv zeroValue238 L3 CI V))<|Ze (Al zeroValue238 #[_,_,_,_,_,_,_,_])<|AF fun bh=>Xe (BN sizeOf238 Y Y (fw h0) Wu (by exact (rfl:_=v8c (GM 0 h0 (Ec l)))) Ek Wn (by exact BU _))<|AD<|A1<|Zm Y<|Ze (su HE DS HG Y A0) ?_;rintro _ _ ⟨sa,O,rfl⟩;obtain ⟨ga,ca,rfl⟩:=O.form;refine Ze (Af (vs:=[_]) (cs:=[_]) DS HN Mz Y V rfl V rfl V)<|AF fun b3=>Ze (EQ (by_:=1) (news:=[_]) DS (V:Tryz.prog.info? 5=some Tryz.t5) V rfl V rfl Y O Y Wo Wh An V GF AK (by(simp only [zu,<-K,hn];omega)) (by(simp only [zu,<-K,hn];omega))) ?_;rintro _ _ ⟨sb,U,rfl⟩;obtain ⟨gb,cb,rfl⟩:=U.form;refine A3 Y<|Zq<|AX ?_;have cO:Row 5 (.slice gb (List.map u8v s.data.toList++[Value.int IntKind.u8 128]).length cb) ((OB l 0).map u8v) sb:=by
  have e:(OB l 0).map u8v=List.map u8v s.data.toList++[Value.int IntKind.u8 128]:=by rw [<-K];simp [OB,u8v]
  rw [e];exact U
 refine Zb [4,0,3] ?_;refine BB (e0:=[(4,_)]) (fun m e H=>∃(k:Nat) (v:A4) (G:List AU),m=JM s.size -k/\(k<=JM s.size/\Row 5 v ((OB l k).map u8v) G)/\e=[(4,v)]/\H=[G]) (by exact ⟨0,_,_,V,⟨C2 _,cO⟩,V,V⟩) Wp ?_;rintro _ _ _ ⟨k,v,G,rfl,⟨hk,y⟩,rfl,rfl⟩;obtain ⟨gv,cv,rfl⟩:=y.form;refine Zq<|A1<|Zm Y<|Zv (AP DS Y)<|Ap (De (n:=64) Y Y A0)<|Zv (E5 (n:=56) Y Y)<|AD<|Ak Y (fun E=>?_) (fun E=>?_);·
  rw [zu,Hy,hn]at E;have ax:=fU _ _ hk E
  refine AB<|Zx<|AX<|Zg<|Zm Y<|Ze (Af (vs:=[_]) (cs:=[_]) DS HN Mz Y V rfl V rfl V)<|AF fun b5=>Ze (EQ (by_:=1) (news:=[_]) DS (V:Tryz.prog.info? 5=some Tryz.t5) V rfl V rfl Y y Y Wo Wh An V GF AK (by(simp only [zu,Hy,hn];omega)) (by(simp only [zu,Hy,hn];omega))) ?_;rintro _ _ ⟨sc,W,rfl⟩;obtain ⟨gc,cc,rfl⟩:=W.form;refine AH Y<|A8<|Zn [4,0,3] ?_;refine AZ (e':=[(4,_)]) (by exact ⟨k+1,_,_,rfl,⟨ax,by rw [<-VW];exact W⟩,rfl,rfl⟩)
 rw [zu,Hy,hn]at E;have ek:=fV _ _ hk A0
 subst ek;refine Aw<|Zt<|Zt<|AQ<|Zx<|Zq<|A1<|A3 Y<|AX<|Zb [4,5,0,3] ?_;refine BB (e0:=[(4,_),(5,_)]) (fun m e H=>∃(j:Nat) (i:Int) (v:A4) (G:List AU),m=8 -j/\(j<=8/\i=7 -(j:Int)/\Row 5 v ((Su l j).map u8v) G)/\e=[(4,v),(5,I4 i)]/\H=[G]) (by exact ⟨0,_,_,_,rfl,⟨C2 _,rfl,by rw [VX,hn];exact y⟩,rfl,rfl⟩) Wp ?_;rintro _ _ _ ⟨j,i,v,G,rfl,⟨hj,hi,y⟩,rfl,rfl⟩;obtain ⟨gv,cv,rfl⟩:=y.form;refine Zq<|A1<|Zm Y<|Zv (I1 Y Y)<|AD<|Ak Y (fun J=>?_) (fun J=>?_);·
  obtain ⟨q,rfl⟩:=Int.eq_ofNat_of_zero_le J;refine AB<|Zx<|Zq<|AX<|Zg<|Zm Y<|Zm Y<|Zv (Ev HE Y)<|Ap (Df (m:=8) Y Y A0)<|Zm Y<|Ap (Df (m:=8) Y Y A0)<|Ap (QO Y Y (by first|decide|(simp [IntKind.bits];done)|(simp [IntKind.bits];omega)))<|KY (FB F0 HG Y (iD _)) rfl rfl<|Ze (Af (vs:=[_]) (cs:=[_]) DS HN Mz Y rfl rfl rfl rfl rfl)<|AF fun b7=>Ze (EQ (by_:=1) (news:=[_]) DS (V:Tryz.prog.info? 5=some Tryz.t5) V rfl V rfl Y y Y Wo Wh An V GF AK (by(simp only [zu,PE l j hj,hn];omega)) (by(simp only [zu,PE l j hj,hn];omega))) ?_;rintro _ _ ⟨sd,X,rfl⟩;obtain ⟨gd,cd,rfl⟩:=X.form;refine AH Y<|Zn [0,3,4,5] ?_;refine A8<|Zx<|Zg<|Zm Y<|Ap (HV Y Y (IntWalk.i64_in _ A0))<|AH Y<|Zn [4,5,0,3] ?_;refine AZ (e':=[(4,_),(5,_)]) (by exact ⟨j+1,_,_,_,rfl,⟨by omega,by omega,by rw [<-VY l j q A0,hn];exact X⟩,rfl,rfl⟩)
 have ej:j=8:=by omega
 subst ej;refine Aw<|Zt<|Zt<|AQ<|Zx<|Zq<|Zq ?_;rw [QK]at y;obtain ⟨M,hM⟩:∃M,(Ec l).length=64*M:=⟨(Ec l).length/64,by have:=Sr l;omega⟩;have cu:=OA l
 rw [hn]at cu;rw [QK];obtain ⟨g,cap,cur,z,hv,rfl,bf,af,kv,d9,kz⟩:=y.some (by rw [zu];omega);simp only [Value.slice.injEq]at hv;obtain ⟨rfl,_,rfl⟩:=hv;rw [zu]at bf;rw [zu,hM];refine Zg<|Zm Y<|Zc [_,_] Y call166 Y V (eY _ _ _) ?_;rintro _ _ ⟨_,⟨bs,bn,rfl,rfl⟩,rfl⟩;refine AD<|AX<|Zb [3,34] ?_;refine RO (H0:=_) (R:=_) (I:=(fun pre H=>H=[[(bh,.cells (v8c (GM pre.length h0 (Ec l))) 238 (0,0))],[(g,.cells cur 5 z)],[(1,.cells (Di.map CB).toArray Tg zg)]])) (asg:=fun x=>[(6,Qc g x),(35,Qc g x)]) V Y call189 (eZ g cv M bs bn A0 af) Y V Wp (V) ?ha_6 ?hbd_6 ?hk_6
 case ha_6=>
  intro _ x _ _;refine Zg<|Za Y<|Z0 ?_;exact om
 case hbd_6=>
  intro l pre x gy u H1 R1 gq hI;subst hI;obtain ⟨gm,l9⟩:=jQ gq;subst gm;refine AX<|Zg<|Zm Y<|Zc [_,_] Y call167 Y rfl (rz _ _ _ _ _ _ _ _ (by rw [zy,C0];omega) (RH d9 _ A0) _ _ _ _) ?_;rintro _ _ ⟨_,⟨rfl,rfl⟩,rfl⟩;refine Z0<|A8<|L8 rfl (by rw [zq,FF,N8])
 intro D1 H2 Z;subst Z;refine Zn [3] ?_;refine A8<|Zx<|A1<|Zo Wh (A9 (cs:=v8c (GM M h0 (Ec l))) isAgg238 sizeOf238 Y Wn (by rw [eJ];exact J9 _ _ rfl))<|Xr [_] Y call168 Y rfl (aN _)<|A3 Y<|AA<|LA rfl (YM results135 Y) Wo (by exact ⟨by rw [<-K,gN l M hM],rfl⟩)
end Go.Proofs.YtlkdhannldcfbaaGreatDoor
