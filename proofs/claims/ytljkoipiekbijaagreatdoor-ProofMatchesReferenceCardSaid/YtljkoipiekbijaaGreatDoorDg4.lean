/- Contracts: bits.RotateLeft32 at the counts of the program, digest.mixed, digest.schedule. -/
import Derived.Test.YtljkoipiekbijaaGreatDoorA1
import Derived.Test.YtljkoipiekbijaaGreatDoorSha
import Derived.Test.YtljkoipiekbijaaGreatDoorEx31
set_option linter.unusedVariables false
set_option linter.unusedSimpArgs false
namespace Go.Proofs.YtljkoipiekbijaaGreatDoor
open Go.Proofs.Tryz
open Go Go.RowKit Gw
set_option maxRecDepth 100000
attribute [local irreducible] Gw.At Gw.Nx Gw.Ops
theorem V6(x:UInt32)(n m:Nat)(h0:0<n)(g:n<32)(y:n+m=32):(x<<<UInt32.ofNat m)|||(x>>>UInt32.ofNat n)=JM x (UInt32.ofNat n):=by
 unfold JM;have:(32:UInt32) -UInt32.ofNat n=UInt32.ofNat m:=by
  apply UInt32.toNat_inj.1;rw [UInt32.toNat_sub,iu,iu];simp only [UInt32.reduceToNat];omega
 rw [this]
theorem uV(n m:Nat)(h0:0<n)(y:n<32)(z:n+m=32):bits .and .u64 (IntKind.u64.wrap (-(n:Int))) 31=(m:Int):=by
 have h:IntKind.u64.wrap (-(n:Int))=((18446744073709551616 -n:Nat):Int):=by rw [IntKind.wrap_u64];omega
 have g:(31:Int)=((31:Nat):Int):=rfl;rw [h,g,u64_and_nat _ _ A0 A0,nat_mask5];omega
theorem jl(x:UInt32)(n:Nat)(h0:0<n)(g:n<32):BB prog 261 #[.int .u32 x.toNat,I4 (-(n:Int))] [] (.int .u32 (JM x (UInt32.ofNat n)).toNat):=by
 refine Jy func261 V ntmps261 V ?_;intro u R;obtain ⟨m,y⟩:∃m,n+m=32:=⟨32 -n,by omega⟩;refine Zb [0,1] ?_;refine A2<|AF Y<|B7 Y<|KH (FB Ge km Y V) V rfl<|KH (pG Y Y (uV n m h0 g y)) V rfl<|AF Y<|A2<|Sk 2 V ?_;refine BN (I9 Y Y A0)<|Sk 2 V ?_;refine BN (Ni (m:=32) Y Y A0 A0)<|BN (G8 Y Y A0)<|Zv (JA Y Y)<|AN Y<|Zn [4] ?_;refine Zx<|AC<|AO V results261 Y (by
  have e:32 -m=n:=by omega
  exact ⟨by rw [e,V6 x n m h0 g y],rfl⟩)
theorem qE(x:UInt32)(l:List UInt32)(n:UInt32):QR x (l++[n])=QR x l^^^JM x n:=by simp [QR]
def n4(n:Nat):A3:=I4 (n:Int)
theorem NC{α β:Type}(f:α->β)(l:List α)(k:Nat)(d:α)(h:k<l.length):(l.take (k+1)).map f=(l.take k).map f++[f (l.getD k d)]:=by
 rw [l4 h,HD];simp [Nd,Bk h]
theorem RZ{α:Type}(f:α->A3)(l:List α)(k:Nat)(d:α)(h:k<l.length):(l.map f).toArray[k]?=some (f (l.getD k d)):=by
 simp [Bk h,Nd]
theorem JC(x:UInt32)(l:List Nat)(g cap:Nat)(T:An)(z:Nat×Nat)(G:∀n∈l,0<n/\n<32)(hn:l.length<=100):
 BB prog 244 #[.int .u32 x.toNat,I6 g l.length cap] [[(g,.cells (l.map n4).toArray T z)]] (.int .u32 (QR x (l.map UInt32.ofNat)).toNat):=by
 refine Se func244 ntmps244 [0,1] ?_;intro u R;refine A2<|AF Y<|A2<|AF Y<|C0 Y<|Zv (AJ HF Y)<|Zm Y<|A6<|AQ<|Zb [5,10,0,8,9] ?_;refine Av (e0:=[(5,_),(10,_)]) (fun m e H=>∃k:Nat,m=l.length -k/\(k<=l.length)/\e=[(5,.int .u32 ((QR x ((l.take k).map UInt32.ofNat)).toNat:Int)),(10,I4 (k:Int))]/\H=[]) (by exact ⟨0,V,CD _,V,V⟩) Wp ?_;rintro _ _ _ ⟨k,rfl,I,rfl,rfl⟩;refine A2<|Zv (Ak Y Y)<|A6<|Zq<|Ad Y (fun E=>?_) (fun E=>?_);·
  refine B3<|Zq<|AQ<|A2<|BN (BI HF A4 Y Y A0)<|Zl A5 Y (hv:=by exact RZ n4 l k 0 A0)<|AN Y<|Zx ?_;have y:=G (l.getD k 0) (by rw [Nd,Bk A0];exact mj _)
  refine Zg<|Sk 3 rfl<|KH (TA (c:=-(l.getD k 0:Int)) Y (by rw [Int.zero_sub];exact IntWalk.i64_in _ A0)) rfl rfl<|Xr [_,_] Y call261 Y rfl (jl _ _ y.1 y.2)<|Zv (Dk Y Y)<|AN Y<|A8<|Zx<|GP Y Y Y<|DH (e:=[(5,_),(10,_)]) (h:=by exact ⟨k+1,rfl,by omega,by rw [NC _ _ _ 0 A0,qE],rfl⟩)
 refine Az<|Zt<|Zt<|AU<|Zx<|B7 Y<|AM Y<|AO V results244 Y (by
  have e:k=l.length:=by omega
  exact ⟨by rw [e,HJ],rfl⟩)
def F6(l:List UInt32):List A3:=l.map CP++List.replicate (64 -l.length) (.int .u32 0)
theorem Db(l:List UInt32)(h:l.length<=64):(F6 l).length=64:=by simp [F6];omega
theorem bE(l:List UInt32)(i:Nat)(h:i<l.length):(F6 l).toArray[i]?=some (CP (l.getD i 0)):=by
 simp [F6,ln,h,Nd]
theorem bC(l:List UInt32)(x:UInt32)(h:l.length<64):(F6 l).toArray.setIfInBounds l.length (CP x)=(F6 (l++[x])).toArray:=by
 rw [lB];congr 1;unfold F6;rw [fk _ _ C4];simp only [C2,Tr,C7,GB,My];obtain ⟨n,hn⟩:∃n,64 -l.length=n+1:=⟨63 -l.length,by omega⟩;rw [hn,show 64 -(l.length+(0+1))=n by omega];simp [List.replicate_succ]
theorem Qg(b:List UInt8)(k:Nat)(x:UInt32)(h:k<64)(hx:EO b (k+1)=EO b k++[x]):(F6 (EO b k)).toArray.setIfInBounds k (.int .u32 (x.toNat:Int))=(F6 (EO b (k+1))).toArray:=by
 have:=bC (EO b k) x (by rw [Bc];exact h);rw [Bc]at this;rw [hx];exact this
theorem bD(l:List UInt32):∀v∈(F6 l).toArray.toList,v.oneCell'=true:=by
 intro v hv;simp only [F6,GS,HX,List.mem_replicate]at hv;rcases hv with⟨x,_,rfl⟩|⟨_,rfl⟩<;>rfl
theorem Xo(l:List UInt32)(h:l.length=64):F6 l=l.map CP:=by simp [F6,h]
theorem Xk(b:List UInt8)(k:Nat)(h:k<16):EO b (k+1)=EO b k++[av b k]:=by rw [EO,B2 h]
theorem Xl(b:List UInt8)(k:Nat)(h:16<=k):EO b (k+1)=EO b k++[Yv (EO b k) k]:=by rw [EO,Ax A0]
def M7(c:As)(o:Nat)(bs:List UInt8):Prop:=(c.toList.drop o).take bs.length=bs.map u8v
theorem M7.get{c:As}{o:Nat}{bs:List UInt8}(h:M7 c o bs)(j:Nat)(m:j<bs.length):c[o+j]?=some (u8v (bs.getD j 0)):=by
 have g:((c.toList.drop o).take bs.length)[j]?=(bs.map u8v)[j]?:=by rw [h]
 rw [I3,B2 m,Ly,HL,Bk m]at g;rw [Kf]at g;rw [g];simp [Nd,Bk m]
theorem LW(b:List UInt8)(k i:Nat)(h:i<k):(F6 (EO b k)).toArray[i]?=some (CP ((EO b k).getD i 0)):=bE _ _ (by rw [Bc];exact h)
theorem bQ(g o cap:Nat)(c:As)(T:An)(z:Nat×Nat)(bs:List UInt8)(Z:bs.length=64)(hc:M7 c o bs):
 BB prog 243 #[.slice (some ⟨g,o,none⟩) 64 cap] [[(g,.cells c T z)]] (.agg ((E9 bs).map CP).toArray):=by
 refine Se func243 ntmps243 [0] ?_;intro u R;refine A2<|Ze (Ff zeroValue298 (cs:=(F6 []).toArray) AG)<|AE fun I=>A6<|C0 Y<|A6<|AQ<|Zb [7,0,2] ?_;refine Av (e0:=[(7,_)]) (fun m e H=>∃k:Nat,m=16 -k/\(k<=16)/\e=[(7,I4 (k:Int))]/\H=[[(I,.cells (F6 (EO bs k)).toArray 298 (0,0))]]) (by exact ⟨0,V,CD _,V,V⟩) Wp ?_;rintro _ _ _ ⟨k,rfl,J,rfl,rfl⟩;refine A2<|Zv (Ak (n:=16) Y Y)<|A6<|Zq<|Ad Y (fun E=>?_) (fun E=>?_);·
  refine B3<|Zq<|AQ<|B7 Y<|AF Y<|Au (n:=36) (0::0::0::4::14::30::62::126::0::0::512::1536::3840::7936::16128::32512::65534::0::0::262144::786432::1966080::4063232::8257536::16646144::33554430::0::0::134217728::402653184::1006632960::2080374784::4227858432::8589934590::17179869183::34359738367::[]) 34359738368 AG AG rfl<|A1 0 rfl (AA Y)<|A1 1 rfl (AA Y)<|A1 2 rfl (AA Y)<|A1 3 rfl (Dl (m:=4) Y Y A0)<|A1 4 rfl (BO GC KB Y Y (by first|omega|(rw [K0,Db _ (by rw [Bc];omega)];omega)))<|B6 5 rfl Vc Y (hv:=by exact hc.get _ A0) ?_;refine A1 6 rfl (Eh IF PB Y)<|A1 7 rfl (I9 (n:=24) Y Y A0)<|A1 8 rfl (AA Y)<|A1 9 rfl (AA Y)<|A1 10 rfl (Dl (m:=4) Y Y A0)<|A1 11 rfl (Ce (n:=1) Y Y A0)<|A1 12 rfl (BO GC KB Y Y (by first|omega|(rw [K0,Db _ (by rw [Bc];omega)];omega)))<|B6 13 rfl Vc Y (hv:=by exact hc.get _ A0) ?_;refine A1 14 rfl (Eh IF PB Y)<|A1 15 rfl (I9 (n:=16) Y Y A0)<|A1 16 rfl (JA Y Y)<|A1 17 rfl (AA Y)<|A1 18 rfl (AA Y)<|A1 19 rfl (Dl (m:=4) Y Y A0)<|A1 20 rfl (Ce (n:=2) Y Y A0)<|A1 21 rfl (BO GC KB Y Y (by first|omega|(rw [K0,Db _ (by rw [Bc];omega)];omega)))<|B6 22 rfl Vc Y (hv:=by exact hc.get _ A0) ?_;refine A1 23 rfl (Eh IF PB Y)<|A1 24 rfl (I9 (n:=8) Y Y A0)<|A1 25 rfl (JA Y Y)<|A1 26 rfl (AA Y)<|A1 27 rfl (AA Y)<|A1 28 rfl (Dl (m:=4) Y Y A0)<|A1 29 rfl (Ce (n:=3) Y Y A0)<|A1 30 rfl (BO GC KB Y Y (by first|omega|(rw [K0,Db _ (by rw [Bc];omega)];omega)))<|B6 31 rfl Vc Y (hv:=by exact hc.get _ A0) ?_;refine A1 32 rfl (Eh IF PB Y)<|A1 33 rfl (JA Y Y)<|A1 34 rfl (Ap aE EV Y Y (by first|omega|(rw [K0,Db _ (by rw [Bc];omega)];omega)))<|Yw 35 68719476735 rfl (Zs EV Y Y rfl (hc:=by exact Qg bs k (av bs k) A0 (Xk bs k A0)) (hi:=by(rw [K0,Db _ (by rw [Bc];omega)];omega)))<|DA<|Am<|Zn [0,2,7] ?_;refine A8<|Zx<|GP Y Y Y<|HN (by exact ⟨k+1,V,by omega,V,V⟩)
 refine Az<|Zt<|Zt<|AU<|Zx<|Zq<|A2<|AF Y<|AQ ?_;have y:k=16:=by omega
 subst y;refine Zb [4,2] ?_;refine Av (e0:=[(4,_)]) (fun m e H=>∃k:Nat,m=64 -k/\(16<=k/\k<=64)/\e=[(4,I4 (k:Int))]/\H=[[(I,.cells (F6 (EO bs k)).toArray 298 (0,0))]]) (by exact ⟨16,V,by omega,V,V⟩) Wp ?_;rintro _ _ _ ⟨k,rfl,⟨K,J⟩,rfl,rfl⟩;refine C0 Y<|Zv (Ak (n:=64) Y Y)<|A6<|Ad Y (fun G=>?_) (fun G=>?_);·
  refine B3<|Zq<|AQ<|Zq<|Au (n:=10) (0::1::3::7::0::16::48::112::15::511::[]) 0 AG AG V<|A1 0 V (AA Y) ?_
  (refine Dr (D':=3) 1 (C8 (n:=15) Y Y ?_ ?_) ?_;(focus (omega));(focus (omega)))
  refine A1 2 V (Ap aE EV Y Y A0)<|B6 3 V Gk Y (hv:=by exact LW bs k _ A0) ?_;refine A1 4 V (AA Y) ?_
  (refine Dr (D':=63) 5 (C8 (n:=2) Y Y ?_ ?_) ?_;(focus (omega));(focus (omega)))
  refine A1 6 V (Ap aE EV Y Y A0)<|B6 7 V Gk Y (hv:=by exact LW bs k _ A0) ?_;refine A1 8 V (Aq Y)<|A1 9 V (Aq Y)<|Am<|Zx<|Au (n:=26) (0::0::2::6::14::0::0::96::0::256::992::2046::0::4096::12288::28672::65534::0::0::393440::0::1048576::4063456::8388606::16777215::33554431::[]) 34341056 AG AG V<|A1 0 V (AA Y)<|A1 1 V (AA Y) ?_
  (refine Dr (D':=7) 2 (C8 (n:=16) Y Y ?_ ?_) ?_;(focus (omega));(focus (omega)))
  refine A1 3 rfl (Ap aE EV Y Y (by first|omega|(rw [K0,Db _ (by rw [Bc];omega)];omega)))<|B6 4 rfl Gk Y (hv:=by exact LW bs k _ A0) ?_;refine A1 5 V (AA Y)<|A1 8 V (AA Y)<|A1 9 V (G8 (n:=3) Y Y A0)<|A1 12 V (AA Y) ?_
  (refine Dr (D':=13119) 13 (C8 (n:=7) Y Y ?_ ?_) ?_;(focus (omega));(focus (omega)))
  refine A1 14 rfl (Ap aE EV Y Y (by first|omega|(rw [K0,Db _ (by rw [Bc];omega)];omega)))<|B6 15 rfl Gk Y (hv:=by exact LW bs k _ A0) ?_;refine A1 17 V (AA Y)<|A1 20 V (AA Y)<|A1 21 V (G8 (n:=10) Y Y A0)<|Zz (l:=[6,18])<|C6 [true,true] [(15,(_,_)),(4,(_,_))] V rfl (Ah (vs:=[_,_]) (cs:=[_,_]) HF A4 K1 Y V rfl V rfl V) ?hk_5 (fun _ _ h=>h.elim) ?hl_5
  case' hk_5=>
   rintro _ _ ⟨M,rfl,rfl⟩;refine CA<|Zz (l:=[7,18])<|C6 [true,true] [(15,(_,_)),(4,(_,_))] V rfl (Zu [_,_] Y cQ Y V (JC _ [7,18] _ _ _ _ AH AH)) ?hk_6 (fun _ _ h=>h.elim) ?hl_6
   case' hk_6=>
    rintro _ _ ⟨rfl,rfl⟩;refine CA<|A1 10 V (Dk Y Y)<|A1 11 V (Cr Y Y)<|A1 16 V (Cr Y Y)<|Zz (l:=[18])<|C6 [true,true] [(15,(_,_)),(4,(_,_))] V rfl (Ah (vs:=[_,_]) (cs:=[_,_]) HF A4 K1 Y V rfl V rfl V) ?hk_7 (fun _ _ h=>h.elim) ?hl_7
    case' hk_7=>
     rintro _ _ ⟨O,rfl,rfl⟩;refine CA<|Yz 19 393440 4194303 [15,4] [true,true] [(15,(_,_)),(4,(_,_))] V Y V rfl V rfl (Zu [_,_] Y cQ Y V (JC _ [17,19] _ _ _ _ AH AH)) ?_
    case' hl_7=>
     exact Ar
   case' hl_6=>
    refine C6 [true,true] [(15,(_,_)),(4,(_,_))] V rfl (Ah (vs:=[_,_]) (cs:=[_,_]) HF A4 K1 Y V rfl V rfl V) ?hk_11 (fun _ _ h=>h.elim) ?hl_11
    case' hk_11=>
     rintro _ _ ⟨U,rfl,rfl⟩;refine CA<|Yz 7 96 3601407 [15,4] [true,true] [(15,(_,_)),(4,(_,_))] V Y V rfl V rfl (Zu [_,_] Y cQ Y V (JC _ [7,18] _ _ _ _ AH AH))<|DA<|CA<|A1 10 V (Dk Y Y)<|A1 11 V (Cr Y Y)<|A1 16 V (Cr Y Y)<|Zz (l:=[19])<|C6 [true,true] [(15,(_,_)),(4,(_,_))] V rfl (Zu [_,_] Y cQ Y V (JC _ [17,19] _ _ _ _ AH AH)) ?hk_13 (fun _ _ h=>h.elim) ?hl_13
     case' hl_13=>
      exact Ar
    case' hl_11=>
     exact Ar
  case' hl_5=>
   refine C6 [true,true] [(15,(_,_)),(4,(_,_))] V rfl (Ah (vs:=[_,_]) (cs:=[_,_]) HF A4 K1 Y V rfl V rfl V) ?hk_16 (fun _ _ h=>h.elim) ?hl_16
   case' hk_16=>
    rintro _ _ ⟨W,rfl,rfl⟩;refine CA<|Yz 6 0 3601279 [15,4] [true,true] [(15,(_,_)),(4,(_,_))] V Y V rfl V rfl (Ah (vs:=[_,_]) (cs:=[_,_]) HF A4 K1 Y V rfl V rfl V)<|AE fun X=>CA<|Yz 7 96 3601407 [15,4] [true,true] [(15,(_,_)),(4,(_,_))] V Y V rfl V rfl (Zu [_,_] Y cQ Y V (JC _ [7,18] _ _ _ _ AH AH))<|DA<|CA<|A1 10 V (Dk Y Y)<|A1 11 V (Cr Y Y)<|A1 16 V (Cr Y Y)<|Zz (l:=[19])<|C6 [true,true] [(15,(_,_)),(4,(_,_))] V rfl (Zu [_,_] Y cQ Y V (JC _ [17,19] _ _ _ _ AH AH)) ?hk_19 (fun _ _ h=>h.elim) ?hl_19
    case' hl_19=>
     exact Ar
   case' hl_16=>
    exact Ar
  all_goals
   rintro _ _ ⟨rfl,rfl⟩;refine CA<|A1 22 rfl (Dk Y Y)<|A1 23 rfl (Cr Y Y)<|A1 24 rfl (Ap aE EV Y Y (by first|omega|(rw [K0,Db _ (by rw [Bc];omega)];omega)))<|Yw 25 67108863 rfl (Zs EV Y Y rfl (hc:=by exact Qg bs k (Yv (EO bs k) k) A0 (Xl bs k A0)) (hi:=by(rw [K0,Db _ (by rw [Bc];omega)];omega)))<|DA<|Am<|Zn [2,4] ?_;refine A8<|Zx<|Zg<|Zm Y<|Ya (n:=1) Y Y<|AN Y<|HN (by exact ⟨k+1,V,by omega,V,V⟩)
 refine Az<|Zt<|Zt<|AU<|BT<|Zo Wh (A7 isAgg298 sizeOf298 Y (by(rw [K0,Db _ (by rw [Bc];omega)];omega)) (by exact JH _ _ (by rw [K0,Db _ (by rw [Bc];omega)]))) ?_;refine Xe (Ao sizeOf298 Y Y (by exact bD _) Wu (by exact pJ _) (by rw [K0,Db _ (by rw [Bc];omega)]) (by(rw [K0,Db _ (by rw [Bc];omega)];omega)) (by exact Aw _)) ?_;refine A6<|AC<|Df rfl results243 Y Wh (Ai isAgg298 sizeOf298 (by(rw [K0,Db _ (by rw [Bc];omega)];omega)) (JH _ _ (by rw [K0,Db _ (by rw [Bc];omega)]))) (by
  have e:k=64:=by omega
  exact ⟨by rw [e,Xo _ (Bc _ _)];rfl,rfl⟩)
def v8c(v:V8):As:=#[CP v.a,CP v.b,CP v.c,CP v.d,CP v.e,CP v.f,CP v.g,CP v.h]
theorem mr(v:V8):v8c v=(v.list.map CP).toArray:=rfl
theorem p5(k:Nat)(h:k<64):(Dj.map CP).toArray[k*1]?=some (CP (Dj.getD k 0)):=by rw [MA];exact RZ CP Dj k 0 (by rw [ZB];exact h)
def Vv(x y:V8)(i:Nat):List UInt32:=(tJ x y).list.take i++x.list.drop i
theorem NP(x y:V8)(i:Nat)(h:i<=8):(Vv x y i).length=8:=by
 have:(tJ x y).list.length=8:=rfl;have h2:x.list.length=8:=rfl
 simp [Vv,this,h2];omega
theorem lU(x y:V8)(i:Nat)(h:i<8):((Vv x y i).map CP).toArray[i]?=some (CP (x.list.getD i 0)):=by
 have:i=0\/i=1\/i=2\/i=3\/i=4\/i=5\/i=6\/i=7:=by omega
 rcases this with rfl|rfl|rfl|rfl|rfl|rfl|rfl|rfl<;>rfl
theorem nC(y:V8)(i:Nat)(h:i<8):(v8c y)[i]?=some (CP (y.list.getD i 0)):=by
 have:i=0\/i=1\/i=2\/i=3\/i=4\/i=5\/i=6\/i=7:=by omega
 rcases this with rfl|rfl|rfl|rfl|rfl|rfl|rfl|rfl<;>rfl
theorem lT(x y:V8)(i:Nat)(h:i<8):((Vv x y i).map CP).toArray.setIfInBounds i (.int .u32 ((x.list.getD i 0+y.list.getD i 0).toNat:Int))=((Vv x y (i+1)).map CP).toArray:=by
 have:i=0\/i=1\/i=2\/i=3\/i=4\/i=5\/i=6\/i=7:=by omega
 rcases this with rfl|rfl|rfl|rfl|rfl|rfl|rfl|rfl<;>rfl
theorem bI(x:V8)(k:Nat)(m:List UInt32)(v:V8)(hx:x=Cu m v k):
 ((#[CP x.a,CP x.a,CP x.b,CP x.c,CP x.d,CP x.e,CP x.f,CP x.g]:As).setIfInBounds 0 (.int .u32 ((Gw.Ch x (Dj.getD k 0) (m.getD k 0)+nR x).toNat:Int))).setIfInBounds 4 (.int .u32 ((x.d+Gw.Ch x (Dj.getD k 0) (m.getD k 0)).toNat:Int))=v8c (Cu m v (k+1)):=by
 subst hx;rfl
theorem jc(bs:List UInt8):(E9 bs).length=64:=Bc bs 64
theorem o6(g:List UInt32)(h:g.length=64):((g.map CP).toArray).size=64:=by rw [K0,C2,h]
theorem o7(g:List UInt32)(h:g.length=64):FE (F6 []).toArray 0 ((g.map CP).toArray).toList=(g.map CP).toArray:=
 Ym (F6 []).toArray (g.map CP) (by rw [C2,h];rfl)
theorem uB:0+64<=((F6 []).toArray).size:=by rw [K0,Db _ (CD _)];exact B4 _
theorem gM(v:V8):∀x∈(v8c v).toList,x.oneCell'=true:=by
 intro x hx;rw [mr]at hx;simp only [HX]at hx;obtain ⟨y,_,rfl⟩:=hx;rfl
theorem nD(l:List UInt32):∀x∈(l.map CP).toArray.toList,x.oneCell'=true:=by
 intro x hx;simp only [HX]at hx;obtain ⟨y,_,rfl⟩:=hx;rfl
theorem tF(I g o cap:Nat)(c:As)(T:An)(z:Nat×Nat)(bs:List UInt8)(hb:bs.length=64)(hc:M7 c o bs)(J U:An)(X:Nat×Nat)(v:V8):
 CJ prog 200 #[I5 I,.slice (some ⟨g,o,none⟩) 64 cap] [[(I,.cells (v8c v) J (0,0))],[(g,.cells c T z)],[(1,.cells (Dj.map CP).toArray U X)]]
  (fun r H'=>r= .tuple #[]/\H'=[[(I,.cells (v8c (M5 v bs)) J (0,0))],[(g,.cells c T z)],[(1,.cells (Dj.map CP).toArray U X)]]):=by
 refine Jy func200 V ntmps200 V ?_;intro u R;obtain ⟨y,E⟩:∃y,y=E9 bs:=⟨_,rfl⟩;have W:y.length=64:=by rw [E];exact jc bs
 have G:=bQ g o cap c T z bs hb hc;rw [<-E]at G;have K:M5 v bs=tJ v (Cu y v 64):=by rw [E];rfl
 clear E;rw [K];refine Zb [0,1] ?_;refine B7 Y<|Xr [_] Y call243 Y V (G) ?_;refine Ze (Ff zeroValue298 (cs:=(F6 []).toArray) AG)<|AE fun bw=>Xe (Ao sizeOf298 Y Y (by exact nD _) Wu (by exact o7 y W) (by exact o6 y W) (by exact uB) (by exact Aw _)) ?_;refine A6<|B7 Y<|Zp Y V<|Zo Wh (A7 (cs:=v8c v) isAgg267 sizeOf267 Y Wn B5) ?_;refine Ze (Al zeroValue267 #[_,_,_,_,_,_,_,_])<|AE fun Z=>Xe (Ao sizeOf267 Y Y (by exact gM v) Wu (by exact (rfl:_=v8c (Cu y v 0))) DO Wn (by exact Aw _)) ?_;refine A6<|Zq<|A2<|Zo Wh (A7 (cs:=(Dj.map CP).toArray) isAgg298 sizeOf298 Y (by exact B4 _) (by exact JH _ _ V)) ?_;refine Zm Y<|A6<|AQ<|Zb [19,0,4,5,18] ?_;refine Av (e0:=[(19,_)]) (fun m e H=>∃k:Nat,m=64 -k/\(k<=64)/\e=[(19,I4 (k:Int))]/\H=[[(Z,.cells (v8c (Cu y v k)) 267 (0,0))]]) (by exact ⟨0,V,CD _,V,V⟩) Wp ?_;rintro _ _ _ ⟨k,rfl,hk,rfl,rfl⟩;obtain ⟨x,hx⟩:∃x,x=Cu y v k:=⟨_,rfl⟩;rw [<-hx];refine A2<|Zv (Ak (n:=64) Y Y)<|A6<|Zq<|Ad Y (fun M=>?_) (fun M=>?_);·
  refine B3<|Zq<|AQ<|B7 Y<|Zv (Qw aE Gk EV Y Y A0 (by exact p5 k A0))<|Za Y<|CT Y<|Au (n:=6) (0::1::0::4::3::31::[]) 0 AG AG V<|A1 0 V (Ap (j:=0) Mz EV Y Y A0)<|B6 1 V Gk Y ?_;refine A1 2 V (Ap (j:=4) Mz EV Y Y A0)<|B6 3 V Gk Y ?_;refine A1 4 V (Aq Y)<|A1 5 V (Aq Y)<|Am<|Zx<|Zq<|Au (n:=24) (0::1::0::0::12::31::0::0::128::448::0::1024::0::4096::15360::32704::65535::0::262143::0::524288::1572864::4194303::8388607::[]) 24 AG AG V<|A1 0 V (Ap (j:=7) Mz EV Y Y A0)<|B6 1 V Gk Y ?_;refine A1 2 V (AA Y)<|A1 6 V (AA Y)<|A1 7 V (Ap (j:=5) Mz EV Y Y A0)<|B6 8 V Gk Y ?_;refine A1 9 V (GA Y Y)<|A1 10 V (AA Y)<|A1 11 V (Vg Y)<|A1 12 V (Ap (j:=6) Mz EV Y Y A0)<|B6 13 V Gk Y ?_;refine A1 14 V (GA Y Y)<|A1 15 V (Dk Y Y)<|A1 17 V (AA Y)<|A1 19 V (AA Y)<|A1 20 V (Ap aE EV Y Y A0)<|B6 21 V Gk Y (hv:=by exact RZ CP y k 0 A0) ?_;refine Yz 3 0 3866575 [21,13,8,1] [true,true,true,true] [(21,(_,_)),(13,(_,_)),(8,(_,_)),(1,(_,_))] V Y V rfl V rfl (Ah (vs:=[_,_,_]) (cs:=[_,_,_]) HF A4 K1 Y V rfl V rfl V)<|AE fun b3=>CA<|Yz 4 12 3866591 [21,13,8,1] [true,true,true,true] [(21,(_,_)),(13,(_,_)),(8,(_,_)),(1,(_,_))] V Y V rfl V rfl (Zu [_,_] Y cQ Y V (JC _ [6,11,25] _ _ _ _ AH AH))<|DA<|CA<|A1 5 V (Cr Y Y)<|A1 16 V (Cr Y Y)<|A1 18 V (Cr Y Y)<|A1 22 V (Cr Y Y)<|A1 23 V (Aq Y)<|Am<|Zn [0,4,5,8,10,18,19] ?_;refine Zx<|Zq<|Au (n:=20) (0::0::3::0::0::16::56::0::0::256::896::2040::0::4096::0::16384::61440::131064::262143::524287::[]) 6 AG AG V<|A1 0 V (AA Y)<|A1 3 V (AA Y)<|A1 4 V (Ap (j:=1) Mz EV Y Y A0)<|B6 5 V Gk Y ?_;refine A1 6 V (GA Y Y)<|A1 7 V (AA Y)<|A1 8 V (Ap (j:=2) Mz EV Y Y A0)<|B6 9 V Gk Y ?_;refine A1 10 V (GA Y Y)<|A1 11 V (Dk Y Y)<|A1 12 V (Ap (j:=1) Mz EV Y Y A0)<|B6 13 V Gk Y ?_;refine A1 14 V (Ap (j:=2) Mz EV Y Y A0)<|B6 15 V Gk Y ?_
  refine A1 16 V (GA Y Y)<|A1 17 V (Dk Y Y)<|Zz (l:=[1])<|C6 [true,true,true,true] [(15,(_,_)),(13,(_,_)),(9,(_,_)),(5,(_,_))] V rfl (Ah (vs:=[_,_,_]) (cs:=[_,_,_]) HF A4 K1 Y V rfl V rfl V) ?_ (fun _ _ h=>h.elim) Ar;rintro _ _ ⟨b4,rfl,rfl⟩;refine CA<|Yz 2 3 262143 [15,13,9,5] [true,true,true,true] [(15,(_,_)),(13,(_,_)),(9,(_,_)),(5,(_,_))] V Y V rfl V rfl (Zu [_,_] Y cQ Y V (JC _ [2,13,22] _ _ _ _ AH AH))<|DA<|CA<|A1 18 V (Cr Y Y)<|A1 19 V (Aq Y)<|Am<|Zn [0,4,5,10,11,18,19] ?_;refine Zx<|Zq<|Au (n:=3) (0::0::3::[]) 4 AG AG V<|A1 0 V (QI (l:=1) Mz EV Y Y A0)<|A1 1 V (Sz (h:=7) Mz EV Y Y A0)<|Yw 2 7 V (xg (cs:=[_,_,_,_,_,_,_]) (c':=#[_,_,_,_,_,_,_,_]) HO EV Y Y Wh Wu B5 B5 B5 (by exact B4 8) (Aw _) (by simp [Value.oneCell',CP]))<|DA<|Am<|Zx<|Zg<|Sk 2 V<|Zv (Cr Y Y)<|BN (Ap (j:=4) Mz EV Y Y A0)<|Zl Gk Y ?_;refine Zm Y<|Zv (Cr Y Y)<|BN (Ap (j:=0) Mz EV Y Y A0)<|Xe (Zs EV Y Y V) ?_;refine BN (Ap (j:=4) Mz EV Y Y A0)<|Xe (Zs EV Y Y V (hc:=by exact (bI x k y v hx))) ?_;refine Z0<|Zn [0,4,5,18,19] ?_;refine A8<|Zx<|GP Y Y Y<|HN (by exact ⟨k+1,V,by omega,V,V⟩)
 refine Az<|Zt<|Zt<|AU<|Zx<|B7 Y<|A6<|AQ ?_;have ek:k=64:=by omega
 subst ek;refine Zb [82,0,5] ?_;refine Av (e0:=[(82,_)]) (fun m e H=>∃i:Nat,m=8 -i/\(i<=8)/\e=[(82,I4 (i:Int))]/\H=[[(I,.cells ((Vv v x i).map CP).toArray J (0,0))]]) (by exact ⟨0,V,CD _,V,V⟩) Wp ?_;rintro _ _ _ ⟨i,rfl,hi,rfl,rfl⟩;refine A2<|Zv (Ak (n:=8) Y Y)<|A6<|Zq<|Ad Y (fun O=>?_) (fun O=>?_);·
  refine B3<|Zq<|AQ<|B7 Y<|AF Y<|Au (n:=12) (0::0::1::7::15::0::32::96::255::1::1023::2047::[]) 2048 AG AG rfl<|A1 0 rfl (AA Y)<|A1 1 rfl (AA Y)<|A1 2 rfl (EY Y rfl)<|A1 3 rfl (Ap Mz EV Y Y (by first|omega|(rw [K0,C2,NP _ _ _ A0];omega)))<|B6 4 rfl Gk Y (hv:=by exact lU _ _ i A0) ?_;refine A1 5 rfl (AA Y)<|A1 6 rfl (Ap Mz EV Y Y (by first|omega|(rw [K0,C2,NP _ _ _ A0];omega)))<|B6 7 rfl Gk Y (hv:=by exact nC _ i A0) ?_;refine A1 8 rfl (Cr Y Y)<|A1 9 rfl (EY Y rfl)<|A1 10 rfl (Ap Mz EV Y Y (by first|omega|(rw [K0,C2,NP _ _ _ A0];omega)))<|Yw 11 4095 rfl (Zs EV Y Y rfl (hc:=by exact lT _ _ i A0) (hi:=by(rw [K0,C2,NP _ _ _ A0];omega)))<|DA<|Am<|Zn [0,5,82] ?_;refine A8<|Zx<|GP Y Y Y<|HN (by exact ⟨i+1,V,by omega,V,V⟩)
 have ei:i=8:=by omega
 subst ei;rw [<-hx];refine Az<|Zt<|Zt<|AU<|Gn V results200 (by exact ⟨V,V⟩)
def Sw(N:Nat)(l:List UInt8):As:=(l.map u8v++List.replicate (N -l.length) (Value.int .u8 0)).toArray
theorem ow(N:Nat)(l:List UInt8)(x:UInt8)(k:Nat)(g:k=l.length)(h:l.length<N):(Sw N l).setIfInBounds k (.int .u8 (x.toNat:Int))=Sw N (l++[x]):=by
 subst g;unfold Sw;rw [lB];congr 1;rw [fk _ _ C4];simp only [C2,Tr,C7,GB,My];obtain ⟨n,hn⟩:∃n,N -l.length=n+1:=⟨N -1 -l.length,by omega⟩;rw [hn,show N -(l.length+(0+1))=n by omega];simp [List.replicate_succ,u8v]
theorem Vd(N:Nat)(l:List UInt8)(h:l.length<=N):(Sw N l).size=N:=by simp [Sw];omega
theorem kQ(N:Nat)(l:List UInt8)(h:l.length=N):(Sw N l).toList=l.map u8v:=by simp [Sw,h]
def RH(v:V8)(i k:Nat):List UInt8:=(v.list.take i).flatMap KW++(KW (v.list.getD i 0)).take k
theorem PI(v:V8)(i k:Nat)(hi:i<8)(g:k<=4):(RH v i k).length=4*i+k:=by
 have:i=0\/i=1\/i=2\/i=3\/i=4\/i=5\/i=6\/i=7:=by omega
 rcases this with rfl|rfl|rfl|rfl|rfl|rfl|rfl|rfl<;>simp [RH,V8.list,KW]<;>omega
theorem kU(v:V8)(i:Nat)(hi:i<8):RH v (i+1) 0=RH v i 4:=by
 have:i=0\/i=1\/i=2\/i=3\/i=4\/i=5\/i=6\/i=7:=by omega
 rcases this with rfl|rfl|rfl|rfl|rfl|rfl|rfl|rfl<;>rfl
theorem kT(v:V8)(i k:Nat)(g:k<4):RH v i (k+1)=RH v i k++[((v.list.getD i 0)>>>UInt32.ofNat (24 -8*k)).toUInt8]:=by
 have:k=0\/k=1\/k=2\/k=3:=by omega
 unfold RH;generalize v.list.getD i 0=x;rcases this with rfl|rfl|rfl|rfl
 · simp [KW]
 · simp [KW]
 · simp [KW]
 · have e:x>>>UInt32.ofNat (24 -8*3)=x:=by
    apply UInt32.toNat_inj.1;simp [UInt32.toNat_shiftRight]
   rw [e];simp [KW]
theorem iJ(v:V8):RH v 8 0=pK v:=rfl
theorem nA(y:V8)(i:Nat)(h:i<8):(v8c y)[i*1]?=some (CP (y.list.getD i 0)):=by rw [MA];exact nC y i h
theorem aS(v:V8):BB prog 201 #[.agg (v8c v)] [] (.string (str (pK v))):=by
 refine Se func201 ntmps201 [0] ?_;intro u R;refine A2<|Ze (J2 Y (cs:=(v8c v)) AG)<|AE fun I=>AF Y<|A2<|Ze (Ff zeroValue301 (cs:=(Sw 32 [])) AG)<|AE fun z=>A6<|Zq<|A2<|Zo Wh (A7 (cs:=v8c v) isAgg267 sizeOf267 Y (by exact B4 _) (by exact JH _ _ V))<|Zm Y<|A6<|AQ<|Zb [8,3,7] ?_;refine Av (e0:=[(8,_)]) (fun m e H=>∃i:Nat,m=8 -i/\(i<=8)/\e=[(8,I4 (i:Int))]/\H=[[(z,.cells (Sw 32 (RH v i 0)) 301 (0,0))]]) (by exact ⟨0,V,CD _,V,V⟩) Wp ?_;rintro _ _ _ ⟨i,rfl,hi,rfl,rfl⟩;refine A2<|Zv (Ak (n:=8) Y Y)<|A6<|Zq<|Ad Y (fun g=>?_) (fun g=>?_);·
  refine B3<|Zq<|AQ<|B7 Y<|Zv (Qw Mz Gk EV Y Y A0 (by exact nA v i A0))<|Za Y<|AF Y<|B7 Y<|A6<|AQ<|Zb [12,3,4,5,7,8] ?_;refine Av (e0:=[(12,_)]) (fun m e H=>∃k:Nat,m=4 -k/\(k<=4)/\e=[(12,I4 (k:Int))]/\H=[[(z,.cells (Sw 32 (RH v i k)) 301 (0,0))]]) (by exact ⟨0,V,CD _,V,V⟩) Wp ?_;rintro _ _ _ ⟨k,rfl,J,rfl,rfl⟩;refine A2<|Zv (Ak (n:=4) Y Y)<|A6<|Zq<|Ad Y (fun y=>?_) (fun y=>?_);·
   refine B3<|Zq<|AQ<|B7 Y<|AF Y<|Zg<|Zm Y<|BN (Dl (m:=4) Y Y A0)<|Zm Y<|Ya Y Y<|Sk 2 V ?_;refine BN (Dl (m:=8) Y Y A0)<|Yb (m:=24) Y Y ?_;refine BN (G8 Y Y A0)<|Zv (H7 PB IF Y)<|BN (Ap underlying301 KB Y Y (by first|omega|(rw [Vd _ _ (by rw [PI _ _ _ A0 A0];omega)];omega)))<|Xe (Zs KB Y Y rfl (hc:=by exact (ow 32 (RH v i k) _ _ (by rw [PI _ _ _ A0 A0]) (by rw [PI _ _ _ A0 A0];omega)).trans (congrArg (Sw 32) (kT v i k A0).symm)) (hi:=by(rw [Vd _ _ (by rw [PI _ _ _ A0 A0];omega)];omega)))<|Z0<|Zn [3,4,5,7,8,12] ?_;refine A8<|Zx<|GP Y Y Y<|HN (by exact ⟨k+1,V,by omega,V,V⟩)
  have G:k=4:=by omega
  subst G;refine Az<|Zt<|Zt<|AU<|A8<|Zx<|GP Y Y Y<|DH (e:=[(8,_)]) (h:=by exact ⟨i+1,rfl,by omega,rfl,by rw [kU v i A0]⟩)
 have E:i=8:=by omega
 subst E;refine Az<|Zt<|Zt<|AU<|BT<|Zv (Fv underlying301 KB Y)<|Zo Wh (Dm GC IF HM Y (by exact ⟨(by rw [kQ 32 (RH v 8 0) (by rw [iJ];rfl)];exact Hx (by rw [RR,C2,iJ];exact B4 32)),rfl⟩))<|AM Y<|AO rfl results201 Y fY
def Qa(g j:Nat):A3:= .slice (some ⟨g,64*j,none⟩) 64 64
theorem sI(g k M:Nat)(h:k<M):Value.slice (some ⟨g,0+64*k*1,none⟩) (64*k+min 64 (64*M -64*k) -64*k) (64*k+min 64 (64*M -64*k) -64*k)=Qa g k:=by
 have m:64*k+min 64 (64*M -64*k) -64*k=64:=by omega
 have h2:0+64*k*1=64*k:=by omega
 rw [m,h2];rfl
theorem YH(M k:Nat)(h:k<M):List.range M=List.range k++k::(List.range' (k+1) (M -k -1)):=by
 rw [lj,lj,<-jj];rw [show M -k -1+1=M -k by omega];have:=List.range'_append_1 (s:=0) (m:=k) (n:=M -k)
 rw [show 0+k=k by omega,show k+(M -k)=M by omega]at this;exact this.symm
theorem fK(g cap M:Nat)(bs I:Nat)(X:64*M<=cap)(hc:cap<=maxLen):
 U9 prog 242 #[I5 bs,I5 I] [[(bs,.cells #[I6 g (64*M) cap] 105 (0,0))],[(I,.cells #[I4 64] 3 (0,0))]] (fun j=>#[Qa g j]) (List.range M):=by
 have U:=mL;intro l J hy s z;refine Se func242 ntmps242 [0,1,2] ?_;intro u R;refine A2<|AF Y<|AQ<|Zb [4,0,1,2] ?_;refine Av (e0:=[(4,_)]) (fun m e H=>∃(k:Nat) (s:List AR),m=M -k/\(k<=M/\J (List.range k) s)/\e=[(4,I4 ((64*k:Nat):Int))]/\H=[s]) (by exact ⟨0,s,V,⟨CD _,z⟩,V,V⟩) Wp ?_;rintro _ _ _ ⟨k,s,rfl,⟨Z,z⟩,rfl,rfl⟩;refine C0 Y<|Zl eA Y ?_;refine Zv (AJ GC Y)<|Zv (Ak Y Y)<|A6<|Ad Y (fun G=>?_) (fun G=>?_);·
  refine B3<|Zq<|AQ<|Zq<|Au (n:=7) (0::0::0::6::14::31::63::[]) 0 AG AG V<|B6 0 V A5 Y ?_;refine B6 1 V eA Y ?_;refine A1 2 V (AA Y)<|A1 3 V (Bv GC KB Y Y A0)<|A1 4 V (AJ GC Y)<|A1 5 V (L8 Y Y)<|A1 6 V (Aq Y)<|Am<|Zx<|Zq ?_;have y:=hy (List.range k) k _ s (YH M k A0) z
  rw [<-gA]at y;rw [show(fun j=>#[Qa g j]) k=#[Qa g k] from rfl,<-sI g k M A0]at y;refine Zg<|Zm Y<|Zl eA Y ?_;refine Sk 3 V<|Ya Y Y<|Sk 2 V<|Ya Y Y ?_
  (refine BN (Sy GC KB Y Y Y Y ?_ ?_) ?_;(focus ((simp only [Nat.min_def];split<;>omega)));(focus (omega)))
  refine Ze (OZ (vs:=[_]) Y Y (y) Wp) ?_;rintro _ _ ⟨_,⟨W,rfl,rfl,E⟩,rfl⟩;refine Zv (CR Y)<|Z0<|Zn [0,1,2,4,30] ?_;refine Zx<|Af Y (fun K=>by cases K)<|fun K=>AB<|A8<|Zx<|Zg<|Zm Y<|Zl A5 Y ?_;refine Yi Y Y<|AN Y<|HN (by exact ⟨k+1,W,V,⟨by omega,E⟩,V,V⟩)
 have O:k=M:=by omega
 subst O;refine Az<|Zt<|Zt<|AU<|Gn V results242 (by exact ⟨s,V,z⟩)
theorem fJ(p:C1)(n cap:Nat):CJ prog 199 #[.slice p n cap,I4 64] [] (fun r H'=>∃bs m,r= .func (.func 242) #[] #[I5 bs,I5 m]/\H'=[[(bs,.cells #[.slice p n cap] 105 (0,0))],[(m,.cells #[I4 64] 3 (0,0))]]):=by
 refine Se func199 ntmps199 [0,1] ?_;intro u R;refine A2<|Ze (Bx #[_])<|AE fun y=>Ze (Bx #[_])<|AE fun z=>CT Y<|A2<|Zl A5 Y<|Zv (Ak (n:=1) Y Y)<|A6<|Ad Y (fun g=>?_) (fun g=>?_);·
  exact absurd g AH
 refine AB<|BT<|Zv (CV (vs:=[]) (us:=[_,_]) Y Y)<|AM Y<|AO V results199 Y (by exact ⟨y,z,V,V⟩)
theorem N7:∀(n:Nat) (h:V8) (b:List UInt8),Ga (n+1) h b=M5 (Ga n h b) ((b.drop (64*n)).take 64)
 |0,h,b=>by simp [Ga]
 |n+1,h,b=>by
  rw [Ga,N7 n,Ga,eh];rw [show 64+64*n=64*(n+1) by omega]
def O8(l:List UInt8)(k:Nat):List UInt8:=l++[128]++List.replicate k 0
theorem IP(l:List UInt8)(k:Nat):(O8 l k).length=l.length+1+k:=by simp [O8];omega
theorem VZ(l:List UInt8)(k:Nat):(O8 l k).map u8v++[.int .u8 0]=(O8 l (k+1)).map u8v:=by
 unfold O8;rw [List.replicate_succ'];simp [u8v]
def Sv(l:List UInt8)(j:Nat):List UInt8:=O8 l (JU l.length)++(RI l.length).take j
theorem Va(l:List UInt8):Sv l 0=O8 l (JU l.length):=by simp [Sv]
theorem QH(l:List UInt8):Sv l 8=Ed l:=by
 have:(RI l.length).take 8=RI l.length:=Hx (by simp [RI]);simp [Sv,O8,Ed,this]
theorem qP(n j:Nat)(h:j<8):(RI n).take (j+1)=(RI n).take j++[UInt8.ofNat (8*n/2^(8*(7 -j)))]:=by
 rw [l4 (by simp [RI];omega)];simp [RI]
theorem Vb(l:List UInt8)(j q:Nat)(h:q+j=7):(Sv l j).map u8v++[.int .u8 ((UInt8.ofNat (8*l.length/2^(8*q))).toNat:Int)]=(Sv l (j+1)).map u8v:=by
 unfold Sv;rw [qP _ _ A0,show 7 -j=q by omega];simp [u8v]
theorem PH(l:List UInt8)(j:Nat)(h:j<=8):(Sv l j).length=l.length+1+JU l.length+j:=by
 have:(RI l.length).length=8:=by simp [RI]
 simp [Sv,IP,this];omega
theorem iR(m:Nat):IntKind.u8.wrap (m:Int)=((UInt8.ofNat m).toNat:Int):=by
 rw [IntKind.wrap_u8',UInt8.toNat_ofNat'];omega
theorem gF(n k:Nat)(g:k<=JU n)(h:(n+1+k)%64≠56):k<JU n:=by
 have:=gD n;rcases FA k (JU n)with h1|h1
 · exact h1
 · have:k=JU n:=by omega
   subst this;contradiction
theorem gG(n k:Nat)(g:k<=JU n)(h:(n+1+k)%64=56):k=JU n:=by
 unfold JU at g⊢;omega
theorem jr{M x:Nat}{pre g:List Nat}(h:List.range M=pre++x::g):x=pre.length/\x<M:=by
 have m:(List.range M)[pre.length]?=some x:=by rw [h];simp
 have y:pre.length<M:=by
  have:=(D3.1 m).1;simpa using this
 rw [eN y]at m;have:=SD m
 omega
theorem R7{cur:As}{p:List UInt8}(h:cur.toList.take (p.map u8v).length=p.map u8v)(k:Nat)(m:64*k+64<=p.length):M7 cur (64*k) ((p.drop (64*k)).take 64):=by
 unfold M7;have g:((p.drop (64*k)).take 64).length=64:=by simp;omega
 rw [g,List.map_take,List.map_drop,<-h];rw [kc,Wc];congr 1;simp;omega
theorem gu(l:List UInt8)(M:Nat)(h:(Ed l).length=64*M):sha l=pK (Ga M h0 (Ed l)):=by
 unfold sha;rw [h,Nat.mul_div_cancel_left _ A0]
theorem nL(s:ByteArray)(hs:s.size<=140737488355000)(Tg:An)(zg:Nat×Nat):
 BB prog 168 #[.string s] [[(1,.cells (Dj.map CP).toArray Tg zg)]] (.string (str (sha s.data.toList))):=by
 have l8:=mL;obtain ⟨l,K⟩:∃l,l=s.data.toList:=⟨_,rfl⟩;have hn:l.length=s.size:=by rw [K];rfl
 have hz:JU s.size<64:=by unfold JU;omega
 refine GM func168 V ntmps168 V ?_;intro u R;refine Zb [0] ?_;refine A2<|AF Y<|A2<|Zv (BK (vs:=[(0,_),(1,_),(2,_),(3,_),(4,_),(5,_),(6,_),(7,_)]) (cs:=#[_,_,_,_,_,_,_,_]) Y (DN zeroValue267 Mz EV V))<|Ze (Al zeroValue267 #[_,_,_,_,_,_,_,_])<|AE fun bh=>Xe (Ao sizeOf267 Y Y (gM h0) Wu (by exact (rfl:_=v8c (Ga 0 h0 (Ed l)))) DO Wn (by exact Aw _))<|A6<|B7 Y<|Ze (uE HM GC IF Y A0) ?_;rintro _ _ ⟨sa,O,rfl⟩;obtain ⟨ga,ca,rfl⟩:=O.form;refine Ze (Ah (vs:=[_]) (cs:=[_]) GC KB Pr Y V rfl V rfl V)<|AE fun b3=>Ze (EX (by_:=1) (news:=[_]) GC (V:Tryz.prog.info? 5=some Tryz.t5) V rfl V rfl Y O Y Wo Wh B5 V HH AH (by(simp only [C2,<-K,hn];omega)) (by(simp only [C2,<-K,hn];omega))) ?_;rintro _ _ ⟨sb,U,rfl⟩;obtain ⟨gb,cb,rfl⟩:=U.form;refine CT Y<|AQ ?_;have cO:Row 5 (.slice gb (List.map u8v s.data.toList++[Value.int IntKind.u8 128]).length cb) ((O8 l 0).map u8v) sb:=by
  have e:(O8 l 0).map u8v=List.map u8v s.data.toList++[Value.int IntKind.u8 128]:=by rw [<-K];simp [O8,u8v]
  rw [e];exact U
 refine Zb [4,0,3] ?_;refine Av (e0:=[(4,_)]) (fun m e H=>∃(k:Nat) (v:A3) (G:List AR),m=JU s.size -k/\(k<=JU s.size/\Row 5 v ((O8 l k).map u8v) G)/\e=[(4,v)]/\H=[G]) (by exact ⟨0,_,_,V,⟨CD _,cO⟩,V,V⟩) Wp ?_;rintro _ _ _ ⟨k,v,G,rfl,⟨hk,y⟩,rfl,rfl⟩;obtain ⟨gv,cv,rfl⟩:=y.form;refine C0 Y<|Zv (AJ GC Y)<|BN (Gm (n:=64) Y Y A0)<|Zv (Cb (n:=56) Y Y)<|A6<|Ad Y (fun E=>?_) (fun E=>?_);·
  rw [C2,IP,hn]at E;have ax:=gF _ _ hk E
  refine B3<|AQ<|Zg<|Zm Y<|Ze (Ah (vs:=[_]) (cs:=[_]) GC KB Pr Y V rfl V rfl V)<|AE fun b5=>Ze (EX (by_:=1) (news:=[_]) GC (V:Tryz.prog.info? 5=some Tryz.t5) V rfl V rfl Y y Y Wo Wh B5 V HH AH (by(simp only [C2,IP,hn];omega)) (by(simp only [C2,IP,hn];omega))) ?_;rintro _ _ ⟨sc,W,rfl⟩;obtain ⟨gc,cc,rfl⟩:=W.form;refine AN Y<|A8<|DH (e:=[(4,_)]) (h:=by exact ⟨k+1,_,_,rfl,⟨ax,by rw [<-VZ];exact W⟩,rfl,rfl⟩)
 rw [C2,IP,hn]at E;have ek:=gG _ _ hk A0
 subst ek;refine Az<|Zt<|Zt<|AU<|Zx<|Zq<|A2<|AF Y<|AQ<|Zb [4,5,0,3] ?_;refine Av (e0:=[(4,_),(5,_)]) (fun m e H=>∃(j:Nat) (i:Int) (v:A3) (G:List AR),m=8 -j/\(j<=8/\i=7 -(j:Int)/\Row 5 v ((Sv l j).map u8v) G)/\e=[(4,v),(5,I4 i)]/\H=[G]) (by exact ⟨0,_,_,_,rfl,⟨CD _,rfl,by rw [Va,hn];exact y⟩,rfl,rfl⟩) Wp ?_;rintro _ _ _ ⟨j,i,v,G,rfl,⟨hj,hi,y⟩,rfl,rfl⟩;obtain ⟨gv,cv,rfl⟩:=y.form;refine C0 Y<|Zv (Fa Y Y)<|A6<|Ad Y (fun J=>?_) (fun J=>?_);·
  obtain ⟨q,rfl⟩:=Int.eq_ofNat_of_zero_le J;refine B3<|Zq<|AQ<|Zg<|Sk 2 rfl<|Zv (Da HM Y)<|BN (Dl (m:=8) Y Y A0)<|Zm Y<|BN (Dl (m:=8) Y Y A0)<|BN (QJ Y Y (by first|decide|(simp [IntKind.bits];done)|(simp [IntKind.bits];omega)))<|KH (FB Ge IF Y (iR _)) rfl rfl<|Ze (Ah (vs:=[_]) (cs:=[_]) GC KB Pr Y rfl rfl rfl rfl rfl)<|AE fun b7=>Ze (EX (by_:=1) (news:=[_]) GC (V:Tryz.prog.info? 5=some Tryz.t5) V rfl V rfl Y y Y Wo Wh B5 V HH AH (by(simp only [C2,PH l j hj,hn];omega)) (by(simp only [C2,PH l j hj,hn];omega))) ?_;rintro _ _ ⟨sd,X,rfl⟩;obtain ⟨gd,cd,rfl⟩:=X.form;refine AN Y<|Zn [0,3,4,5] ?_;refine A8<|Zx<|Zg<|Zm Y<|BN (GI Y Y (IntWalk.i64_in _ A0))<|AN Y<|DH (e:=[(4,_),(5,_)]) (h:=by exact ⟨j+1,_,_,_,rfl,⟨by omega,by omega,by rw [<-Vb l j q A0,hn];exact X⟩,rfl,rfl⟩)
 have ej:j=8:=by omega
 subst ej;refine Az<|Zt<|Zt<|AU<|Zx<|Zq<|Zq ?_;rw [QH]at y;obtain ⟨M,hM⟩:∃M,(Ed l).length=64*M:=⟨(Ed l).length/64,by have:=Su l;omega⟩;have cu:=O7 l
 rw [hn]at cu;rw [QH];obtain ⟨g,cap,cur,z,hv,rfl,bf,af,kv,d9,kz⟩:=y.some (by rw [C2];omega);simp only [Value.slice.injEq]at hv;obtain ⟨rfl,_,rfl⟩:=hv;rw [C2]at bf;rw [C2,hM];refine Zg<|Zm Y<|Zc [_,_] Y call199 Y V (fJ _ _ _) ?_;rintro _ _ ⟨_,⟨bs,bn,rfl,rfl⟩,rfl⟩;refine A6<|AQ<|Zb [3,34] ?_;refine RF (H0:=_) (R:=_) (I:=(fun pre H=>H=[[(bh,.cells (v8c (Ga pre.length h0 (Ed l))) 267 (0,0))],[(g,.cells cur 5 z)],[(1,.cells (Dj.map CP).toArray Tg zg)]])) (asg:=fun x=>[(6,Qa g x),(35,Qa g x)]) V Y call242 (fK g cv M bs bn A0 af) Y V Wp (V) ?ha_6 ?hbd_6 ?hk_6
 case ha_6=>
  intro _ x _ _;refine Zg<|Za Y<|Z0 ?_;exact q8
 case hbd_6=>
  intro l pre x gy u H1 R1 gq hI;subst hI;obtain ⟨gm,l9⟩:=jr gq;subst gm;refine AQ<|Zg<|Zm Y<|Zc [_,_] Y call200 Y rfl (tF _ _ _ _ _ _ _ _ (by rw [CI,D4];omega) (R7 d9 _ A0) _ _ _ _) ?_;rintro _ _ ⟨_,⟨rfl,rfl⟩,rfl⟩;refine Z0<|A8<|Mh rfl (by rw [C7,HI,N7])
 intro D1 H2 Z;subst Z;refine Zn [3] ?_;refine A8<|BT<|Zo Wh (A7 (cs:=v8c (Ga M h0 (Ed l))) isAgg267 sizeOf267 Y Wn (by rw [ft];exact JH _ _ rfl))<|Xr [_] Y call201 Y rfl (aS _)<|AM Y<|LA rfl (YA results168 Y) Wo (by exact ⟨by rw [<-K,gu l M hM],rfl⟩)
end Go.Proofs.YtljkoipiekbijaaGreatDoor
