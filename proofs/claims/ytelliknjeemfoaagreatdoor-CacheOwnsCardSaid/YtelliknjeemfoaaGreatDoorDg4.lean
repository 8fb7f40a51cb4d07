/- Contracts: bits.RotateLeft32 at the counts of the program, digest.mixed, digest.schedule. -/
import Derived.Test.YtelliknjeemfoaaGreatDoorA1
import Derived.Test.YtelliknjeemfoaaGreatDoorSha
import Derived.Test.YtelliknjeemfoaaGreatDoorEx30
set_option linter.unusedVariables false
set_option linter.unusedSimpArgs false
namespace Go.Proofs.YtelliknjeemfoaaGreatDoor
open Go.Proofs.Tryz
open Go Go.RowKit Gw
set_option maxRecDepth 100000
attribute [local irreducible] Gw.At Gw.Nx Gw.Ops
theorem kG(x:UInt32)(n m:Nat)(h0:0<n)(g:n<32)(B:n+m=32):(x<<<UInt32.ofNat m)|||(x>>>UInt32.ofNat n)=qE x (UInt32.ofNat n):=by
 unfold qE;have:(32:UInt32) -UInt32.ofNat n=UInt32.ofNat m:=by
  apply UInt32.toNat_inj.1;rw [UInt32.toNat_sub,nF,nF];simp only [UInt32.reduceToNat];omega
 rw [this]
theorem wZ(n m:Nat)(h0:0<n)(B:n<32)(G:n+m=32):bits .and .u64 (IntKind.u64.wrap (-(n:Int))) 31=(m:Int):=by
 have h:IntKind.u64.wrap (-(n:Int))=((18446744073709551616 -n:Nat):Int):=by rw [IntKind.wrap_u64];omega
 have g:(31:Int)=((31:Nat):Int):=rfl;rw [h,g,u64_and_nat _ _ A0 A0,nat_mask5];omega
theorem kF(x:UInt32)(n:Nat)(h0:0<n)(g:n<32):Az prog 321 #[.int .u32 x.toNat,I0 (-(n:Int))] [] (.int .u32 (qE x (UInt32.ofNat n)).toNat):=by
 refine KS func321 V ntmps321 V ?_;intro u R;obtain ⟨m,B⟩:∃m,n+m=32:=⟨32 -n,by omega⟩;refine Zb [0,1] ?_;refine A3<|AH Y<|AN Y<|KY (Eu D3 ZS Y V) V rfl<|KY (rO Y Y (wZ n m h0 g B)) V rfl<|AH Y<|AN Y<|Zm Y<|Ba (MQ Y Y A0)<|Zm Y<|Zm Y<|Ba (UJ (m:=32) Y Y A0 A0)<|Ba (MO Y Y A0)<|Zv (OZ Y Y)<|B1 Y<|Zn [4] ?_;refine Zx<|AJ<|AX V results321 Y (by
  have e:32 -m=n:=by omega
  exact ⟨by rw [e,kG x n m h0 g B],rfl⟩)
theorem sK(x:UInt32)(l:List UInt32)(n:UInt32):X9 x (l++[n])=X9 x l^^^qE x n:=by simp [X9]
def rn(n:Nat):A2:=I0 (n:Int)
theorem jg{α β:Type}(f:α->β)(l:List α)(k:Nat)(d:α)(h:k<l.length):(l.take (k+1)).map f=(l.take k).map f++[f (l.getD k d)]:=by
 rw [p6 h,CN];simp [Q2,BE h]
theorem XM{α:Type}(f:α->A2)(l:List α)(k:Nat)(d:α)(h:k<l.length):(l.map f).toArray[k]?=some (f (l.getD k d)):=by
 simp [BE h,Q2]
theorem IM(x:UInt32)(l:List Nat)(g cap:Nat)(T:AK)(z:Nat×Nat)(I:∀n∈l,0<n/\n<32)(hn:l.length<=100):
 Az prog 307 #[.int .u32 x.toNat,I2 g l.length cap] [[(g,.cells (l.map rn).toArray T z)]] (.int .u32 (X9 x (l.map UInt32.ofNat)).toNat):=by
 refine Se func307 ntmps307 [0,1] ?_;intro u R;refine A3<|AH Y<|A3<|AH Y<|B7 Y<|Zv (AR DS Y)<|Zm Y<|A5<|AP<|Zb [5,10,0,8,9] ?_;refine Ay (e0:=[(5,_),(10,_)]) (fun m e H=>∃k:Nat,m=l.length -k/\(k<=l.length)/\e=[(5,.int .u32 ((X9 x ((l.take k).map UInt32.ofNat)).toNat:Int)),(10,I0 (k:Int))]/\H=[]) (by exact ⟨0,V,C7 _,V,V⟩) Wp ?_;rintro _ _ _ ⟨k,rfl,J,rfl,rfl⟩;refine A3<|Zv (Ar Y Y)<|A5<|Zq<|Ap Y (fun G=>?_) (fun G=>?_);·
  refine B4<|Zq<|AP<|A3<|Ba (Bd DS A6 Y Y A0)<|Zl AE Y (hv:=by exact XM rn l k 0 A0)<|B1 Y<|Zx ?_;have B:=I (l.getD k 0) (by rw [Q2,BE A0];exact rB _)
  refine Zg<|Zm Y<|Zm Y<|Zm Y<|KY (iZ (c:=-(l.getD k 0:Int)) Y (by rw [Int.zero_sub];exact IntWalk.i64_in _ A0)) rfl rfl<|Xr [_,_] Y call321 Y rfl (kF _ _ B.1 B.2)<|Zv (Gj Y Y)<|B1 Y<|A9<|Zx<|E6 Y Y Y<|DM (e:=[(5,_),(10,_)]) (h:=by exact ⟨k+1,rfl,by omega,by rw [jg _ _ _ 0 A0,sK],rfl⟩)
 refine BB<|Zt<|Zt<|AV<|Zx<|AN Y<|Ax Y<|AX V results307 Y (by
  have e:k=l.length:=by omega
  exact ⟨by rw [e,HI],rfl⟩)
def En(l:List UInt32):List A2:=l.map Cq++List.replicate (64 -l.length) (.int .u32 0)
theorem D7(l:List UInt32)(h:l.length<=64):(En l).length=64:=by simp [En];omega
theorem bK(l:List UInt32)(i:Nat)(h:i<l.length):(En l).toArray[i]?=some (Cq (l.getD i 0)):=by
 simp [En,pt,h,Q2]
theorem bI(l:List UInt32)(x:UInt32)(h:l.length<64):(En l).toArray.setIfInBounds l.length (Cq x)=(En (l++[x])).toArray:=by
 rw [pA];congr 1;unfold En;rw [nB _ _ B6];simp only [Bm,W1,C2,EV,Mp];obtain ⟨n,hn⟩:∃n,64 -l.length=n+1:=⟨63 -l.length,by omega⟩;rw [hn,show 64 -(l.length+(0+1))=n by omega];simp [List.replicate_succ]
theorem QF(b:List UInt8)(k:Nat)(x:UInt32)(h:k<64)(hx:GI b (k+1)=GI b k++[x]):(En (GI b k)).toArray.setIfInBounds k (.int .u32 (x.toNat:Int))=(En (GI b (k+1))).toArray:=by
 have:=bI (GI b k) x (by rw [Co];exact h);rw [Co]at this;rw [hx];exact this
theorem bJ(l:List UInt32):∀v∈(En l).toArray.toList,v.oneCell'=true:=by
 intro v hv;simp only [En,CI,CM,List.mem_replicate]at hv;rcases hv with⟨x,_,rfl⟩|⟨_,rfl⟩<;>rfl
theorem Xo(l:List UInt32)(h:l.length=64):En l=l.map Cq:=by simp [En,h]
theorem oN(b:List UInt8)(k:Nat)(h:k<16):GI b (k+1)=GI b k++[bE b k]:=by rw [GI,B0 h]
theorem oO(b:List UInt8)(k:Nat)(h:16<=k):GI b (k+1)=GI b k++[rz (GI b k) k]:=by rw [GI,As A0]
def Mk(c:AM)(o:Nat)(bs:List UInt8):Prop:=(c.toList.drop o).take bs.length=bs.map u8v
theorem Mk.get{c:AM}{o:Nat}{bs:List UInt8}(h:Mk c o bs)(j:Nat)(m:j<bs.length):c[o+j]?=some (u8v (bs.getD j 0)):=by
 have g:((c.toList.drop o).take bs.length)[j]?=(bs.map u8v)[j]?:=by rw [h]
 rw [HU,B0 m,S2,FF,BE m]at g;rw [Hs]at g;rw [g];simp [Q2,BE m]
theorem KO(b:List UInt8)(k i:Nat)(h:i<k):(En (GI b k)).toArray[i]?=some (Cq ((GI b k).getD i 0)):=bK _ _ (by rw [Co];exact h)
theorem bY(g o cap:Nat)(c:AM)(T:AK)(z:Nat×Nat)(bs:List UInt8)(hb:bs.length=64)(hc:Mk c o bs):
 Az prog 306 #[.slice (some ⟨g,o,none⟩) 64 cap] [[(g,.cells c T z)]] (.agg ((iR bs).map Cq).toArray):=by
 refine Se func306 ntmps306 [0] ?_;intro u R;refine A3<|Ze (Dm zeroValue417 (cs:=(En []).toArray) AD)<|AF fun J=>A5<|B7 Y<|A5<|AP<|Zb [7,0,2] ?_;refine Ay (e0:=[(7,_)]) (fun m e H=>∃k:Nat,m=16 -k/\(k<=16)/\e=[(7,I0 (k:Int))]/\H=[[(J,.cells (En (GI bs k)).toArray 417 (0,0))]]) (by exact ⟨0,V,C7 _,V,V⟩) Wp ?_;rintro _ _ _ ⟨k,rfl,K,rfl,rfl⟩;refine A3<|Zv (Ar (n:=16) Y Y)<|A5<|Zq<|Ap Y (fun G=>?_) (fun G=>?_);·
  refine B4<|Zq<|AP<|AN Y<|AH Y<|Aw (n:=36) (0::0::0::4::14::30::62::126::0::0::512::1536::3840::7936::16128::32512::65534::0::0::262144::786432::1966080::4063232::8257536::16646144::33554430::0::0::134217728::402653184::1006632960::2080374784::4227858432::8589934590::17179869183::34359738367::[]) 34359738368 AD AD rfl<|A1 0 rfl (AQ Y)<|A1 1 rfl (AQ Y)<|A1 2 rfl (AQ Y)<|A1 3 rfl (Ee (m:=4) Y Y A0)<|A1 4 rfl (Bu Hv Lq Y Y (by first|omega|(rw [Hb,D7 _ (by rw [Co];omega)];omega)))<|Bk 5 rfl W4 Y (hv:=by exact hc.get _ A0) ?_;refine A1 6 rfl (IC PA W3 Y)<|A1 7 rfl (MQ (n:=24) Y Y A0)<|A1 8 rfl (AQ Y)<|A1 9 rfl (AQ Y)<|A1 10 rfl (Ee (m:=4) Y Y A0)<|A1 11 rfl (EW (n:=1) Y Y A0)<|A1 12 rfl (Bu Hv Lq Y Y (by first|omega|(rw [Hb,D7 _ (by rw [Co];omega)];omega)))<|Bk 13 rfl W4 Y (hv:=by exact hc.get _ A0) ?_;refine A1 14 rfl (IC PA W3 Y)<|A1 15 rfl (MQ (n:=16) Y Y A0)<|A1 16 rfl (OZ Y Y)<|A1 17 rfl (AQ Y)<|A1 18 rfl (AQ Y)<|A1 19 rfl (Ee (m:=4) Y Y A0)<|A1 20 rfl (EW (n:=2) Y Y A0)<|A1 21 rfl (Bu Hv Lq Y Y (by first|omega|(rw [Hb,D7 _ (by rw [Co];omega)];omega)))<|Bk 22 rfl W4 Y (hv:=by exact hc.get _ A0) ?_;refine A1 23 rfl (IC PA W3 Y)<|A1 24 rfl (MQ (n:=8) Y Y A0)<|A1 25 rfl (OZ Y Y)<|A1 26 rfl (AQ Y)<|A1 27 rfl (AQ Y)<|A1 28 rfl (Ee (m:=4) Y Y A0)<|A1 29 rfl (EW (n:=3) Y Y A0)<|A1 30 rfl (Bu Hv Lq Y Y (by first|omega|(rw [Hb,D7 _ (by rw [Co];omega)];omega)))<|Bk 31 rfl W4 Y (hv:=by exact hc.get _ A0) ?_;refine A1 32 rfl (IC PA W3 Y)<|A1 33 rfl (OZ Y Y)<|A1 34 rfl (BK cU HJ Y Y (by first|omega|(rw [Hb,D7 _ (by rw [Co];omega)];omega)))<|Yw 35 68719476735 rfl (Zs HJ Y Y rfl (hc:=by exact QF bs k (bE bs k) A0 (oN bs k A0)) (hi:=by(rw [Hb,D7 _ (by rw [Co];omega)];omega)))<|F1<|Ao<|Zn [0,2,7] ?_;refine A9<|Zx<|E6 Y Y Y<|HB (by exact ⟨k+1,V,by omega,V,V⟩)
 refine BB<|Zt<|Zt<|AV<|Zx<|Zq<|A3<|AH Y<|AP ?_;have B:k=16:=by omega
 subst B;refine Zb [4,2] ?_;refine Ay (e0:=[(4,_)]) (fun m e H=>∃k:Nat,m=64 -k/\(16<=k/\k<=64)/\e=[(4,I0 (k:Int))]/\H=[[(J,.cells (En (GI bs k)).toArray 417 (0,0))]]) (by exact ⟨16,V,by omega,V,V⟩) Wp ?_;rintro _ _ _ ⟨k,rfl,⟨O,K⟩,rfl,rfl⟩;refine B7 Y<|Zv (Ar (n:=64) Y Y)<|A5<|Ap Y (fun I=>?_) (fun I=>?_);·
  refine B4<|Zq<|AP<|Zq<|Aw (n:=10) (0::1::3::7::0::16::48::112::15::511::[]) 0 AD AD V<|A1 0 V (AQ Y) ?_
  (refine FB (D':=3) 1 (CQ (n:=15) Y Y ?_ ?_) ?_;(focus (omega));(focus (omega)))
  refine A1 2 V (BK cU HJ Y Y A0)<|Bk 3 V K1 Y (hv:=by exact KO bs k _ A0) ?_;refine A1 4 V (AQ Y) ?_
  (refine FB (D':=63) 5 (CQ (n:=2) Y Y ?_ ?_) ?_;(focus (omega));(focus (omega)))
  refine A1 6 V (BK cU HJ Y Y A0)<|Bk 7 V K1 Y (hv:=by exact KO bs k _ A0) ?_;refine A1 8 V (BI Y)<|A1 9 V (BI Y)<|Ao<|Zx<|Aw (n:=26) (0::0::2::6::14::0::0::96::0::256::992::2046::0::4096::12288::28672::65534::0::0::393440::0::1048576::4063456::8388606::16777215::33554431::[]) 34341056 AD AD V<|A1 0 V (AQ Y)<|A1 1 V (AQ Y) ?_
  (refine FB (D':=7) 2 (CQ (n:=16) Y Y ?_ ?_) ?_;(focus (omega));(focus (omega)))
  refine A1 3 rfl (BK cU HJ Y Y (by first|omega|(rw [Hb,D7 _ (by rw [Co];omega)];omega)))<|Bk 4 rfl K1 Y (hv:=by exact KO bs k _ A0) ?_;refine A1 5 V (AQ Y)<|A1 8 V (AQ Y)<|A1 9 V (MO (n:=3) Y Y A0)<|A1 12 V (AQ Y) ?_
  (refine FB (D':=13119) 13 (CQ (n:=7) Y Y ?_ ?_) ?_;(focus (omega));(focus (omega)))
  refine A1 14 rfl (BK cU HJ Y Y (by first|omega|(rw [Hb,D7 _ (by rw [Co];omega)];omega)))<|Bk 15 rfl K1 Y (hv:=by exact KO bs k _ A0) ?_;refine A1 17 V (AQ Y)<|A1 20 V (AQ Y)<|A1 21 V (MO (n:=10) Y Y A0)<|Zz (l:=[6,18])<|C0 [true,true] [(15,(_,_)),(4,(_,_))] V rfl (Ah (vs:=[_,_]) (cs:=[_,_]) DS A6 HX Y V rfl V rfl V) ?hk_5 (fun _ _ h=>h.elim) ?hl_5
  case' hk_5=>
   rintro _ _ ⟨U,rfl,rfl⟩;refine CA<|Zz (l:=[7,18])<|C0 [true,true] [(15,(_,_)),(4,(_,_))] V rfl (Zu [_,_] Y da Y V (IM _ [7,18] _ _ _ _ An An)) ?hk_6 (fun _ _ h=>h.elim) ?hl_6
   case' hk_6=>
    rintro _ _ ⟨rfl,rfl⟩;refine CA<|A1 10 V (Gj Y Y)<|A1 11 V (ED Y Y)<|A1 16 V (ED Y Y)<|Zz (l:=[18])<|C0 [true,true] [(15,(_,_)),(4,(_,_))] V rfl (Ah (vs:=[_,_]) (cs:=[_,_]) DS A6 HX Y V rfl V rfl V) ?hk_7 (fun _ _ h=>h.elim) ?hl_7
    case' hk_7=>
     rintro _ _ ⟨W,rfl,rfl⟩;refine CA<|Yz 19 393440 4194303 [15,4] [true,true] [(15,(_,_)),(4,(_,_))] V Y V rfl V rfl (Zu [_,_] Y da Y V (IM _ [17,19] _ _ _ _ An An)) ?_
    case' hl_7=>
     exact Am
   case' hl_6=>
    refine C0 [true,true] [(15,(_,_)),(4,(_,_))] V rfl (Ah (vs:=[_,_]) (cs:=[_,_]) DS A6 HX Y V rfl V rfl V) ?hk_11 (fun _ _ h=>h.elim) ?hl_11
    case' hk_11=>
     rintro _ _ ⟨X,rfl,rfl⟩;refine CA<|Yz 7 96 3601407 [15,4] [true,true] [(15,(_,_)),(4,(_,_))] V Y V rfl V rfl (Zu [_,_] Y da Y V (IM _ [7,18] _ _ _ _ An An))<|F1<|CA<|A1 10 V (Gj Y Y)<|A1 11 V (ED Y Y)<|A1 16 V (ED Y Y)<|Zz (l:=[19])<|C0 [true,true] [(15,(_,_)),(4,(_,_))] V rfl (Zu [_,_] Y da Y V (IM _ [17,19] _ _ _ _ An An)) ?hk_13 (fun _ _ h=>h.elim) ?hl_13
     case' hl_13=>
      exact Am
    case' hl_11=>
     exact Am
  case' hl_5=>
   refine C0 [true,true] [(15,(_,_)),(4,(_,_))] V rfl (Ah (vs:=[_,_]) (cs:=[_,_]) DS A6 HX Y V rfl V rfl V) ?hk_16 (fun _ _ h=>h.elim) ?hl_16
   case' hk_16=>
    rintro _ _ ⟨Z,rfl,rfl⟩;refine CA<|Yz 6 0 3601279 [15,4] [true,true] [(15,(_,_)),(4,(_,_))] V Y V rfl V rfl (Ah (vs:=[_,_]) (cs:=[_,_]) DS A6 HX Y V rfl V rfl V)<|AF fun b6=>CA<|Yz 7 96 3601407 [15,4] [true,true] [(15,(_,_)),(4,(_,_))] V Y V rfl V rfl (Zu [_,_] Y da Y V (IM _ [7,18] _ _ _ _ An An))<|F1<|CA<|A1 10 V (Gj Y Y)<|A1 11 V (ED Y Y)<|A1 16 V (ED Y Y)<|Zz (l:=[19])<|C0 [true,true] [(15,(_,_)),(4,(_,_))] V rfl (Zu [_,_] Y da Y V (IM _ [17,19] _ _ _ _ An An)) ?hk_19 (fun _ _ h=>h.elim) ?hl_19
    case' hl_19=>
     exact Am
   case' hl_16=>
    exact Am
  all_goals
   rintro _ _ ⟨rfl,rfl⟩;refine CA<|A1 22 rfl (Gj Y Y)<|A1 23 rfl (ED Y Y)<|A1 24 rfl (BK cU HJ Y Y (by first|omega|(rw [Hb,D7 _ (by rw [Co];omega)];omega)))<|Yw 25 67108863 rfl (Zs HJ Y Y rfl (hc:=by exact QF bs k (rz (GI bs k) k) A0 (oO bs k A0)) (hi:=by(rw [Hb,D7 _ (by rw [Co];omega)];omega)))<|F1<|Ao<|Zn [2,4] ?_;refine A9<|Zx<|Zg<|Zm Y<|Ya (n:=1) Y Y<|B1 Y<|HB (by exact ⟨k+1,V,by omega,V,V⟩)
 refine BB<|Zt<|Zt<|AV<|CD<|Zo Wh (AA isAgg417 sizeOf417 Y (by(rw [Hb,D7 _ (by rw [Co];omega)];omega)) (by exact IQ _ _ (by rw [Hb,D7 _ (by rw [Co];omega)]))) ?_;refine Xe (BF sizeOf417 Y Y (by exact bJ _) Wu (by exact rQ _) (by rw [Hb,D7 _ (by rw [Co];omega)]) (by(rw [Hb,D7 _ (by rw [Co];omega)];omega)) (by exact BA _)) ?_;refine A5<|AJ<|Cv rfl results306 Y Wh (Av isAgg417 sizeOf417 (by(rw [Hb,D7 _ (by rw [Co];omega)];omega)) (IQ _ _ (by rw [Hb,D7 _ (by rw [Co];omega)]))) (by
  have e:k=64:=by omega
  exact ⟨by rw [e,Xo _ (Co _ _)];rfl,rfl⟩)
def v8c(v:V8):AM:=#[Cq v.a,Cq v.b,Cq v.c,Cq v.d,Cq v.e,Cq v.f,Cq v.g,Cq v.h]
theorem oU(v:V8):v8c v=(v.list.map Cq).toArray:=rfl
theorem xv(k:Nat)(h:k<64):(Ec.map Cq).toArray[k*1]?=some (Cq (Ec.getD k 0)):=by rw [P0];exact XM Cq Ec k 0 (by rw [tT];exact h)
def Vn(x y:V8)(i:Nat):List UInt32:=(yg x y).list.take i++x.list.drop i
theorem Mc(x y:V8)(i:Nat)(h:i<=8):(Vn x y i).length=8:=by
 have:(yg x y).list.length=8:=rfl;have h2:x.list.length=8:=rfl
 simp [Vn,this,h2];omega
theorem mW(x y:V8)(i:Nat)(h:i<8):((Vn x y i).map Cq).toArray[i]?=some (Cq (x.list.getD i 0)):=by
 have:i=0\/i=1\/i=2\/i=3\/i=4\/i=5\/i=6\/i=7:=by omega
 rcases this with rfl|rfl|rfl|rfl|rfl|rfl|rfl|rfl<;>rfl
theorem oW(y:V8)(i:Nat)(h:i<8):(v8c y)[i]?=some (Cq (y.list.getD i 0)):=by
 have:i=0\/i=1\/i=2\/i=3\/i=4\/i=5\/i=6\/i=7:=by omega
 rcases this with rfl|rfl|rfl|rfl|rfl|rfl|rfl|rfl<;>rfl
theorem mV(x y:V8)(i:Nat)(h:i<8):((Vn x y i).map Cq).toArray.setIfInBounds i (.int .u32 ((x.list.getD i 0+y.list.getD i 0).toNat:Int))=((Vn x y (i+1)).map Cq).toArray:=by
 have:i=0\/i=1\/i=2\/i=3\/i=4\/i=5\/i=6\/i=7:=by omega
 rcases this with rfl|rfl|rfl|rfl|rfl|rfl|rfl|rfl<;>rfl
theorem bP(x:V8)(k:Nat)(m:List UInt32)(v:V8)(hx:x=LY m v k):
 ((#[Cq x.a,Cq x.a,Cq x.b,Cq x.c,Cq x.d,Cq x.e,Cq x.f,Cq x.g]:AM).setIfInBounds 0 (.int .u32 ((Gw.DX x (Ec.getD k 0) (m.getD k 0)+z8 x).toNat:Int))).setIfInBounds 4 (.int .u32 ((x.d+Gw.DX x (Ec.getD k 0) (m.getD k 0)).toNat:Int))=v8c (LY m v (k+1)):=by
 subst hx;rfl
theorem jr(bs:List UInt8):(iR bs).length=64:=Co bs 64
theorem qA(g:List UInt32)(h:g.length=64):((g.map Cq).toArray).size=64:=by rw [Hb,Bm,h]
theorem qB(g:List UInt32)(h:g.length=64):EP (En []).toArray 0 ((g.map Cq).toArray).toList=(g.map Cq).toArray:=
 Ye (En []).toArray (g.map Cq) (by rw [Bm,h];rfl)
theorem wH:0+64<=((En []).toArray).size:=by rw [Hb,D7 _ (C7 _)];exact CT _
theorem iL(v:V8):∀x∈(v8c v).toList,x.oneCell'=true:=by
 intro x hx;rw [oU]at hx;simp only [CM]at hx;obtain ⟨y,_,rfl⟩:=hx;rfl
theorem ol(l:List UInt32):∀x∈(l.map Cq).toArray.toList,x.oneCell'=true:=by
 intro x hx;simp only [CM]at hx;obtain ⟨y,_,rfl⟩:=hx;rfl
theorem vQ(J g o cap:Nat)(c:AM)(T:AK)(z:Nat×Nat)(bs:List UInt8)(hb:bs.length=64)(hc:Mk c o bs)(K X:AK)(zg:Nat×Nat)(v:V8):
 BQ prog 270 #[I1 J,.slice (some ⟨g,o,none⟩) 64 cap] [[(J,.cells (v8c v) K (0,0))],[(g,.cells c T z)],[(4,.cells (Ec.map Cq).toArray X zg)]]
  (fun r H'=>r= .tuple #[]/\H'=[[(J,.cells (v8c (XZ v bs)) K (0,0))],[(g,.cells c T z)],[(4,.cells (Ec.map Cq).toArray X zg)]]):=by
 refine KS func270 V ntmps270 V ?_;intro u R;obtain ⟨B,G⟩:∃B,B=iR bs:=⟨_,rfl⟩;have Z:B.length=64:=by rw [G];exact jr bs
 have I:=bY g o cap c T z bs hb hc;rw [<-G]at I;have O:XZ v bs=yg v (LY B v 64):=by rw [G];rfl
 clear G;rw [O];refine Zb [0,1] ?_;refine AN Y<|Xr [_] Y call306 Y V (I) ?_;refine Ze (Dm zeroValue417 (cs:=(En []).toArray) AD)<|AF fun bw=>Xe (BF sizeOf417 Y Y (by exact ol _) Wu (by exact qB B Z) (by exact qA B Z) (by exact wH) (by exact BA _)) ?_;refine A5<|AN Y<|Zp Y V<|Zo Wh (AA (cs:=v8c v) isAgg378 sizeOf378 Y Wn B2) ?_;refine Ze (Al zeroValue378 #[_,_,_,_,_,_,_,_])<|AF fun bv=>Xe (BF sizeOf378 Y Y (by exact iL v) Wu (by exact (rfl:_=v8c (LY B v 0))) Fm Wn (by exact BA _)) ?_;refine A5<|Zq<|A3<|Zo Wh (AA (cs:=(Ec.map Cq).toArray) isAgg417 sizeOf417 Y (by exact CT _) (by exact IQ _ _ V)) ?_;refine Zm Y<|A5<|AP<|Zb [19,0,4,5,18] ?_;refine Ay (e0:=[(19,_)]) (fun m e H=>∃k:Nat,m=64 -k/\(k<=64)/\e=[(19,I0 (k:Int))]/\H=[[(bv,.cells (v8c (LY B v k)) 378 (0,0))]]) (by exact ⟨0,V,C7 _,V,V⟩) Wp ?_;rintro _ _ _ ⟨k,rfl,hk,rfl,rfl⟩;obtain ⟨x,hx⟩:∃x,x=LY B v k:=⟨_,rfl⟩;rw [<-hx];refine A3<|Zv (Ar (n:=64) Y Y)<|A5<|Zq<|Ap Y (fun U=>?_) (fun U=>?_);·
  refine B4<|Zq<|AP<|AN Y<|Zv (QR cU K1 HJ Y Y A0 (by exact xv k A0))<|Za Y<|D2 Y<|Aw (n:=6) (0::1::0::4::3::31::[]) 0 AD AD V<|A1 0 V (BK (j:=0) N5 HJ Y Y A0)<|Bk 1 V K1 Y ?_;refine A1 2 V (BK (j:=4) N5 HJ Y Y A0)<|Bk 3 V K1 Y ?_;refine A1 4 V (BI Y)<|A1 5 V (BI Y)<|Ao<|Zx<|Zq<|Aw (n:=24) (0::1::0::0::12::31::0::0::128::448::0::1024::0::4096::15360::32704::65535::0::262143::0::524288::1572864::4194303::8388607::[]) 24 AD AD V<|A1 0 V (BK (j:=7) N5 HJ Y Y A0)<|Bk 1 V K1 Y ?_;refine A1 2 V (AQ Y)<|A1 6 V (AQ Y)<|A1 7 V (BK (j:=5) N5 HJ Y Y A0)<|Bk 8 V K1 Y ?_;refine A1 9 V (K7 Y Y)<|A1 10 V (AQ Y)<|A1 11 V (kw Y)<|A1 12 V (BK (j:=6) N5 HJ Y Y A0)<|Bk 13 V K1 Y ?_;refine A1 14 V (K7 Y Y)<|A1 15 V (Gj Y Y)<|A1 17 V (AQ Y)<|A1 19 V (AQ Y)<|A1 20 V (BK cU HJ Y Y A0)<|Bk 21 V K1 Y (hv:=by exact XM Cq B k 0 A0) ?_;refine Yz 3 0 3866575 [21,13,8,1] [true,true,true,true] [(21,(_,_)),(13,(_,_)),(8,(_,_)),(1,(_,_))] V Y V rfl V rfl (Ah (vs:=[_,_,_]) (cs:=[_,_,_]) DS A6 HX Y V rfl V rfl V)<|AF fun b3=>CA<|Yz 4 12 3866591 [21,13,8,1] [true,true,true,true] [(21,(_,_)),(13,(_,_)),(8,(_,_)),(1,(_,_))] V Y V rfl V rfl (Zu [_,_] Y da Y V (IM _ [6,11,25] _ _ _ _ An An))<|F1<|CA<|A1 5 V (ED Y Y)<|A1 16 V (ED Y Y)<|A1 18 V (ED Y Y)<|A1 22 V (ED Y Y)<|A1 23 V (BI Y)<|Ao<|Zn [0,4,5,8,10,18,19] ?_;refine Zx<|Zq<|Aw (n:=20) (0::0::3::0::0::16::56::0::0::256::896::2040::0::4096::0::16384::61440::131064::262143::524287::[]) 6 AD AD V<|A1 0 V (AQ Y)<|A1 3 V (AQ Y)<|A1 4 V (BK (j:=1) N5 HJ Y Y A0)<|Bk 5 V K1 Y ?_;refine A1 6 V (K7 Y Y)<|A1 7 V (AQ Y)<|A1 8 V (BK (j:=2) N5 HJ Y Y A0)<|Bk 9 V K1 Y ?_;refine A1 10 V (K7 Y Y)<|A1 11 V (Gj Y Y)<|A1 12 V (BK (j:=1) N5 HJ Y Y A0)<|Bk 13 V K1 Y ?_;refine A1 14 V (BK (j:=2) N5 HJ Y Y A0)<|Bk 15 V K1 Y ?_
  refine A1 16 V (K7 Y Y)<|A1 17 V (Gj Y Y)<|Zz (l:=[1])<|C0 [true,true,true,true] [(15,(_,_)),(13,(_,_)),(9,(_,_)),(5,(_,_))] V rfl (Ah (vs:=[_,_,_]) (cs:=[_,_,_]) DS A6 HX Y V rfl V rfl V) ?_ (fun _ _ h=>h.elim) Am;rintro _ _ ⟨b4,rfl,rfl⟩;refine CA<|Yz 2 3 262143 [15,13,9,5] [true,true,true,true] [(15,(_,_)),(13,(_,_)),(9,(_,_)),(5,(_,_))] V Y V rfl V rfl (Zu [_,_] Y da Y V (IM _ [2,13,22] _ _ _ _ An An))<|F1<|CA<|A1 18 V (ED Y Y)<|A1 19 V (BI Y)<|Ao<|Zn [0,4,5,10,11,18,19] ?_;refine Zx<|Zq<|Aw (n:=3) (0::0::3::[]) 4 AD AD V<|A1 0 V (Pm (l:=1) N5 HJ Y Y A0)<|A1 1 V (Sd (h:=7) N5 HJ Y Y A0)<|Yw 2 7 V (A18 (cs:=[_,_,_,_,_,_,_]) (c':=#[_,_,_,_,_,_,_,_]) underlying420 HJ Y Y Wh Wu B2 B2 B2 (by exact CT 8) (BA _) (by simp [Value.oneCell',Cq]))<|F1<|Ao<|Zx<|Zg<|Zm Y<|Zm Y<|Zv (ED Y Y)<|Ba (BK (j:=4) N5 HJ Y Y A0)<|Zl K1 Y ?_;refine Zm Y<|Zv (ED Y Y)<|Ba (BK (j:=0) N5 HJ Y Y A0)<|Xe (Zs HJ Y Y V) ?_;refine Ba (BK (j:=4) N5 HJ Y Y A0)<|Xe (Zs HJ Y Y V (hc:=by exact (bP x k B v hx))) ?_;refine Z0<|Zn [0,4,5,18,19] ?_;refine A9<|Zx<|E6 Y Y Y<|HB (by exact ⟨k+1,V,by omega,V,V⟩)
 refine BB<|Zt<|Zt<|AV<|Zx<|AN Y<|A5<|AP ?_;have ek:k=64:=by omega
 subst ek;refine Zb [82,0,5] ?_;refine Ay (e0:=[(82,_)]) (fun m e H=>∃i:Nat,m=8 -i/\(i<=8)/\e=[(82,I0 (i:Int))]/\H=[[(J,.cells ((Vn v x i).map Cq).toArray K (0,0))]]) (by exact ⟨0,V,C7 _,V,V⟩) Wp ?_;rintro _ _ _ ⟨i,rfl,hi,rfl,rfl⟩;refine A3<|Zv (Ar (n:=8) Y Y)<|A5<|Zq<|Ap Y (fun W=>?_) (fun W=>?_);·
  refine B4<|Zq<|AP<|AN Y<|AH Y<|Aw (n:=12) (0::0::1::7::15::0::32::96::255::1::1023::2047::[]) 2048 AD AD rfl<|A1 0 rfl (AQ Y)<|A1 1 rfl (AQ Y)<|A1 2 rfl (Aq Y rfl)<|A1 3 rfl (BK N5 HJ Y Y (by first|omega|(rw [Hb,Bm,Mc _ _ _ A0];omega)))<|Bk 4 rfl K1 Y (hv:=by exact mW _ _ i A0) ?_;refine A1 5 rfl (AQ Y)<|A1 6 rfl (BK N5 HJ Y Y (by first|omega|(rw [Hb,Bm,Mc _ _ _ A0];omega)))<|Bk 7 rfl K1 Y (hv:=by exact oW _ i A0) ?_;refine A1 8 rfl (ED Y Y)<|A1 9 rfl (Aq Y rfl)<|A1 10 rfl (BK N5 HJ Y Y (by first|omega|(rw [Hb,Bm,Mc _ _ _ A0];omega)))<|Yw 11 4095 rfl (Zs HJ Y Y rfl (hc:=by exact mV _ _ i A0) (hi:=by(rw [Hb,Bm,Mc _ _ _ A0];omega)))<|F1<|Ao<|Zn [0,5,82] ?_;refine A9<|Zx<|E6 Y Y Y<|HB (by exact ⟨i+1,V,by omega,V,V⟩)
 have ei:i=8:=by omega
 subst ei;rw [<-hx];refine BB<|Zt<|Zt<|AV<|D6 V results270 (by exact ⟨V,V⟩)
def Sb(N:Nat)(l:List UInt8):AM:=(l.map u8v++List.replicate (N -l.length) (Value.int .u8 0)).toArray
theorem rC(N:Nat)(l:List UInt8)(x:UInt8)(k:Nat)(g:k=l.length)(h:l.length<N):(Sb N l).setIfInBounds k (.int .u8 (x.toNat:Int))=Sb N (l++[x]):=by
 subst g;unfold Sb;rw [pA];congr 1;rw [nB _ _ B6];simp only [Bm,W1,C2,EV,Mp];obtain ⟨n,hn⟩:∃n,N -l.length=n+1:=⟨N -1 -l.length,by omega⟩;rw [hn,show N -(l.length+(0+1))=n by omega];simp [List.replicate_succ,u8v]
theorem VT(N:Nat)(l:List UInt8)(h:l.length<=N):(Sb N l).size=N:=by simp [Sb];omega
theorem ko(N:Nat)(l:List UInt8)(h:l.length=N):(Sb N l).toList=l.map u8v:=by simp [Sb,h]
def Qp(v:V8)(i k:Nat):List UInt8:=(v.list.take i).flatMap Ob++(Ob (v.list.getD i 0)).take k
theorem Oa(v:V8)(i k:Nat)(hi:i<8)(g:k<=4):(Qp v i k).length=4*i+k:=by
 have:i=0\/i=1\/i=2\/i=3\/i=4\/i=5\/i=6\/i=7:=by omega
 rcases this with rfl|rfl|rfl|rfl|rfl|rfl|rfl|rfl<;>simp [Qp,V8.list,Ob]<;>omega
theorem lC(v:V8)(i:Nat)(hi:i<8):Qp v (i+1) 0=Qp v i 4:=by
 have:i=0\/i=1\/i=2\/i=3\/i=4\/i=5\/i=6\/i=7:=by omega
 rcases this with rfl|rfl|rfl|rfl|rfl|rfl|rfl|rfl<;>rfl
theorem l6(v:V8)(i k:Nat)(g:k<4):Qp v i (k+1)=Qp v i k++[((v.list.getD i 0)>>>UInt32.ofNat (24 -8*k)).toUInt8]:=by
 have:k=0\/k=1\/k=2\/k=3:=by omega
 unfold Qp;generalize v.list.getD i 0=x;rcases this with rfl|rfl|rfl|rfl
 · simp [Ob]
 · simp [Ob]
 · simp [Ob]
 · have e:x>>>UInt32.ofNat (24 -8*3)=x:=by
    apply UInt32.toNat_inj.1;simp [UInt32.toNat_shiftRight]
   rw [e];simp [Ob]
theorem ik(v:V8):Qp v 8 0=rR v:=rfl
theorem oV(y:V8)(i:Nat)(h:i<8):(v8c y)[i*1]?=some (Cq (y.list.getD i 0)):=by rw [P0];exact oW y i h
theorem aQ(v:V8):Az prog 271 #[.agg (v8c v)] [] (.string (str (rR v))):=by
 refine Se func271 ntmps271 [0] ?_;intro u R;refine A3<|Ze (FN Y (cs:=(v8c v)) AD)<|AF fun K=>AH Y<|A3<|Ze (Dm zeroValue412 (cs:=(Sb 32 [])) AD)<|AF fun G=>A5<|Zq<|A3<|Zo Wh (AA (cs:=v8c v) isAgg378 sizeOf378 Y (by exact CT _) (by exact IQ _ _ V))<|Zm Y<|A5<|AP<|Zb [8,3,7] ?_;refine Ay (e0:=[(8,_)]) (fun m e H=>∃i:Nat,m=8 -i/\(i<=8)/\e=[(8,I0 (i:Int))]/\H=[[(G,.cells (Sb 32 (Qp v i 0)) 412 (0,0))]]) (by exact ⟨0,V,C7 _,V,V⟩) Wp ?_;rintro _ _ _ ⟨i,rfl,hi,rfl,rfl⟩;refine A3<|Zv (Ar (n:=8) Y Y)<|A5<|Zq<|Ap Y (fun g=>?_) (fun g=>?_);·
  refine B4<|Zq<|AP<|AN Y<|Zv (QR N5 K1 HJ Y Y A0 (by exact oV v i A0))<|Za Y<|AH Y<|AN Y<|A5<|AP<|Zb [12,3,4,5,7,8] ?_;refine Ay (e0:=[(12,_)]) (fun m e H=>∃k:Nat,m=4 -k/\(k<=4)/\e=[(12,I0 (k:Int))]/\H=[[(G,.cells (Sb 32 (Qp v i k)) 412 (0,0))]]) (by exact ⟨0,V,C7 _,V,V⟩) Wp ?_;rintro _ _ _ ⟨k,rfl,O,rfl,rfl⟩;refine A3<|Zv (Ar (n:=4) Y Y)<|A5<|Zq<|Ap Y (fun B=>?_) (fun B=>?_);·
   refine B4<|Zq<|AP<|AN Y<|AH Y<|Zg<|Zm Y<|Ba (Ee (m:=4) Y Y A0)<|Zm Y<|Ya Y Y<|Zm Y<|Zm Y<|Ba (Ee (m:=8) Y Y A0)<|Yb (m:=24) Y Y ?_;refine Ba (MO Y Y A0)<|Zv (UM W3 PA Y)<|Ba (BK underlying412 Lq Y Y (by first|omega|(rw [VT _ _ (by rw [Oa _ _ _ A0 A0];omega)];omega)))<|Xe (Zs Lq Y Y rfl (hc:=by exact (rC 32 (Qp v i k) _ _ (by rw [Oa _ _ _ A0 A0]) (by rw [Oa _ _ _ A0 A0];omega)).trans (congrArg (Sb 32) (l6 v i k A0).symm)) (hi:=by(rw [VT _ _ (by rw [Oa _ _ _ A0 A0];omega)];omega)))<|Z0<|Zn [3,4,5,7,8,12] ?_;refine A9<|Zx<|E6 Y Y Y<|HB (by exact ⟨k+1,V,by omega,V,V⟩)
  have J:k=4:=by omega
  subst J;refine BB<|Zt<|Zt<|AV<|A9<|Zx<|E6 Y Y Y<|DM (e:=[(8,_)]) (h:=by exact ⟨i+1,rfl,by omega,rfl,by rw [lC v i A0]⟩)
 have I:i=8:=by omega
 subst I;refine BB<|Zt<|Zt<|AV<|CD<|Zv (IY underlying412 Lq Y)<|Zo Wh (K6 Hv PA HO Y (by exact ⟨(by rw [ko 32 (Qp v 8 0) (by rw [ik];rfl)];exact LS (by rw [S8,Bm,ik];exact CT 32)),rfl⟩))<|Ax Y<|AX rfl results271 Y cG
def Q8(g j:Nat):A2:= .slice (some ⟨g,64*j,none⟩) 64 64
theorem uq(g k M:Nat)(h:k<M):Value.slice (some ⟨g,0+64*k*1,none⟩) (64*k+min 64 (64*M -64*k) -64*k) (64*k+min 64 (64*M -64*k) -64*k)=Q8 g k:=by
 have m:64*k+min 64 (64*M -64*k) -64*k=64:=by omega
 have h2:0+64*k*1=64*k:=by omega
 rw [m,h2];rfl
theorem YJ(M k:Nat)(h:k<M):List.range M=List.range k++k::(List.range' (k+1) (M -k -1)):=by
 rw [ph,ph,<-qu];rw [show M -k -1+1=M -k by omega];have:=List.range'_append_1 (s:=0) (m:=k) (n:=M -k)
 rw [show 0+k=k by omega,show k+(M -k)=M by omega]at this;exact this.symm
theorem gV(g cap M:Nat)(bs O:Nat)(hM:64*M<=cap)(hc:cap<=maxLen):
 U7 prog 305 #[I1 bs,I1 O] [[(bs,.cells #[I2 g (64*M) cap] 93 (0,0))],[(O,.cells #[I0 64] 3 (0,0))]] (fun j=>#[Q8 g j]) (List.range M):=by
 have X:=mL;intro l J hy s G;refine Se func305 ntmps305 [0,1,2] ?_;intro u R;refine A3<|AH Y<|AP<|Zb [4,0,1,2] ?_;refine Ay (e0:=[(4,_)]) (fun m e H=>∃(k:Nat) (s:List A8),m=M -k/\(k<=M/\J (List.range k) s)/\e=[(4,I0 ((64*k:Nat):Int))]/\H=[s]) (by exact ⟨0,s,V,⟨C7 _,G⟩,V,V⟩) Wp ?_;rintro _ _ _ ⟨k,s,rfl,⟨hk,G⟩,rfl,rfl⟩;refine B7 Y<|Zl Tr Y ?_;refine Zv (AR Hv Y)<|Zv (Ar Y Y)<|A5<|Ap Y (fun K=>?_) (fun K=>?_);·
  refine B4<|Zq<|AP<|Zq<|Aw (n:=7) (0::0::0::6::14::31::63::[]) 0 AD AD V<|Bk 0 V AE Y ?_;refine Bk 1 V Tr Y ?_;refine A1 2 V (AQ Y)<|A1 3 V (Bw Hv Lq Y Y A0)<|A1 4 V (AR Hv Y)<|A1 5 V (MU Y Y)<|A1 6 V (BI Y)<|Ao<|Zx<|Zq ?_;have B:=hy (List.range k) k _ s (YJ M k A0) G
  rw [<-kx]at B;rw [show(fun j=>#[Q8 g j]) k=#[Q8 g k] from rfl,<-uq g k M A0]at B;refine Zg<|Zm Y<|Zl Tr Y ?_;refine Zm Y<|Zm Y<|Zm Y<|Ya Y Y<|Zm Y<|Zm Y<|Ya Y Y ?_
  (refine Ba (Sc Hv Lq Y Y Y Y ?_ ?_) ?_;(focus ((simp only [Nat.min_def];split<;>omega)));(focus (omega)))
  refine Ze (GX (vs:=[_]) Y Y (B) Wp) ?_;rintro _ _ ⟨_,⟨Z,rfl,rfl,I⟩,rfl⟩;refine Zv (Bh Y)<|Z0<|Zn [0,1,2,4,30] ?_;refine Zx<|AY Y (fun U=>by cases U)<|fun U=>AC<|A9<|Zx<|Zg<|Zm Y<|Zl AE Y ?_;refine Yi Y Y<|B1 Y<|HB (by exact ⟨k+1,Z,V,⟨by omega,I⟩,V,V⟩)
 have W:k=M:=by omega
 subst W;refine BB<|Zt<|Zt<|AV<|D6 V results305 (by exact ⟨s,V,G⟩)
theorem gU(p:B8)(n cap:Nat):BQ prog 269 #[.slice p n cap,I0 64] [] (fun r H'=>∃bs m,r= .func (.func 305) #[] #[I1 bs,I1 m]/\H'=[[(bs,.cells #[.slice p n cap] 93 (0,0))],[(m,.cells #[I0 64] 3 (0,0))]]):=by
 refine Se func269 ntmps269 [0,1] ?_;intro u R;refine A3<|Ze (Bx #[_])<|AF fun B=>Ze (Bx #[_])<|AF fun G=>D2 Y<|A3<|Zl AE Y<|Zv (Ar (n:=1) Y Y)<|A5<|Ap Y (fun g=>?_) (fun g=>?_);·
  exact absurd g An
 refine AC<|CD<|Zv (Bg (vs:=[]) (us:=[_,_]) Y Y)<|Ax Y<|AX V results269 Y (by exact ⟨B,G,V,V⟩)
theorem Qh:∀(n:Nat) (h:V8) (b:List UInt8),JE (n+1) h b=XZ (JE n h b) ((b.drop (64*n)).take 64)
 |0,h,b=>by simp [JE]
 |n+1,h,b=>by
  rw [JE,Qh n,JE,cS];rw [show 64+64*n=64*(n+1) by omega]
def Qo(l:List UInt8)(k:Nat):List UInt8:=l++[128]++List.replicate k 0
theorem Le(l:List UInt8)(k:Nat):(Qo l k).length=l.length+1+k:=by simp [Qo];omega
theorem kY(l:List UInt8)(k:Nat):(Qo l k).map u8v++[.int .u8 0]=(Qo l (k+1)).map u8v:=by
 unfold Qo;rw [List.replicate_succ'];simp [u8v]
def UH(l:List UInt8)(j:Nat):List UInt8:=Qo l (Kz l.length)++(Qq l.length).take j
theorem kZ(l:List UInt8):UH l 0=Qo l (Kz l.length):=by simp [UH]
theorem VS(l:List UInt8):UH l 8=Gt l:=by
 have:(Qq l.length).take 8=Qq l.length:=LS (by simp [Qq]);simp [UH,Qo,Gt,this]
theorem tH(n j:Nat)(h:j<8):(Qq n).take (j+1)=(Qq n).take j++[UInt8.ofNat (8*n/2^(8*(7 -j)))]:=by
 rw [p6 (by simp [Qq];omega)];simp [Qq]
theorem kg(l:List UInt8)(j q:Nat)(h:q+j=7):(UH l j).map u8v++[.int .u8 ((UInt8.ofNat (8*l.length/2^(8*q))).toNat:Int)]=(UH l (j+1)).map u8v:=by
 unfold UH;rw [tH _ _ A0,show 7 -j=q by omega];simp [u8v]
theorem YZ(l:List UInt8)(j:Nat)(h:j<=8):(UH l j).length=l.length+1+Kz l.length+j:=by
 have:(Qq l.length).length=8:=by simp [Qq]
 simp [UH,Le,this];omega
theorem xU(m:Nat):IntKind.u8.wrap (m:Int)=((UInt8.ofNat m).toNat:Int):=by
 rw [IntKind.wrap_u8',UInt8.toNat_ofNat'];omega
theorem w9(n k:Nat)(g:k<=Kz n)(h:(n+1+k)%64≠56):k<Kz n:=by
 have:=iH n;rcases Ft k (Kz n)with h1|h1
 · exact h1
 · have:k=Kz n:=by omega
   subst this;contradiction
theorem wB(n k:Nat)(g:k<=Kz n)(h:(n+1+k)%64=56):k=Kz n:=by
 unfold Kz at g⊢;omega
theorem kK{M x:Nat}{pre g:List Nat}(h:List.range M=pre++x::g):x=pre.length/\x<M:=by
 have m:(List.range M)[pre.length]?=some x:=by rw [h];simp
 have B:pre.length<M:=by
  have:=(C6.1 m).1;simpa using this
 rw [cM B]at m;have:=T7 m
 omega
theorem aa{cur:AM}{p:List UInt8}(h:cur.toList.take (p.map u8v).length=p.map u8v)(k:Nat)(m:64*k+64<=p.length):Mk cur (64*k) ((p.drop (64*k)).take 64):=by
 unfold Mk;have g:((p.drop (64*k)).take 64).length=64:=by simp;omega
 rw [g,List.map_take,l4,<-h];rw [gn,WD];congr 1;simp;omega
theorem wV(l:List UInt8)(M:Nat)(h:(Gt l).length=64*M):sha l=rR (JE M h0 (Gt l)):=by
 unfold sha;rw [h,Nat.mul_div_cancel_left _ A0]
theorem oo(s:C4)(hs:s.size<=140737488355000)(Tg:AK)(zg:Nat×Nat):
 Az prog 239 #[.string s] [[(4,.cells (Ec.map Cq).toArray Tg zg)]] (.string (str (sha s.data.toList))):=by
 have l5:=mL;obtain ⟨l,O⟩:∃l,l=s.data.toList:=⟨_,rfl⟩;have hn:l.length=s.size:=by rw [O];rfl
 have hz:Kz s.size<64:=by unfold Kz;omega
 refine Ct func239 V ntmps239 V ?_;intro u R;refine Zb [0] ?_;refine A3<|AH Y<|A3<|Zv (BM (vs:=[(0,_),(1,_),(2,_),(3,_),(4,_),(5,_),(6,_),(7,_)]) (cs:=#[_,_,_,_,_,_,_,_]) Y (Dt zeroValue378 N5 HJ V))<|Ze (Al zeroValue378 #[_,_,_,_,_,_,_,_])<|AF fun bh=>Xe (BF sizeOf378 Y Y (iL h0) Wu (by exact (rfl:_=v8c (JE 0 h0 (Gt l)))) Fm Wn (by exact BA _))<|A5<|AN Y<|Ze (wJ HO Hv PA Y A0) ?_;rintro _ _ ⟨sa,U,rfl⟩;obtain ⟨ga,ca,rfl⟩:=U.form;refine Ze (Ah (vs:=[_]) (cs:=[_]) Hv Lq To Y V rfl V rfl V)<|AF fun b3=>Ze (FO (by_:=1) (news:=[_]) Hv (V:Tryz.prog.info? 5=some Tryz.t5) V rfl V rfl Y U Y Wo Wh B2 V HQ An (by(simp only [Bm,<-O,hn];omega)) (by(simp only [Bm,<-O,hn];omega))) ?_;rintro _ _ ⟨sb,W,rfl⟩;obtain ⟨gb,cb,rfl⟩:=W.form;refine D2 Y<|AP ?_;have gm:Row 5 (.slice gb (List.map u8v s.data.toList++[Value.int IntKind.u8 128]).length cb) ((Qo l 0).map u8v) sb:=by
  have e:(Qo l 0).map u8v=List.map u8v s.data.toList++[Value.int IntKind.u8 128]:=by rw [<-O];simp [Qo,u8v]
  rw [e];exact W
 refine Zb [4,0,3] ?_;refine Ay (e0:=[(4,_)]) (fun m e H=>∃(k:Nat) (v:A2) (J:List A8),m=Kz s.size -k/\(k<=Kz s.size/\Row 5 v ((Qo l k).map u8v) J)/\e=[(4,v)]/\H=[J]) (by exact ⟨0,_,_,V,⟨C7 _,gm⟩,V,V⟩) Wp ?_;rintro _ _ _ ⟨k,v,J,rfl,⟨hk,B⟩,rfl,rfl⟩;obtain ⟨gv,cv,rfl⟩:=B.form;refine B7 Y<|Zv (AR Hv Y)<|Ba (Gm (n:=64) Y Y A0)<|Zv (Dr (n:=56) Y Y)<|A5<|Ap Y (fun G=>?_) (fun G=>?_);·
  rw [Bm,Le,hn]at G;have cu:=w9 _ _ hk G
  refine B4<|AP<|Zg<|Zm Y<|Ze (Ah (vs:=[_]) (cs:=[_]) Hv Lq To Y V rfl V rfl V)<|AF fun b5=>Ze (FO (by_:=1) (news:=[_]) Hv (V:Tryz.prog.info? 5=some Tryz.t5) V rfl V rfl Y B Y Wo Wh B2 V HQ An (by(simp only [Bm,Le,hn];omega)) (by(simp only [Bm,Le,hn];omega))) ?_;rintro _ _ ⟨sc,X,rfl⟩;obtain ⟨gc,cc,rfl⟩:=X.form;refine B1 Y<|A9<|DM (e:=[(4,_)]) (h:=by exact ⟨k+1,_,_,rfl,⟨cu,by rw [<-kY];exact X⟩,rfl,rfl⟩)
 rw [Bm,Le,hn]at G;have ek:=wB _ _ hk A0
 subst ek;refine BB<|Zt<|Zt<|AV<|Zx<|Zq<|A3<|AH Y<|AP<|Zb [4,5,0,3] ?_;refine Ay (e0:=[(4,_),(5,_)]) (fun m e H=>∃(j:Nat) (i:Int) (v:A2) (J:List A8),m=8 -j/\(j<=8/\i=7 -(j:Int)/\Row 5 v ((UH l j).map u8v) J)/\e=[(4,v),(5,I0 i)]/\H=[J]) (by exact ⟨0,_,_,_,rfl,⟨C7 _,rfl,by rw [kZ,hn];exact B⟩,rfl,rfl⟩) Wp ?_;rintro _ _ _ ⟨j,i,v,J,rfl,⟨hj,hi,B⟩,rfl,rfl⟩;obtain ⟨gv,cv,rfl⟩:=B.form;refine B7 Y<|Zv (IL Y Y)<|A5<|Ap Y (fun K=>?_) (fun K=>?_);·
  obtain ⟨q,rfl⟩:=Int.eq_ofNat_of_zero_le K;refine B4<|Zq<|AP<|Zg<|Zm Y<|Zm Y<|Zv (Pt HO Y)<|Ba (Ee (m:=8) Y Y A0)<|Zm Y<|Ba (Ee (m:=8) Y Y A0)<|Ba (Po Y Y (by first|decide|(simp [IntKind.bits];done)|(simp [IntKind.bits];omega)))<|KY (Eu D3 PA Y (xU _)) rfl rfl<|Ze (Ah (vs:=[_]) (cs:=[_]) Hv Lq To Y rfl rfl rfl rfl rfl)<|AF fun b7=>Ze (FO (by_:=1) (news:=[_]) Hv (V:Tryz.prog.info? 5=some Tryz.t5) V rfl V rfl Y B Y Wo Wh B2 V HQ An (by(simp only [Bm,YZ l j hj,hn];omega)) (by(simp only [Bm,YZ l j hj,hn];omega))) ?_;rintro _ _ ⟨sd,Z,rfl⟩;obtain ⟨gd,cd,rfl⟩:=Z.form;refine B1 Y<|Zn [0,3,4,5] ?_;refine A9<|Zx<|Zg<|Zm Y<|Ba (Gu Y Y (IntWalk.i64_in _ A0))<|B1 Y<|DM (e:=[(4,_),(5,_)]) (h:=by exact ⟨j+1,_,_,_,rfl,⟨by omega,by omega,by rw [<-kg l j q A0,hn];exact Z⟩,rfl,rfl⟩)
 have ej:j=8:=by omega
 subst ej;refine BB<|Zt<|Zt<|AV<|Zx<|Zq<|Zq ?_;rw [VS]at B;obtain ⟨M,hM⟩:∃M,(Gt l).length=64*M:=⟨(Gt l).length/64,by have:=dw l;omega⟩;have d9:=Sa l
 rw [hn]at d9;rw [VS];obtain ⟨g,cap,cur,z,hv,rfl,cO,ax,j5,gq,kv⟩:=B.some (by rw [Bm];omega);simp only [Value.slice.injEq]at hv;obtain ⟨rfl,_,rfl⟩:=hv;rw [Bm]at cO;rw [Bm,hM];refine Zg<|Zm Y<|Zc [_,_] Y call269 Y V (gU _ _ _) ?_;rintro _ _ ⟨_,⟨bs,bn,rfl,rfl⟩,rfl⟩;refine A5<|AP<|Zb [3,34] ?_;refine Qk (H0:=_) (R:=_) (I:=(fun pre H=>H=[[(bh,.cells (v8c (JE pre.length h0 (Gt l))) 378 (0,0))],[(g,.cells cur 5 z)],[(4,.cells (Ec.map Cq).toArray Tg zg)]])) (asg:=fun x=>[(6,Q8 g x),(35,Q8 g x)]) V Y call305 (gV g cv M bs bn A0 ax) Y V Wp (V) ?ha_6 ?hbd_6 ?hk_6
 case ha_6=>
  intro _ x _ _;refine Zg<|Za Y<|Z0 ?_;exact rY
 case hbd_6=>
  intro l pre x j3 u H1 R1 ic hI;subst hI;obtain ⟨gy,l8⟩:=kK ic;subst gy;refine AP<|Zg<|Zm Y<|Zc [_,_] Y call270 Y rfl (vQ _ _ _ _ _ _ _ _ (by rw [Cl,D0];omega) (aa gq _ A0) _ _ _ _) ?_;rintro _ _ ⟨_,⟨rfl,rfl⟩,rfl⟩;refine Z0<|A9<|Fq rfl (by rw [C2,G0,Qh])
 intro D1 H2 af;subst af;refine Zn [3] ?_;refine A9<|CD<|Zo Wh (AA (cs:=v8c (JE M h0 (Gt l))) isAgg378 sizeOf378 Y Wn (by rw [dq];exact IQ _ _ rfl))<|Xr [_] Y call271 Y rfl (aQ _)<|Ax Y<|Gv rfl (dE results239 Y) Wo (by exact ⟨by rw [<-O,wV l M hM],rfl⟩)
end Go.Proofs.YtelliknjeemfoaaGreatDoor
