/- Contracts: bits.RotateLeft32 at the counts of the program, digest.mixed, digest.schedule. -/
import Derived.Test.YtlkdhannldcfbabGreatDoorA1
import Derived.Test.YtlkdhannldcfbabGreatDoorSha
import Derived.Test.YtlkdhannldcfbabGreatDoorEx25
set_option linter.unusedVariables false
set_option linter.unusedSimpArgs false
namespace Go.Proofs.YtlkdhannldcfbabGreatDoor
open Go.Proofs.Tryz
open Go Go.RowKit Gw
set_option maxRecDepth 100000
attribute [local irreducible] Gw.At Gw.Nx Gw.Ops
theorem o6(x:UInt32)(n m:Nat)(h0:0<n)(g:n<32)(B:n+m=32):(x<<<UInt32.ofNat m)|||(x>>>UInt32.ofNat n)=uf x (UInt32.ofNat n):=by
 unfold uf;have:(32:UInt32) -UInt32.ofNat n=UInt32.ofNat m:=by
  apply UInt32.toNat_inj.1;rw [UInt32.toNat_sub,na,na];simp only [UInt32.reduceToNat];omega
 rw [this]
theorem v8(n m:Nat)(h0:0<n)(B:n<32)(G:n+m=32):bits .and .u64 (IntKind.u64.wrap (-(n:Int))) 31=(m:Int):=by
 have h:IntKind.u64.wrap (-(n:Int))=((18446744073709551616 -n:Nat):Int):=by rw [IntKind.wrap_u64];omega
 have g:(31:Int)=((31:Nat):Int):=rfl;rw [h,g,u64_and_nat _ _ A0 A0,nat_mask5];omega
theorem o5(x:UInt32)(n:Nat)(h0:0<n)(g:n<32):Au prog 289 #[.int .u32 x.toNat,I4 (-(n:Int))] [] (.int .u32 (uf x (UInt32.ofNat n)).toNat):=by
 refine LB func289 V ntmps289 V ?_;intro u R;obtain ⟨m,B⟩:∃m,n+m=32:=⟨32 -n,by omega⟩;refine Zb [0,1] ?_;refine A3<|AH Y<|AK Y<|LM (Ez D3 W7 Y V) V rfl<|LM (vX Y Y (v8 n m h0 g B)) V rfl<|AH Y<|AK Y<|Zm Y<|BX (NT Y Y A0)<|Zm Y<|Zm Y<|BX (VP (m:=32) Y Y A0 A0)<|BX (NS Y Y A0)<|Zv (Pj Y Y)<|B2 Y<|Zn [4] ?_;refine Zx<|AL<|AO V results289 Y (by
  have e:32 -m=n:=by omega
  exact ⟨by rw [e,o6 x n m h0 g B],rfl⟩)
theorem A62(x:UInt32)(l:List UInt32)(n:UInt32):YJ x (l++[n])=YJ x l^^^uf x n:=by simp [YJ]
def uP(n:Nat):A2:=I4 (n:Int)
theorem nN{α β:Type}(f:α->β)(l:List α)(k:Nat)(d:α)(h:k<l.length):(l.take (k+1)).map f=(l.take k).map f++[f (l.getD k d)]:=by
 rw [rK h,CN];simp [OR,BT h]
theorem YV{α:Type}(f:α->A2)(l:List α)(k:Nat)(d:α)(h:k<l.length):(l.map f).toArray[k]?=some (f (l.getD k d)):=by
 simp [BT h,OR]
theorem Ij(x:UInt32)(l:List Nat)(g cap:Nat)(T:AM)(z:Nat×Nat)(I:∀n∈l,0<n/\n<32)(hn:l.length<=100):
 Au prog 230 #[.int .u32 x.toNat,I6 g l.length cap] [[(g,.cells (l.map uP).toArray T z)]] (.int .u32 (YJ x (l.map UInt32.ofNat)).toNat):=by
 refine Se func230 ntmps230 [0,1] ?_;intro u R;refine A3<|AH Y<|A3<|AH Y<|B8 Y<|Zv (AR DP Y)<|Zm Y<|A4<|AQ<|Zb [5,10,0,8,9] ?_;refine Aw (e0:=[(5,_),(10,_)]) (fun m e H=>∃k:Nat,m=l.length -k/\(k<=l.length)/\e=[(5,.int .u32 ((YJ x ((l.take k).map UInt32.ofNat)).toNat:Int)),(10,I4 (k:Int))]/\H=[]) (by exact ⟨0,V,CM _,V,V⟩) Wp ?_;rintro _ _ _ ⟨k,rfl,J,rfl,rfl⟩;refine A3<|Zv (Ap Y Y)<|A4<|Zq<|Ak Y (fun G=>?_) (fun G=>?_);·
  refine B3<|Zq<|AQ<|A3<|BX (Bd DP A6 Y Y A0)<|Zl AE Y (hv:=by exact YV uP l k 0 A0)<|B2 Y<|Zx ?_;have B:=I (l.getD k 0) (by rw [OR,BT A0];exact tI _)
  refine Zg<|Zm Y<|Zm Y<|Zm Y<|LM (lS (c:=-(l.getD k 0:Int)) Y (by rw [Int.zero_sub];exact IntWalk.i64_in _ A0)) rfl rfl<|Xr [_,_] Y call289 Y rfl (o5 _ _ B.1 B.2)<|Zv (Gv Y Y)<|B2 Y<|AA<|Zx<|Dg Y Y Y<|DG (e:=[(5,_),(10,_)]) (h:=by exact ⟨k+1,rfl,by omega,by rw [nN _ _ _ 0 A0,A62],rfl⟩)
 refine BA<|Zt<|Zt<|AX<|Zx<|AK Y<|An Y<|AO V results230 Y (by
  have e:k=l.length:=by omega
  exact ⟨by rw [e,HE],rfl⟩)
def Ev(l:List UInt32):List A2:=l.map CW++List.replicate (64 -l.length) (.int .u32 0)
theorem DD(l:List UInt32)(h:l.length<=64):(Ev l).length=64:=by simp [Ev];omega
theorem fT(l:List UInt32)(i:Nat)(h:i<l.length):(Ev l).toArray[i]?=some (CW (l.getD i 0)):=by
 simp [Ev,sB,h,OR]
theorem fP(l:List UInt32)(x:UInt32)(h:l.length<64):(Ev l).toArray.setIfInBounds l.length (CW x)=(Ev (l++[x])).toArray:=by
 rw [rL];congr 1;unfold Ev;rw [nB _ _ B7];simp only [Bk,W5,C0,F2,MY];obtain ⟨n,hn⟩:∃n,64 -l.length=n+1:=⟨63 -l.length,by omega⟩;rw [hn,show 64 -(l.length+(0+1))=n by omega];simp [List.replicate_succ]
theorem RI(b:List UInt8)(k:Nat)(x:UInt32)(h:k<64)(hx:GU b (k+1)=GU b k++[x]):(Ev (GU b k)).toArray.setIfInBounds k (.int .u32 (x.toNat:Int))=(Ev (GU b (k+1))).toArray:=by
 have:=fP (GU b k) x (by rw [Cr];exact h);rw [Cr]at this;rw [hx];exact this
theorem fQ(l:List UInt32):∀v∈(Ev l).toArray.toList,v.oneCell'=true:=by
 intro v hv;simp only [Ev,CD,CI,List.mem_replicate]at hv;rcases hv with⟨x,_,rfl⟩|⟨_,rfl⟩<;>rfl
theorem ZI(l:List UInt32)(h:l.length=64):Ev l=l.map CW:=by simp [Ev,h]
theorem tT(b:List UInt8)(k:Nat)(h:k<16):GU b (k+1)=GU b k++[fI b k]:=by rw [GU,Ax h]
theorem tV(b:List UInt8)(k:Nat)(h:16<=k):GU b (k+1)=GU b k++[wI (GU b k) k]:=by rw [GU,As A0]
def Nj(c:AN)(o:Nat)(bs:List UInt8):Prop:=(c.toList.drop o).take bs.length=bs.map u8v
theorem Nj.get{c:AN}{o:Nat}{bs:List UInt8}(h:Nj c o bs)(j:Nat)(m:j<bs.length):c[o+j]?=some (u8v (bs.getD j 0)):=by
 have g:((c.toList.drop o).take bs.length)[j]?=(bs.map u8v)[j]?:=by rw [h]
 rw [HR,Ax m,Pc,E6,BT m]at g;rw [Hx]at g;rw [g];simp [OR,BT m]
theorem Kz(b:List UInt8)(k i:Nat)(h:i<k):(Ev (GU b k)).toArray[i]?=some (CW ((GU b k).getD i 0)):=fT _ _ (by rw [Cr];exact h)
theorem gJ(g o cap:Nat)(c:AN)(T:AM)(z:Nat×Nat)(bs:List UInt8)(hb:bs.length=64)(hc:Nj c o bs):
 Au prog 229 #[.slice (some ⟨g,o,none⟩) 64 cap] [[(g,.cells c T z)]] (.agg ((lJ bs).map CW).toArray):=by
 refine Se func229 ntmps229 [0] ?_;intro u R;refine A3<|Ze (FM zeroValue364 (cs:=(Ev []).toArray) AD)<|AF fun J=>A4<|B8 Y<|A4<|AQ<|Zb [7,0,2] ?_;refine Aw (e0:=[(7,_)]) (fun m e H=>∃k:Nat,m=16 -k/\(k<=16)/\e=[(7,I4 (k:Int))]/\H=[[(J,.cells (Ev (GU bs k)).toArray 364 (0,0))]]) (by exact ⟨0,V,CM _,V,V⟩) Wp ?_;rintro _ _ _ ⟨k,rfl,K,rfl,rfl⟩;refine A3<|Zv (Ap (n:=16) Y Y)<|A4<|Zq<|Ak Y (fun G=>?_) (fun G=>?_);·
  refine B3<|Zq<|AQ<|AK Y<|AH Y<|Ay (n:=36) (0::0::0::4::14::30::62::126::0::0::512::1536::3840::7936::16128::32512::65534::0::0::262144::786432::1966080::4063232::8257536::16646144::33554430::0::0::134217728::402653184::1006632960::2080374784::4227858432::8589934590::17179869183::34359738367::[]) 34359738368 AD AD rfl<|A1 0 rfl (AP Y)<|A1 1 rfl (AP Y)<|A1 2 rfl (AP Y)<|A1 3 rfl (Em (m:=4) Y Y A0)<|A1 4 rfl (Bg Hi Ks Y Y (by first|omega|(rw [Hs,DD _ (by rw [Cr];omega)];omega)))<|Bm 5 rfl V0 Y (hv:=by exact hc.get _ A0) ?_;refine A1 6 rfl (IV N0 Sp Y)<|A1 7 rfl (NT (n:=24) Y Y A0)<|A1 8 rfl (AP Y)<|A1 9 rfl (AP Y)<|A1 10 rfl (Em (m:=4) Y Y A0)<|A1 11 rfl (EP (n:=1) Y Y A0)<|A1 12 rfl (Bg Hi Ks Y Y (by first|omega|(rw [Hs,DD _ (by rw [Cr];omega)];omega)))<|Bm 13 rfl V0 Y (hv:=by exact hc.get _ A0) ?_;refine A1 14 rfl (IV N0 Sp Y)<|A1 15 rfl (NT (n:=16) Y Y A0)<|A1 16 rfl (Pj Y Y)<|A1 17 rfl (AP Y)<|A1 18 rfl (AP Y)<|A1 19 rfl (Em (m:=4) Y Y A0)<|A1 20 rfl (EP (n:=2) Y Y A0)<|A1 21 rfl (Bg Hi Ks Y Y (by first|omega|(rw [Hs,DD _ (by rw [Cr];omega)];omega)))<|Bm 22 rfl V0 Y (hv:=by exact hc.get _ A0) ?_;refine A1 23 rfl (IV N0 Sp Y)<|A1 24 rfl (NT (n:=8) Y Y A0)<|A1 25 rfl (Pj Y Y)<|A1 26 rfl (AP Y)<|A1 27 rfl (AP Y)<|A1 28 rfl (Em (m:=4) Y Y A0)<|A1 29 rfl (EP (n:=3) Y Y A0)<|A1 30 rfl (Bg Hi Ks Y Y (by first|omega|(rw [Hs,DD _ (by rw [Cr];omega)];omega)))<|Bm 31 rfl V0 Y (hv:=by exact hc.get _ A0) ?_;refine A1 32 rfl (IV N0 Sp Y)<|A1 33 rfl (Pj Y Y)<|A1 34 rfl (BL cJ HI Y Y (by first|omega|(rw [Hs,DD _ (by rw [Cr];omega)];omega)))<|Yw 35 68719476735 rfl (Zs HI Y Y rfl (hc:=by exact RI bs k (fI bs k) A0 (tT bs k A0)) (hi:=by(rw [Hs,DD _ (by rw [Cr];omega)];omega)))<|F0<|Aq<|Zn [0,2,7] ?_;refine AA<|Zx<|Dg Y Y Y<|HJ (by exact ⟨k+1,V,by omega,V,V⟩)
 refine BA<|Zt<|Zt<|AX<|Zx<|Zq<|A3<|AH Y<|AQ ?_;have B:k=16:=by omega
 subst B;refine Zb [4,2] ?_;refine Aw (e0:=[(4,_)]) (fun m e H=>∃k:Nat,m=64 -k/\(16<=k/\k<=64)/\e=[(4,I4 (k:Int))]/\H=[[(J,.cells (Ev (GU bs k)).toArray 364 (0,0))]]) (by exact ⟨16,V,by omega,V,V⟩) Wp ?_;rintro _ _ _ ⟨k,rfl,⟨O,K⟩,rfl,rfl⟩;refine B8 Y<|Zv (Ap (n:=64) Y Y)<|A4<|Ak Y (fun I=>?_) (fun I=>?_);·
  refine B3<|Zq<|AQ<|Zq<|Ay (n:=10) (0::1::3::7::0::16::48::112::15::511::[]) 0 AD AD V<|A1 0 V (AP Y) ?_
  (refine F5 (D':=3) 1 (CQ (n:=15) Y Y ?_ ?_) ?_;(focus (omega));(focus (omega)))
  refine A1 2 V (BL cJ HI Y Y A0)<|Bm 3 V It Y (hv:=by exact Kz bs k _ A0) ?_;refine A1 4 V (AP Y) ?_
  (refine F5 (D':=63) 5 (CQ (n:=2) Y Y ?_ ?_) ?_;(focus (omega));(focus (omega)))
  refine A1 6 V (BL cJ HI Y Y A0)<|Bm 7 V It Y (hv:=by exact Kz bs k _ A0) ?_;refine A1 8 V (BC Y)<|A1 9 V (BC Y)<|Aq<|Zx<|Ay (n:=26) (0::0::2::6::14::0::0::96::0::256::992::2046::0::4096::12288::28672::65534::0::0::393440::0::1048576::4063456::8388606::16777215::33554431::[]) 34341056 AD AD V<|A1 0 V (AP Y)<|A1 1 V (AP Y) ?_
  (refine F5 (D':=7) 2 (CQ (n:=16) Y Y ?_ ?_) ?_;(focus (omega));(focus (omega)))
  refine A1 3 rfl (BL cJ HI Y Y (by first|omega|(rw [Hs,DD _ (by rw [Cr];omega)];omega)))<|Bm 4 rfl It Y (hv:=by exact Kz bs k _ A0) ?_;refine A1 5 V (AP Y)<|A1 8 V (AP Y)<|A1 9 V (NS (n:=3) Y Y A0)<|A1 12 V (AP Y) ?_
  (refine F5 (D':=13119) 13 (CQ (n:=7) Y Y ?_ ?_) ?_;(focus (omega));(focus (omega)))
  refine A1 14 rfl (BL cJ HI Y Y (by first|omega|(rw [Hs,DD _ (by rw [Cr];omega)];omega)))<|Bm 15 rfl It Y (hv:=by exact Kz bs k _ A0) ?_;refine A1 17 V (AP Y)<|A1 20 V (AP Y)<|A1 21 V (NS (n:=10) Y Y A0)<|Zz (l:=[6,18])<|BW [true,true] [(15,(_,_)),(4,(_,_))] V rfl (Ah (vs:=[_,_]) (cs:=[_,_]) DP A6 HT Y V rfl V rfl V) ?hk_5 (fun _ _ h=>h.elim) ?hl_5
  case' hk_5=>
   rintro _ _ ⟨U,rfl,rfl⟩;refine C3<|Zz (l:=[7,18])<|BW [true,true] [(15,(_,_)),(4,(_,_))] V rfl (Zu [_,_] Y eI Y V (Ij _ [7,18] _ _ _ _ B0 B0)) ?hk_6 (fun _ _ h=>h.elim) ?hl_6
   case' hk_6=>
    rintro _ _ ⟨rfl,rfl⟩;refine C3<|A1 10 V (Gv Y Y)<|A1 11 V (EC Y Y)<|A1 16 V (EC Y Y)<|Zz (l:=[18])<|BW [true,true] [(15,(_,_)),(4,(_,_))] V rfl (Ah (vs:=[_,_]) (cs:=[_,_]) DP A6 HT Y V rfl V rfl V) ?hk_7 (fun _ _ h=>h.elim) ?hl_7
    case' hk_7=>
     rintro _ _ ⟨W,rfl,rfl⟩;refine C3<|Yz 19 393440 4194303 [15,4] [true,true] [(15,(_,_)),(4,(_,_))] V Y V rfl V rfl (Zu [_,_] Y eI Y V (Ij _ [17,19] _ _ _ _ B0 B0)) ?_
    case' hl_7=>
     exact Aj
   case' hl_6=>
    refine BW [true,true] [(15,(_,_)),(4,(_,_))] V rfl (Ah (vs:=[_,_]) (cs:=[_,_]) DP A6 HT Y V rfl V rfl V) ?hk_11 (fun _ _ h=>h.elim) ?hl_11
    case' hk_11=>
     rintro _ _ ⟨X,rfl,rfl⟩;refine C3<|Yz 7 96 3601407 [15,4] [true,true] [(15,(_,_)),(4,(_,_))] V Y V rfl V rfl (Zu [_,_] Y eI Y V (Ij _ [7,18] _ _ _ _ B0 B0))<|F0<|C3<|A1 10 V (Gv Y Y)<|A1 11 V (EC Y Y)<|A1 16 V (EC Y Y)<|Zz (l:=[19])<|BW [true,true] [(15,(_,_)),(4,(_,_))] V rfl (Zu [_,_] Y eI Y V (Ij _ [17,19] _ _ _ _ B0 B0)) ?hk_13 (fun _ _ h=>h.elim) ?hl_13
     case' hl_13=>
      exact Aj
    case' hl_11=>
     exact Aj
  case' hl_5=>
   refine BW [true,true] [(15,(_,_)),(4,(_,_))] V rfl (Ah (vs:=[_,_]) (cs:=[_,_]) DP A6 HT Y V rfl V rfl V) ?hk_16 (fun _ _ h=>h.elim) ?hl_16
   case' hk_16=>
    rintro _ _ ⟨Z,rfl,rfl⟩;refine C3<|Yz 6 0 3601279 [15,4] [true,true] [(15,(_,_)),(4,(_,_))] V Y V rfl V rfl (Ah (vs:=[_,_]) (cs:=[_,_]) DP A6 HT Y V rfl V rfl V)<|AF fun b6=>C3<|Yz 7 96 3601407 [15,4] [true,true] [(15,(_,_)),(4,(_,_))] V Y V rfl V rfl (Zu [_,_] Y eI Y V (Ij _ [7,18] _ _ _ _ B0 B0))<|F0<|C3<|A1 10 V (Gv Y Y)<|A1 11 V (EC Y Y)<|A1 16 V (EC Y Y)<|Zz (l:=[19])<|BW [true,true] [(15,(_,_)),(4,(_,_))] V rfl (Zu [_,_] Y eI Y V (Ij _ [17,19] _ _ _ _ B0 B0)) ?hk_19 (fun _ _ h=>h.elim) ?hl_19
    case' hl_19=>
     exact Aj
   case' hl_16=>
    exact Aj
  all_goals
   rintro _ _ ⟨rfl,rfl⟩;refine C3<|A1 22 rfl (Gv Y Y)<|A1 23 rfl (EC Y Y)<|A1 24 rfl (BL cJ HI Y Y (by first|omega|(rw [Hs,DD _ (by rw [Cr];omega)];omega)))<|Yw 25 67108863 rfl (Zs HI Y Y rfl (hc:=by exact RI bs k (wI (GU bs k) k) A0 (tV bs k A0)) (hi:=by(rw [Hs,DD _ (by rw [Cr];omega)];omega)))<|F0<|Aq<|Zn [2,4] ?_;refine AA<|Zx<|Zg<|Zm Y<|Ya (n:=1) Y Y<|B2 Y<|HJ (by exact ⟨k+1,V,by omega,V,V⟩)
 refine BA<|Zt<|Zt<|AX<|C6<|Zo Wh (A9 isAgg364 sizeOf364 Y (by(rw [Hs,DD _ (by rw [Cr];omega)];omega)) (by exact Io _ _ (by rw [Hs,DD _ (by rw [Cr];omega)]))) ?_;refine Xe (BJ sizeOf364 Y Y (by exact fQ _) Wu (by exact A53 _) (by rw [Hs,DD _ (by rw [Cr];omega)]) (by(rw [Hs,DD _ (by rw [Cr];omega)];omega)) (by exact BB _)) ?_;refine A4<|AL<|D7 rfl results229 Y Wh (Av isAgg364 sizeOf364 (by(rw [Hs,DD _ (by rw [Cr];omega)];omega)) (Io _ _ (by rw [Hs,DD _ (by rw [Cr];omega)]))) (by
  have e:k=64:=by omega
  exact ⟨by rw [e,ZI _ (Cr _ _)];rfl,rfl⟩)
def v8c(v:V8):AN:=#[CW v.a,CW v.b,CW v.c,CW v.d,CW v.e,CW v.f,CW v.g,CW v.h]
theorem A01(v:V8):v8c v=(v.list.map CW).toArray:=rfl
theorem yg(k:Nat)(h:k<64):(Dn.map CW).toArray[k*1]?=some (CW (Dn.getD k 0)):=by rw [O2];exact YV CW Dn k 0 (by rw [ww];exact h)
def XH(x y:V8)(i:Nat):List UInt32:=(mn x y).list.take i++x.list.drop i
theorem Nc(x y:V8)(i:Nat)(h:i<=8):(XH x y i).length=8:=by
 have:(mn x y).list.length=8:=rfl;have h2:x.list.length=8:=rfl
 simp [XH,this,h2];omega
theorem qQ(x y:V8)(i:Nat)(h:i<8):((XH x y i).map CW).toArray[i]?=some (CW (x.list.getD i 0)):=by
 have:i=0\/i=1\/i=2\/i=3\/i=4\/i=5\/i=6\/i=7:=by omega
 rcases this with rfl|rfl|rfl|rfl|rfl|rfl|rfl|rfl<;>rfl
theorem u6(y:V8)(i:Nat)(h:i<8):(v8c y)[i]?=some (CW (y.list.getD i 0)):=by
 have:i=0\/i=1\/i=2\/i=3\/i=4\/i=5\/i=6\/i=7:=by omega
 rcases this with rfl|rfl|rfl|rfl|rfl|rfl|rfl|rfl<;>rfl
theorem qP(x y:V8)(i:Nat)(h:i<8):((XH x y i).map CW).toArray.setIfInBounds i (.int .u32 ((x.list.getD i 0+y.list.getD i 0).toNat:Int))=((XH x y (i+1)).map CW).toArray:=by
 have:i=0\/i=1\/i=2\/i=3\/i=4\/i=5\/i=6\/i=7:=by omega
 rcases this with rfl|rfl|rfl|rfl|rfl|rfl|rfl|rfl<;>rfl
theorem fq(x:V8)(k:Nat)(m:List UInt32)(v:V8)(hx:x=MO m v k):
 ((#[CW x.a,CW x.a,CW x.b,CW x.c,CW x.d,CW x.e,CW x.f,CW x.g]:AN).setIfInBounds 0 (.int .u32 ((Gw.Dh x (Dn.getD k 0) (m.getD k 0)+ts x).toNat:Int))).setIfInBounds 4 (.int .u32 ((x.d+Gw.Dh x (Dn.getD k 0) (m.getD k 0)).toNat:Int))=v8c (MO m v (k+1)):=by
 subst hx;rfl
theorem nY(bs:List UInt8):(lJ bs).length=64:=Cr bs 64
theorem A24(g:List UInt32)(h:g.length=64):((g.map CW).toArray).size=64:=by rw [Hs,Bk,h]
theorem A25(g:List UInt32)(h:g.length=64):ET (Ev []).toArray 0 ((g.map CW).toArray).toList=(g.map CW).toArray:=
 av (Ev []).toArray (g.map CW) (by rw [Bk,h];rfl)
theorem AE4:0+64<=((Ev []).toArray).size:=by rw [Hs,DD _ (CM _)];exact D0 _
theorem l6(v:V8):∀x∈(v8c v).toList,x.oneCell'=true:=by
 intro x hx;rw [A01]at hx;simp only [CI]at hx;obtain ⟨y,_,rfl⟩:=hx;rfl
theorem A05(l:List UInt32):∀x∈(l.map CW).toArray.toList,x.oneCell'=true:=by
 intro x hx;simp only [CI]at hx;obtain ⟨y,_,rfl⟩:=hx;rfl
theorem AD5(J g o cap:Nat)(c:AN)(T:AM)(z:Nat×Nat)(bs:List UInt8)(hb:bs.length=64)(hc:Nj c o bs)(K X:AM)(zg:Nat×Nat)(v:V8):
 BS prog 148 #[I5 J,.slice (some ⟨g,o,none⟩) 64 cap] [[(J,.cells (v8c v) K (0,0))],[(g,.cells c T z)],[(0,.cells (Dn.map CW).toArray X zg)]]
  (fun r H'=>r= .tuple #[]/\H'=[[(J,.cells (v8c (Yp v bs)) K (0,0))],[(g,.cells c T z)],[(0,.cells (Dn.map CW).toArray X zg)]]):=by
 refine LB func148 V ntmps148 V ?_;intro u R;obtain ⟨B,G⟩:∃B,B=lJ bs:=⟨_,rfl⟩;have Z:B.length=64:=by rw [G];exact nY bs
 have I:=gJ g o cap c T z bs hb hc;rw [<-G]at I;have O:Yp v bs=mn v (MO B v 64):=by rw [G];rfl
 clear G;rw [O];refine Zb [0,1] ?_;refine AK Y<|Xr [_] Y call229 Y V (I) ?_;refine Ze (FM zeroValue364 (cs:=(Ev []).toArray) AD)<|AF fun bw=>Xe (BJ sizeOf364 Y Y (by exact A05 _) Wu (by exact A25 B Z) (by exact A24 B Z) (by exact AE4) (by exact BB _)) ?_;refine A4<|AK Y<|Zp Y V<|Zo Wh (A9 (cs:=v8c v) isAgg262 sizeOf262 Y Wn B1) ?_;refine Ze (Al zeroValue262 #[_,_,_,_,_,_,_,_])<|AF fun bv=>Xe (BJ sizeOf262 Y Y (by exact l6 v) Wu (by exact (rfl:_=v8c (MO B v 0))) G4 Wn (by exact BB _)) ?_;refine A4<|Zq<|A3<|Zo Wh (A9 (cs:=(Dn.map CW).toArray) isAgg364 sizeOf364 Y (by exact D0 _) (by exact Io _ _ V)) ?_;refine Zm Y<|A4<|AQ<|Zb [19,0,4,5,18] ?_;refine Aw (e0:=[(19,_)]) (fun m e H=>∃k:Nat,m=64 -k/\(k<=64)/\e=[(19,I4 (k:Int))]/\H=[[(bv,.cells (v8c (MO B v k)) 262 (0,0))]]) (by exact ⟨0,V,CM _,V,V⟩) Wp ?_;rintro _ _ _ ⟨k,rfl,hk,rfl,rfl⟩;obtain ⟨x,hx⟩:∃x,x=MO B v k:=⟨_,rfl⟩;rw [<-hx];refine A3<|Zv (Ap (n:=64) Y Y)<|A4<|Zq<|Ak Y (fun U=>?_) (fun U=>?_);·
  refine B3<|Zq<|AQ<|AK Y<|Zv (RZ cJ It HI Y Y A0 (by exact yg k A0))<|Za Y<|CT Y<|Ay (n:=6) (0::1::0::4::3::31::[]) 0 AD AD V<|A1 0 V (BL (j:=0) Mu HI Y Y A0)<|Bm 1 V It Y ?_;refine A1 2 V (BL (j:=4) Mu HI Y Y A0)<|Bm 3 V It Y ?_;refine A1 4 V (BC Y)<|A1 5 V (BC Y)<|Aq<|Zx<|Zq<|Ay (n:=24) (0::1::0::0::12::31::0::0::128::448::0::1024::0::4096::15360::32704::65535::0::262143::0::524288::1572864::4194303::8388607::[]) 24 AD AD V<|A1 0 V (BL (j:=7) Mu HI Y Y A0)<|Bm 1 V It Y ?_;refine A1 2 V (AP Y)<|A1 6 V (AP Y)<|A1 7 V (BL (j:=5) Mu HI Y Y A0)<|Bm 8 V It Y ?_;refine A1 9 V (Kc Y Y)<|A1 10 V (AP Y)<|A1 11 V (oZ Y)<|A1 12 V (BL (j:=6) Mu HI Y Y A0)<|Bm 13 V It Y ?_;refine A1 14 V (Kc Y Y)<|A1 15 V (Gv Y Y)<|A1 17 V (AP Y)<|A1 19 V (AP Y)<|A1 20 V (BL cJ HI Y Y A0)<|Bm 21 V It Y (hv:=by exact YV CW B k 0 A0) ?_;refine Yz 3 0 3866575 [21,13,8,1] [true,true,true,true] [(21,(_,_)),(13,(_,_)),(8,(_,_)),(1,(_,_))] V Y V rfl V rfl (Ah (vs:=[_,_,_]) (cs:=[_,_,_]) DP A6 HT Y V rfl V rfl V)<|AF fun b3=>C3<|Yz 4 12 3866591 [21,13,8,1] [true,true,true,true] [(21,(_,_)),(13,(_,_)),(8,(_,_)),(1,(_,_))] V Y V rfl V rfl (Zu [_,_] Y eI Y V (Ij _ [6,11,25] _ _ _ _ B0 B0))<|F0<|C3<|A1 5 V (EC Y Y)<|A1 16 V (EC Y Y)<|A1 18 V (EC Y Y)<|A1 22 V (EC Y Y)<|A1 23 V (BC Y)<|Aq<|Zn [0,4,5,8,10,18,19] ?_;refine Zx<|Zq<|Ay (n:=20) (0::0::3::0::0::16::56::0::0::256::896::2040::0::4096::0::16384::61440::131064::262143::524287::[]) 6 AD AD V<|A1 0 V (AP Y)<|A1 3 V (AP Y)<|A1 4 V (BL (j:=1) Mu HI Y Y A0)<|Bm 5 V It Y ?_;refine A1 6 V (Kc Y Y)<|A1 7 V (AP Y)<|A1 8 V (BL (j:=2) Mu HI Y Y A0)<|Bm 9 V It Y ?_;refine A1 10 V (Kc Y Y)<|A1 11 V (Gv Y Y)<|A1 12 V (BL (j:=1) Mu HI Y Y A0)<|Bm 13 V It Y ?_;refine A1 14 V (BL (j:=2) Mu HI Y Y A0)<|Bm 15 V It Y ?_
  refine A1 16 V (Kc Y Y)<|A1 17 V (Gv Y Y)<|Zz (l:=[1])<|BW [true,true,true,true] [(15,(_,_)),(13,(_,_)),(9,(_,_)),(5,(_,_))] V rfl (Ah (vs:=[_,_,_]) (cs:=[_,_,_]) DP A6 HT Y V rfl V rfl V) ?_ (fun _ _ h=>h.elim) Aj;rintro _ _ ⟨b4,rfl,rfl⟩;refine C3<|Yz 2 3 262143 [15,13,9,5] [true,true,true,true] [(15,(_,_)),(13,(_,_)),(9,(_,_)),(5,(_,_))] V Y V rfl V rfl (Zu [_,_] Y eI Y V (Ij _ [2,13,22] _ _ _ _ B0 B0))<|F0<|C3<|A1 18 V (EC Y Y)<|A1 19 V (BC Y)<|Aq<|Zn [0,4,5,10,11,18,19] ?_;refine Zx<|Zq<|Ay (n:=3) (0::0::3::[]) 4 AD AD V<|A1 0 V (Qn (l:=1) Mu HI Y Y A0)<|A1 1 V (UA (h:=7) Mu HI Y Y A0)<|Yw 2 7 V (xF (cs:=[_,_,_,_,_,_,_]) (c':=#[_,_,_,_,_,_,_,_]) underlying367 HI Y Y Wh Wu B1 B1 B1 (by exact D0 8) (BB _) (by simp [Value.oneCell',CW]))<|F0<|Aq<|Zx<|Zg<|Zm Y<|Zm Y<|Zv (EC Y Y)<|BX (BL (j:=4) Mu HI Y Y A0)<|Zl It Y ?_;refine Zm Y<|Zv (EC Y Y)<|BX (BL (j:=0) Mu HI Y Y A0)<|Xe (Zs HI Y Y V) ?_;refine BX (BL (j:=4) Mu HI Y Y A0)<|Xe (Zs HI Y Y V (hc:=by exact (fq x k B v hx))) ?_;refine Z0<|Zn [0,4,5,18,19] ?_;refine AA<|Zx<|Dg Y Y Y<|HJ (by exact ⟨k+1,V,by omega,V,V⟩)
 refine BA<|Zt<|Zt<|AX<|Zx<|AK Y<|A4<|AQ ?_;have ek:k=64:=by omega
 subst ek;refine Zb [82,0,5] ?_;refine Aw (e0:=[(82,_)]) (fun m e H=>∃i:Nat,m=8 -i/\(i<=8)/\e=[(82,I4 (i:Int))]/\H=[[(J,.cells ((XH v x i).map CW).toArray K (0,0))]]) (by exact ⟨0,V,CM _,V,V⟩) Wp ?_;rintro _ _ _ ⟨i,rfl,hi,rfl,rfl⟩;refine A3<|Zv (Ap (n:=8) Y Y)<|A4<|Zq<|Ak Y (fun W=>?_) (fun W=>?_);·
  refine B3<|Zq<|AQ<|AK Y<|AH Y<|Ay (n:=12) (0::0::1::7::15::0::32::96::255::1::1023::2047::[]) 2048 AD AD rfl<|A1 0 rfl (AP Y)<|A1 1 rfl (AP Y)<|A1 2 rfl (Ao Y rfl)<|A1 3 rfl (BL Mu HI Y Y (by first|omega|(rw [Hs,Bk,Nc _ _ _ A0];omega)))<|Bm 4 rfl It Y (hv:=by exact qQ _ _ i A0) ?_;refine A1 5 rfl (AP Y)<|A1 6 rfl (BL Mu HI Y Y (by first|omega|(rw [Hs,Bk,Nc _ _ _ A0];omega)))<|Bm 7 rfl It Y (hv:=by exact u6 _ i A0) ?_;refine A1 8 rfl (EC Y Y)<|A1 9 rfl (Ao Y rfl)<|A1 10 rfl (BL Mu HI Y Y (by first|omega|(rw [Hs,Bk,Nc _ _ _ A0];omega)))<|Yw 11 4095 rfl (Zs HI Y Y rfl (hc:=by exact qP _ _ i A0) (hi:=by(rw [Hs,Bk,Nc _ _ _ A0];omega)))<|F0<|Aq<|Zn [0,5,82] ?_;refine AA<|Zx<|Dg Y Y Y<|HJ (by exact ⟨i+1,V,by omega,V,V⟩)
 have ei:i=8:=by omega
 subst ei;rw [<-hx];refine BA<|Zt<|Zt<|AX<|DC V results148 (by exact ⟨V,V⟩)
def U7(N:Nat)(l:List UInt8):AN:=(l.map u8v++List.replicate (N -l.length) (Value.int .u8 0)).toArray
theorem A49(N:Nat)(l:List UInt8)(x:UInt8)(k:Nat)(g:k=l.length)(h:l.length<N):(U7 N l).setIfInBounds k (.int .u8 (x.toNat:Int))=U7 N (l++[x]):=by
 subst g;unfold U7;rw [rL];congr 1;rw [nB _ _ B7];simp only [Bk,W5,C0,F2,MY];obtain ⟨n,hn⟩:∃n,N -l.length=n+1:=⟨N -1 -l.length,by omega⟩;rw [hn,show N -(l.length+(0+1))=n by omega];simp [List.replicate_succ,u8v]
theorem Ww(N:Nat)(l:List UInt8)(h:l.length<=N):(U7 N l).size=N:=by simp [U7];omega
theorem oV(N:Nat)(l:List UInt8)(h:l.length=N):(U7 N l).toList=l.map u8v:=by simp [U7,h]
def Ru(v:V8)(i k:Nat):List UInt8:=(v.list.take i).flatMap Pm++(Pm (v.list.getD i 0)).take k
theorem Pk(v:V8)(i k:Nat)(hi:i<8)(g:k<=4):(Ru v i k).length=4*i+k:=by
 have:i=0\/i=1\/i=2\/i=3\/i=4\/i=5\/i=6\/i=7:=by omega
 rcases this with rfl|rfl|rfl|rfl|rfl|rfl|rfl|rfl<;>simp [Ru,V8.list,Pm]<;>omega
theorem oh(v:V8)(i:Nat)(hi:i<8):Ru v (i+1) 0=Ru v i 4:=by
 have:i=0\/i=1\/i=2\/i=3\/i=4\/i=5\/i=6\/i=7:=by omega
 rcases this with rfl|rfl|rfl|rfl|rfl|rfl|rfl|rfl<;>rfl
theorem og(v:V8)(i k:Nat)(g:k<4):Ru v i (k+1)=Ru v i k++[((v.list.getD i 0)>>>UInt32.ofNat (24 -8*k)).toUInt8]:=by
 have:k=0\/k=1\/k=2\/k=3:=by omega
 unfold Ru;generalize v.list.getD i 0=x;rcases this with rfl|rfl|rfl|rfl
 · simp [Pm]
 · simp [Pm]
 · simp [Pm]
 · have e:x>>>UInt32.ofNat (24 -8*3)=x:=by
    apply UInt32.toNat_inj.1;simp [UInt32.toNat_shiftRight]
   rw [e];simp [Pm]
theorem lU(v:V8):Ru v 8 0=vg v:=rfl
theorem A02(y:V8)(i:Nat)(h:i<8):(v8c y)[i*1]?=some (CW (y.list.getD i 0)):=by rw [O2];exact u6 y i h
theorem dz(v:V8):Au prog 149 #[.agg (v8c v)] [] (.string (str (vg v))):=by
 refine Se func149 ntmps149 [0] ?_;intro u R;refine A3<|Ze (Fu Y (cs:=(v8c v)) AD)<|AF fun K=>AH Y<|A3<|Ze (FM zeroValue368 (cs:=(U7 32 [])) AD)<|AF fun G=>A4<|Zq<|A3<|Zo Wh (A9 (cs:=v8c v) isAgg262 sizeOf262 Y (by exact D0 _) (by exact Io _ _ V))<|Zm Y<|A4<|AQ<|Zb [8,3,7] ?_;refine Aw (e0:=[(8,_)]) (fun m e H=>∃i:Nat,m=8 -i/\(i<=8)/\e=[(8,I4 (i:Int))]/\H=[[(G,.cells (U7 32 (Ru v i 0)) 368 (0,0))]]) (by exact ⟨0,V,CM _,V,V⟩) Wp ?_;rintro _ _ _ ⟨i,rfl,hi,rfl,rfl⟩;refine A3<|Zv (Ap (n:=8) Y Y)<|A4<|Zq<|Ak Y (fun g=>?_) (fun g=>?_);·
  refine B3<|Zq<|AQ<|AK Y<|Zv (RZ Mu It HI Y Y A0 (by exact A02 v i A0))<|Za Y<|AH Y<|AK Y<|A4<|AQ<|Zb [12,3,4,5,7,8] ?_;refine Aw (e0:=[(12,_)]) (fun m e H=>∃k:Nat,m=4 -k/\(k<=4)/\e=[(12,I4 (k:Int))]/\H=[[(G,.cells (U7 32 (Ru v i k)) 368 (0,0))]]) (by exact ⟨0,V,CM _,V,V⟩) Wp ?_;rintro _ _ _ ⟨k,rfl,O,rfl,rfl⟩;refine A3<|Zv (Ap (n:=4) Y Y)<|A4<|Zq<|Ak Y (fun B=>?_) (fun B=>?_);·
   refine B3<|Zq<|AQ<|AK Y<|AH Y<|Zg<|Zm Y<|BX (Em (m:=4) Y Y A0)<|Zm Y<|Ya Y Y<|Zm Y<|Zm Y<|BX (Em (m:=8) Y Y A0)<|Yb (m:=24) Y Y ?_;refine BX (NS Y Y A0)<|Zv (VS Sp N0 Y)<|BX (BL underlying368 Ks Y Y (by first|omega|(rw [Ww _ _ (by rw [Pk _ _ _ A0 A0];omega)];omega)))<|Xe (Zs Ks Y Y rfl (hc:=by exact (A49 32 (Ru v i k) _ _ (by rw [Pk _ _ _ A0 A0]) (by rw [Pk _ _ _ A0 A0];omega)).trans (congrArg (U7 32) (og v i k A0).symm)) (hi:=by(rw [Ww _ _ (by rw [Pk _ _ _ A0 A0];omega)];omega)))<|Z0<|Zn [3,4,5,7,8,12] ?_;refine AA<|Zx<|Dg Y Y Y<|HJ (by exact ⟨k+1,V,by omega,V,V⟩)
  have J:k=4:=by omega
  subst J;refine BA<|Zt<|Zt<|AX<|AA<|Zx<|Dg Y Y Y<|DG (e:=[(8,_)]) (h:=by exact ⟨i+1,rfl,by omega,rfl,by rw [oh v i A0]⟩)
 have I:i=8:=by omega
 subst I;refine BA<|Zt<|Zt<|AX<|C6<|Zv (FY underlying368 Ks Y)<|Zo Wh (Kb Hi N0 GW Y (by exact ⟨(by rw [oV 32 (Ru v 8 0) (by rw [lU];rfl)];exact Kx (by rw [SU,Bk,lU];exact D0 32)),rfl⟩))<|An Y<|AO rfl results149 Y q5
def R8(g j:Nat):A2:= .slice (some ⟨g,64*j,none⟩) 64 64
theorem AB9(g k M:Nat)(h:k<M):Value.slice (some ⟨g,0+64*k*1,none⟩) (64*k+min 64 (64*M -64*k) -64*k) (64*k+min 64 (64*M -64*k) -64*k)=R8 g k:=by
 have m:64*k+min 64 (64*M -64*k) -64*k=64:=by omega
 have h2:0+64*k*1=64*k:=by omega
 rw [m,h2];rfl
theorem aR(M k:Nat)(h:k<M):List.range M=List.range k++k::(List.range' (k+1) (M -k -1)):=by
 rw [s8,s8,<-nq];rw [show M -k -1+1=M -k by omega];have:=List.range'_append_1 (s:=0) (m:=k) (n:=M -k)
 rw [show 0+k=k by omega,show k+(M -k)=M by omega]at this;exact this.symm
theorem kI(g cap M:Nat)(bs O:Nat)(hM:64*M<=cap)(hc:cap<=maxLen):
 VD prog 228 #[I5 bs,I5 O] [[(bs,.cells #[I6 g (64*M) cap] 157 (0,0))],[(O,.cells #[I4 64] 3 (0,0))]] (fun j=>#[R8 g j]) (List.range M):=by
 have X:=mL;intro l J hy s G;refine Se func228 ntmps228 [0,1,2] ?_;intro u R;refine A3<|AH Y<|AQ<|Zb [4,0,1,2] ?_;refine Aw (e0:=[(4,_)]) (fun m e H=>∃(k:Nat) (s:List A8),m=M -k/\(k<=M/\J (List.range k) s)/\e=[(4,I4 ((64*k:Nat):Int))]/\H=[s]) (by exact ⟨0,s,V,⟨CM _,G⟩,V,V⟩) Wp ?_;rintro _ _ _ ⟨k,s,rfl,⟨hk,G⟩,rfl,rfl⟩;refine B8 Y<|Zl S5 Y ?_;refine Zv (AR Hi Y)<|Zv (Ap Y Y)<|A4<|Ak Y (fun K=>?_) (fun K=>?_);·
  refine B3<|Zq<|AQ<|Zq<|Ay (n:=7) (0::0::0::6::14::31::63::[]) 0 AD AD V<|Bm 0 V AE Y ?_;refine Bm 1 V S5 Y ?_;refine A1 2 V (AP Y)<|A1 3 V (Bz Hi Ks Y Y A0)<|A1 4 V (AR Hi Y)<|A1 5 V (Qr Y Y)<|A1 6 V (BC Y)<|Aq<|Zx<|Zq ?_;have B:=hy (List.range k) k _ s (aR M k A0) G
  rw [<-i7]at B;rw [show(fun j=>#[R8 g j]) k=#[R8 g k] from rfl,<-AB9 g k M A0]at B;refine Zg<|Zm Y<|Zl S5 Y ?_;refine Zm Y<|Zm Y<|Zm Y<|Ya Y Y<|Zm Y<|Zm Y<|Ya Y Y ?_
  (refine BX (U9 Hi Ks Y Y Y Y ?_ ?_) ?_;(focus ((simp only [Nat.min_def];split<;>omega)));(focus (omega)))
  refine Ze (GH (vs:=[_]) Y Y (B) Wp) ?_;rintro _ _ ⟨_,⟨Z,rfl,rfl,I⟩,rfl⟩;refine Zv (Bo Y)<|Z0<|Zn [0,1,2,4,30] ?_;refine Zx<|AY Y (fun U=>by cases U)<|fun U=>AC<|AA<|Zx<|Zg<|Zm Y<|Zl AE Y ?_;refine Yi Y Y<|B2 Y<|HJ (by exact ⟨k+1,Z,V,⟨by omega,I⟩,V,V⟩)
 have W:k=M:=by omega
 subst W;refine BA<|Zt<|Zt<|AX<|DC V results228 (by exact ⟨s,V,G⟩)
theorem kH(p:BE)(n cap:Nat):BS prog 147 #[.slice p n cap,I4 64] [] (fun r H'=>∃bs m,r= .func (.func 228) #[] #[I5 bs,I5 m]/\H'=[[(bs,.cells #[.slice p n cap] 157 (0,0))],[(m,.cells #[I4 64] 3 (0,0))]]):=by
 refine Se func147 ntmps147 [0,1] ?_;intro u R;refine A3<|Ze (Bx #[_])<|AF fun B=>Ze (Bx #[_])<|AF fun G=>CT Y<|A3<|Zl AE Y<|Zv (Ap (n:=1) Y Y)<|A4<|Ak Y (fun g=>?_) (fun g=>?_);·
  exact absurd g B0
 refine AC<|C6<|Zv (Be (vs:=[]) (us:=[_,_]) Y Y)<|An Y<|AO V results147 Y (by exact ⟨B,G,V,V⟩)
theorem Ro:∀(n:Nat) (h:V8) (b:List UInt8),Jd (n+1) h b=Yp (Jd n h b) ((b.drop (64*n)).take 64)
 |0,h,b=>by simp [Jd]
 |n+1,h,b=>by
  rw [Jd,Ro n,Jd,cG];rw [show 64+64*n=64*(n+1) by omega]
def Rt(l:List UInt8)(k:Nat):List UInt8:=l++[128]++List.replicate k 0
theorem Mc(l:List UInt8)(k:Nat):(Rt l k).length=l.length+1+k:=by simp [Rt];omega
theorem oP(l:List UInt8)(k:Nat):(Rt l k).map u8v++[.int .u8 0]=(Rt l (k+1)).map u8v:=by
 unfold Rt;rw [List.replicate_succ'];simp [u8v]
def VN(l:List UInt8)(j:Nat):List UInt8:=Rt l (Lt l.length)++(Rw l.length).take j
theorem oQ(l:List UInt8):VN l 0=Rt l (Lt l.length):=by simp [VN]
theorem Wv(l:List UInt8):VN l 8=H8 l:=by
 have:(Rw l.length).take 8=Rw l.length:=Kx (by simp [Rw]);simp [VN,Rt,H8,this]
theorem A71(n j:Nat)(h:j<8):(Rw n).take (j+1)=(Rw n).take j++[UInt8.ofNat (8*n/2^(8*(7 -j)))]:=by
 rw [rK (by simp [Rw];omega)];simp [Rw]
theorem oU(l:List UInt8)(j q:Nat)(h:q+j=7):(VN l j).map u8v++[.int .u8 ((UInt8.ofNat (8*l.length/2^(8*q))).toNat:Int)]=(VN l (j+1)).map u8v:=by
 unfold VN;rw [A71 _ _ A0,show 7 -j=q by omega];simp [u8v]
theorem aj(l:List UInt8)(j:Nat)(h:j<=8):(VN l j).length=l.length+1+Lt l.length+j:=by
 have:(Rw l.length).length=8:=by simp [Rw]
 simp [VN,Mc,this];omega
theorem vf(m:Nat):IntKind.u8.wrap (m:Int)=((UInt8.ofNat m).toNat:Int):=by
 rw [IntKind.wrap_u8',UInt8.toNat_ofNat'];omega
theorem AD7(n k:Nat)(g:k<=Lt n)(h:(n+1+k)%64≠56):k<Lt n:=by
 have:=kZ n;rcases Fi k (Lt n)with h1|h1
 · exact h1
 · have:k=Lt n:=by omega
   subst this;contradiction
theorem AD8(n k:Nat)(g:k<=Lt n)(h:(n+1+k)%64=56):k=Lt n:=by
 unfold Lt at g⊢;omega
theorem oC{M x:Nat}{pre g:List Nat}(h:List.range M=pre++x::g):x=pre.length/\x<M:=by
 have m:(List.range M)[pre.length]?=some x:=by rw [h];simp
 have B:pre.length<M:=by
  have:=(C7.1 m).1;simpa using this
 rw [Wr B]at m;have:=SP m
 omega
theorem eQ{cur:AN}{p:List UInt8}(h:cur.toList.take (p.map u8v).length=p.map u8v)(k:Nat)(m:64*k+64<=p.length):Nj cur (64*k) ((p.drop (64*k)).take 64):=by
 unfold Nj;have g:((p.drop (64*k)).take 64).length=64:=by simp;omega
 rw [g,List.map_take,lf,<-h];rw [ia,Xs];congr 1;simp;omega
theorem ux(l:List UInt8)(M:Nat)(h:(H8 l).length=64*M):sha l=vg (Jd M h0 (H8 l)):=by
 unfold sha;rw [h,Nat.mul_div_cancel_left _ A0]
theorem A07(s:CA)(hs:s.size<=140737488355000)(Tg:AM)(zg:Nat×Nat):
 Au prog 80 #[.string s] [[(0,.cells (Dn.map CW).toArray Tg zg)]] (.string (str (sha s.data.toList))):=by
 have kv:=mL;obtain ⟨l,O⟩:∃l,l=s.data.toList:=⟨_,rfl⟩;have hn:l.length=s.size:=by rw [O];rfl
 have hz:Lt s.size<64:=by unfold Lt;omega
 refine DF func80 V ntmps80 V ?_;intro u R;refine Zb [0] ?_;refine A3<|AH Y<|A3<|Zv (BN (vs:=[(0,_),(1,_),(2,_),(3,_),(4,_),(5,_),(6,_),(7,_)]) (cs:=#[_,_,_,_,_,_,_,_]) Y (Dc zeroValue262 Mu HI V))<|Ze (Al zeroValue262 #[_,_,_,_,_,_,_,_])<|AF fun bh=>Xe (BJ sizeOf262 Y Y (l6 h0) Wu (by exact (rfl:_=v8c (Jd 0 h0 (H8 l)))) G4 Wn (by exact BB _))<|A4<|AK Y<|Ze (AE6 GW Hi N0 Y A0) ?_;rintro _ _ ⟨sa,U,rfl⟩;obtain ⟨ga,ca,rfl⟩:=U.form;refine Ze (Ah (vs:=[_]) (cs:=[_]) Hi Ks RE Y V rfl V rfl V)<|AF fun b3=>Ze (F8 (by_:=1) (news:=[_]) Hi (V:Tryz.prog.info? 5=some Tryz.t5) V rfl V rfl Y U Y Wo Wh B1 V HO B0 (by(simp only [Bk,<-O,hn];omega)) (by(simp only [Bk,<-O,hn];omega))) ?_;rintro _ _ ⟨sb,W,rfl⟩;obtain ⟨gb,cb,rfl⟩:=W.form;refine CT Y<|AQ ?_;have gm:Row 5 (.slice gb (List.map u8v s.data.toList++[Value.int IntKind.u8 128]).length cb) ((Rt l 0).map u8v) sb:=by
  have e:(Rt l 0).map u8v=List.map u8v s.data.toList++[Value.int IntKind.u8 128]:=by rw [<-O];simp [Rt,u8v]
  rw [e];exact W
 refine Zb [4,0,3] ?_;refine Aw (e0:=[(4,_)]) (fun m e H=>∃(k:Nat) (v:A2) (J:List A8),m=Lt s.size -k/\(k<=Lt s.size/\Row 5 v ((Rt l k).map u8v) J)/\e=[(4,v)]/\H=[J]) (by exact ⟨0,_,_,V,⟨CM _,gm⟩,V,V⟩) Wp ?_;rintro _ _ _ ⟨k,v,J,rfl,⟨hk,B⟩,rfl,rfl⟩;obtain ⟨gv,cv,rfl⟩:=B.form;refine B8 Y<|Zv (AR Hi Y)<|BX (Gx (n:=64) Y Y A0)<|Zv (Cm (n:=56) Y Y)<|A4<|Ak Y (fun G=>?_) (fun G=>?_);·
  rw [Bk,Mc,hn]at G;have cu:=AD7 _ _ hk G
  refine B3<|AQ<|Zg<|Zm Y<|Ze (Ah (vs:=[_]) (cs:=[_]) Hi Ks RE Y V rfl V rfl V)<|AF fun b5=>Ze (F8 (by_:=1) (news:=[_]) Hi (V:Tryz.prog.info? 5=some Tryz.t5) V rfl V rfl Y B Y Wo Wh B1 V HO B0 (by(simp only [Bk,Mc,hn];omega)) (by(simp only [Bk,Mc,hn];omega))) ?_;rintro _ _ ⟨sc,X,rfl⟩;obtain ⟨gc,cc,rfl⟩:=X.form;refine B2 Y<|AA<|DG (e:=[(4,_)]) (h:=by exact ⟨k+1,_,_,rfl,⟨cu,by rw [<-oP];exact X⟩,rfl,rfl⟩)
 rw [Bk,Mc,hn]at G;have ek:=AD8 _ _ hk A0
 subst ek;refine BA<|Zt<|Zt<|AX<|Zx<|Zq<|A3<|AH Y<|AQ<|Zb [4,5,0,3] ?_;refine Aw (e0:=[(4,_),(5,_)]) (fun m e H=>∃(j:Nat) (i:Int) (v:A2) (J:List A8),m=8 -j/\(j<=8/\i=7 -(j:Int)/\Row 5 v ((VN l j).map u8v) J)/\e=[(4,v),(5,I4 i)]/\H=[J]) (by exact ⟨0,_,_,_,rfl,⟨CM _,rfl,by rw [oQ,hn];exact B⟩,rfl,rfl⟩) Wp ?_;rintro _ _ _ ⟨j,i,v,J,rfl,⟨hj,hi,B⟩,rfl,rfl⟩;obtain ⟨gv,cv,rfl⟩:=B.form;refine B8 Y<|Zv (Ga Y Y)<|A4<|Ak Y (fun K=>?_) (fun K=>?_);·
  obtain ⟨q,rfl⟩:=Int.eq_ofNat_of_zero_le K;refine B3<|Zq<|AQ<|Zg<|Zm Y<|Zm Y<|Zv (GL GW Y)<|BX (Em (m:=8) Y Y A0)<|Zm Y<|BX (Em (m:=8) Y Y A0)<|BX (Qo Y Y (by first|decide|(simp [IntKind.bits];done)|(simp [IntKind.bits];omega)))<|LM (Ez D3 N0 Y (vf _)) rfl rfl<|Ze (Ah (vs:=[_]) (cs:=[_]) Hi Ks RE Y rfl rfl rfl rfl rfl)<|AF fun b7=>Ze (F8 (by_:=1) (news:=[_]) Hi (V:Tryz.prog.info? 5=some Tryz.t5) V rfl V rfl Y B Y Wo Wh B1 V HO B0 (by(simp only [Bk,aj l j hj,hn];omega)) (by(simp only [Bk,aj l j hj,hn];omega))) ?_;rintro _ _ ⟨sd,Z,rfl⟩;obtain ⟨gd,cd,rfl⟩:=Z.form;refine B2 Y<|Zn [0,3,4,5] ?_;refine AA<|Zx<|Zg<|Zm Y<|BX (GZ Y Y (IntWalk.i64_in _ A0))<|B2 Y<|DG (e:=[(4,_),(5,_)]) (h:=by exact ⟨j+1,_,_,_,rfl,⟨by omega,by omega,by rw [<-oU l j q A0,hn];exact Z⟩,rfl,rfl⟩)
 have ej:j=8:=by omega
 subst ej;refine BA<|Zt<|Zt<|AX<|Zx<|Zq<|Zq ?_;rw [Wv]at B;obtain ⟨M,hM⟩:∃M,(H8 l).length=64*M:=⟨(H8 l).length/64,by have:=iX l;omega⟩;have d9:=U6 l
 rw [hn]at d9;rw [Wv];obtain ⟨g,cap,cur,z,hv,rfl,cO,ax,j3,gq,j5⟩:=B.some (by rw [Bk];omega);simp only [Value.slice.injEq]at hv;obtain ⟨rfl,_,rfl⟩:=hv;rw [Bk]at cO;rw [Bk,hM];refine Zg<|Zm Y<|Zc [_,_] Y call147 Y V (kH _ _ _) ?_;rintro _ _ ⟨_,⟨bs,bn,rfl,rfl⟩,rfl⟩;refine A4<|AQ<|Zb [3,34] ?_;refine Rq (H0:=_) (R:=_) (I:=(fun pre H=>H=[[(bh,.cells (v8c (Jd pre.length h0 (H8 l))) 262 (0,0))],[(g,.cells cur 5 z)],[(0,.cells (Dn.map CW).toArray Tg zg)]])) (asg:=fun x=>[(6,R8 g x),(35,R8 g x)]) V Y call228 (kI g cv M bs bn A0 ax) Y V Wp (V) ?ha_6 ?hbd_6 ?hk_6
 case ha_6=>
  intro _ x _ _;refine Zg<|Za Y<|Z0 ?_;exact wE
 case hbd_6=>
  intro l pre x ic u H1 R1 gQ hI;subst hI;obtain ⟨gy,l5⟩:=oC gQ;subst gy;refine AQ<|Zg<|Zm Y<|Zc [_,_] Y call148 Y rfl (AD5 _ _ _ _ _ _ _ _ (by rw [Cd,Cp];omega) (eQ gq _ A0) _ _ _ _) ?_;rintro _ _ ⟨_,⟨rfl,rfl⟩,rfl⟩;refine Z0<|AA<|FZ rfl (by rw [C0,GC,Ro])
 intro D1 H2 af;subst af;refine Zn [3] ?_;refine AA<|C6<|Zo Wh (A9 (cs:=v8c (Jd M h0 (H8 l))) isAgg262 sizeOf262 Y Wn (by rw [cX];exact Io _ _ rfl))<|Xr [_] Y call149 Y rfl (dz _)<|An Y<|G7 rfl (TZ results80 Y) Wo (by exact ⟨by rw [<-O,ux l M hM],rfl⟩)
end Go.Proofs.YtlkdhannldcfbabGreatDoor
