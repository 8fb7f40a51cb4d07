/- Contracts: bits.RotateLeft32 at the counts of the program, digest.mixed, digest.schedule. -/
import Derived.Test.YthhakdmlpngcmaaGreatDoorA1
import Derived.Test.YthhakdmlpngcmaaGreatDoorSha
import Derived.Test.YthhakdmlpngcmaaGreatDoorEx37
set_option linter.unusedVariables false
set_option linter.unusedSimpArgs false
namespace Go.Proofs.YthhakdmlpngcmaaGreatDoor
open Go.Proofs.Tryz
open Go Go.RowKit Gw
set_option maxRecDepth 100000
attribute [local irreducible] Gw.At Gw.Nx Gw.Ops
theorem lW(x:UInt32)(n m:Nat)(h0:0<n)(g:n<32)(B:n+m=32):(x<<<UInt32.ofNat m)|||(x>>>UInt32.ofNat n)=rQ x (UInt32.ofNat n):=by
 unfold rQ;have:(32:UInt32) -UInt32.ofNat n=UInt32.ofNat m:=by
  apply UInt32.toNat_inj.1;rw [UInt32.toNat_sub,lz,lz];simp only [UInt32.reduceToNat];omega
 rw [this]
theorem xX(n m:Nat)(h0:0<n)(B:n<32)(G:n+m=32):bits .and .u64 (IntKind.u64.wrap (-(n:Int))) 31=(m:Int):=by
 have h:IntKind.u64.wrap (-(n:Int))=((18446744073709551616 -n:Nat):Int):=by rw [IntKind.wrap_u64];omega
 have g:(31:Int)=((31:Nat):Int):=rfl;rw [h,g,u64_and_nat _ _ A0 A0,nat_mask5];omega
theorem lV(x:UInt32)(n:Nat)(h0:0<n)(g:n<32):BJ prog 317 #[.int .u32 x.toNat,I0 (-(n:Int))] [] (.int .u32 (rQ x (UInt32.ofNat n)).toNat):=by
 refine Ki func317 V ntmps317 V ?_;intro u R;obtain ⟨m,B⟩:∃m,n+m=32:=⟨32 -n,by omega⟩;refine Zb [0,1] ?_;refine A1<|A5 Y<|A1<|Zm Y<|Kr (Ex DE XS Y V) V rfl<|Kr (tO Y Y (xX n m h0 g B)) V rfl<|A5 Y<|A1<|Zm Y<|Zm Y<|BZ (Mk Y Y A0)<|Zm Y<|Zm Y<|BZ (Uh (m:=32) Y Y A0 A0)<|BZ (Mj Y Y A0)<|Zv (Ov Y Y)<|AW Y<|Zn [4] ?_;refine Zx<|AJ<|AP V results317 Y (by
  have e:32 -m=n:=by omega
  exact ⟨by rw [e,lW x n m h0 g B],rfl⟩)
theorem uF(x:UInt32)(l:List UInt32)(n:UInt32):XV x (l++[n])=XV x l^^^rQ x n:=by simp [XV]
def qT(n:Nat):A4:=I0 (n:Int)
theorem l6{α β:Type}(f:α->β)(l:List α)(k:Nat)(d:α)(h:k<l.length):(l.take (k+1)).map f=(l.take k).map f++[f (l.getD k d)]:=by
 rw [nq h,C0];simp [N5,BT h]
theorem Xh{α:Type}(f:α->A4)(l:List α)(k:Nat)(d:α)(h:k<l.length):(l.map f).toArray[k]?=some (f (l.getD k d)):=by
 simp [BT h,N5]
theorem IY(x:UInt32)(l:List Nat)(g cap:Nat)(T:AK)(z:Nat×Nat)(I:∀n∈l,0<n/\n<32)(K:l.length<=100):
 BJ prog 305 #[.int .u32 x.toNat,I2 g l.length cap] [[(g,.cells (l.map qT).toArray T z)]] (.int .u32 (XV x (l.map UInt32.ofNat)).toNat):=by
 refine Se func305 ntmps305 [0,1] ?_;intro u R;refine A1<|A5 Y<|A1<|A5 Y<|Zq<|A1<|Zm Y<|Zv (Ab DG Y)<|Zm Y<|A6<|AR<|Zb [5,10,0,8,9] ?_;refine BF (e0:=[(5,_),(10,_)]) (fun m e H=>∃k:Nat,m=l.length -k/\(k<=l.length)/\e=[(5,.int .u32 ((XV x ((l.take k).map UInt32.ofNat)).toNat:Int)),(10,I0 (k:Int))]/\H=[]) (by exact ⟨0,V,C7 _,V,V⟩) Wp ?_;rintro _ _ _ ⟨k,rfl,J,rfl,rfl⟩;refine A1<|Zv (Ay Y Y)<|A6<|Zq<|Av Y (fun G=>?_) (fun G=>?_);·
  refine AC<|Zx<|Zq<|AR<|A1<|BZ (BU DG AE Y Y A0)<|Zl AH Y (hv:=by exact Xh qT l k 0 A0)<|AW Y<|Zx ?_;have B:=I (l.getD k 0) (by rw [N5,BT A0];exact pB _)
  refine Zg<|Zm Y<|Zm Y<|Zm Y<|Kr (jd (c:=-(l.getD k 0:Int)) Y (by rw [Int.zero_sub];exact IntWalk.i64_in _ A0)) rfl rfl<|Xr [_,_] Y call317 Y rfl (lV _ _ B.1 B.2)<|Zv (FY Y Y)<|AW Y<|A8<|Zx<|Zg<|Ya (n:=1) Y Y<|Zm Y<|Z0<|Zn [5,10,0,8,9] ?_;refine Aa (e':=[(5,_),(10,_)]) (by exact ⟨k+1,rfl,by omega,by rw [l6 _ _ _ 0 A0,uF],rfl⟩)
 refine Az<|Zt<|Zt<|AV<|Zx<|A1<|Zm Y<|A5 Y<|AJ<|AP V results305 Y (by
  have e:k=l.length:=by omega
  exact ⟨by rw [e,GC],rfl⟩)
def Er(l:List UInt32):List A4:=l.map Cw++List.replicate (64 -l.length) (.int .u32 0)
theorem Ci(l:List UInt32)(h:l.length<=64):(Er l).length=64:=by simp [Er];omega
theorem dM(l:List UInt32)(i:Nat)(h:i<l.length):(Er l).toArray[i]?=some (Cw (l.getD i 0)):=by
 simp [Er,oT,h,N5]
theorem dK(l:List UInt32)(x:UInt32)(h:l.length<64):(Er l).toArray.setIfInBounds l.length (Cw x)=(Er (l++[x])).toArray:=by
 rw [nr];congr 1;unfold Er;rw [lx _ _ B4];simp only [B6,T7,BW,E4,Ks];obtain ⟨n,g⟩:∃n,64 -l.length=n+1:=⟨63 -l.length,by omega⟩;rw [g,show 64 -(l.length+(0+1))=n by omega];simp [List.replicate_succ]
theorem JV(b:List UInt8)(k:Nat)(x:UInt32)(h:k<64)(g:Fe b (k+1)=Fe b k++[x]):(Er (Fe b k)).toArray.setIfInBounds k (.int .u32 (x.toNat:Int))=(Er (Fe b (k+1))).toArray:=by
 have:=dK (Fe b k) x (by rw [CX];exact h);rw [CX]at this;rw [g];exact this
theorem dL(l:List UInt32):∀v∈(Er l).toArray.toList,v.oneCell'=true:=by
 intro v hv;simp only [Er,C2,C6,List.mem_replicate]at hv;rcases hv with⟨x,_,rfl⟩|⟨_,rfl⟩<;>rfl
theorem YD(l:List UInt32)(h:l.length=64):Er l=l.map Cw:=by simp [Er,h]
theorem qI(b:List UInt8)(k:Nat)(h:k<16):Fe b (k+1)=Fe b k++[dG b k]:=by rw [Fe,As h]
theorem Rn(b:List UInt8)(k:Nat)(h:16<=k):Fe b (k+1)=Fe b k++[ZL (Fe b k) k]:=by rw [Fe,An A0]
def N9(c:AM)(o:Nat)(bs:List UInt8):Prop:=(c.toList.drop o).take bs.length=bs.map u8v
theorem N9.get{c:AM}{o:Nat}{g:List UInt8}(h:N9 c o g)(j:Nat)(B:j<g.length):c[o+j]?=some (u8v (g.getD j 0)):=by
 have m:((c.toList.drop o).take g.length)[j]?=(g.map u8v)[j]?:=by rw [h]
 rw [HH,As B,S1,DQ,BT B]at m;rw [HR]at m;rw [m];simp [N5,BT B]
theorem Kb(b:List UInt8)(k i:Nat)(h:i<k):(Er (Fe b k)).toArray[i]?=some (Cw ((Fe b k).getD i 0)):=dM _ _ (by rw [CX];exact h)
theorem di(g o cap:Nat)(c:AM)(T:AK)(z:Nat×Nat)(B:List UInt8)(hb:B.length=64)(hc:N9 c o B):
 BJ prog 304 #[.slice (some ⟨g,o,none⟩) 64 cap] [[(g,.cells c T z)]] (.agg ((jV B).map Cw).toArray):=by
 refine Se func304 ntmps304 [0] ?_;intro u R;refine A1<|Ze (FL zeroValue419 (cs:=(Er []).toArray) AF)<|AG fun K=>A6<|Zq<|A1<|Zm Y<|A6<|AR<|Zb [7,0,2] ?_;refine BF (e0:=[(7,_)]) (fun m e H=>∃k:Nat,m=16 -k/\(k<=16)/\e=[(7,I0 (k:Int))]/\H=[[(K,.cells (Er (Fe B k)).toArray 419 (0,0))]]) (by exact ⟨0,V,C7 _,V,V⟩) Wp ?_;rintro _ _ _ ⟨k,rfl,O,rfl,rfl⟩;refine A1<|Zv (Ay (n:=16) Y Y)<|A6<|Zq<|Av Y (fun I=>?_) (fun I=>?_);·
  refine AC<|Zx<|Zq<|AR<|A1<|Zm Y<|A5 Y<|Aw (n:=36) (0::0::0::4::14::30::62::126::0::0::512::1536::3840::7936::16128::32512::65534::0::0::262144::786432::1966080::4063232::8257536::16646144::33554430::0::0::134217728::402653184::1006632960::2080374784::4227858432::8589934590::17179869183::34359738367::[]) 34359738368 AF AF rfl<|A3 0 rfl (AO Y)<|A3 1 rfl (AO Y)<|A3 2 rfl (AO Y)<|A3 3 rfl (FC (m:=4) Y Y A0)<|A3 4 rfl (CG HK K0 Y Y (by first|omega|(rw [HD,Ci _ (by rw [CX];omega)];omega)))<|BE 5 rfl UP Y (hv:=by exact hc.get _ A0) ?_;refine A3 6 rfl (IM Mb TO Y)<|A3 7 rfl (Mk (n:=24) Y Y A0)<|A3 8 rfl (AO Y)<|A3 9 rfl (AO Y)<|A3 10 rfl (FC (m:=4) Y Y A0)<|A3 11 rfl (Df (n:=1) Y Y A0)<|A3 12 rfl (CG HK K0 Y Y (by first|omega|(rw [HD,Ci _ (by rw [CX];omega)];omega)))<|BE 13 rfl UP Y (hv:=by exact hc.get _ A0) ?_;refine A3 14 rfl (IM Mb TO Y)<|A3 15 rfl (Mk (n:=16) Y Y A0)<|A3 16 rfl (Ov Y Y)<|A3 17 rfl (AO Y)<|A3 18 rfl (AO Y)<|A3 19 rfl (FC (m:=4) Y Y A0)<|A3 20 rfl (Df (n:=2) Y Y A0)<|A3 21 rfl (CG HK K0 Y Y (by first|omega|(rw [HD,Ci _ (by rw [CX];omega)];omega)))<|BE 22 rfl UP Y (hv:=by exact hc.get _ A0) ?_;refine A3 23 rfl (IM Mb TO Y)<|A3 24 rfl (Mk (n:=8) Y Y A0)<|A3 25 rfl (Ov Y Y)<|A3 26 rfl (AO Y)<|A3 27 rfl (AO Y)<|A3 28 rfl (FC (m:=4) Y Y A0)<|A3 29 rfl (Df (n:=3) Y Y A0)<|A3 30 rfl (CG HK K0 Y Y (by first|omega|(rw [HD,Ci _ (by rw [CX];omega)];omega)))<|BE 31 rfl UP Y (hv:=by exact hc.get _ A0) ?_;refine A3 32 rfl (IM Mb TO Y)<|A3 33 rfl (Ov Y Y)<|A3 34 rfl (BK W0 G2 Y Y (by first|omega|(rw [HD,Ci _ (by rw [CX];omega)];omega)))<|Yw 35 68719476735 rfl (Zs G2 Y Y rfl (hc:=by exact JV B k (dG B k) A0 (qI B k A0)) (hi:=by(rw [HD,Ci _ (by rw [CX];omega)];omega)))<|D0<|Ag<|Zn [0,2,7] ?_;refine A8<|Zx<|Zg<|Ya (n:=1) Y Y<|Zm Y<|Z0<|Zn [7,0,2] ?_;refine Aa (e':=[(7,_)]) (by exact ⟨k+1,V,by omega,V,V⟩)
 refine Az<|Zt<|Zt<|AV<|Zx<|Zq<|A1<|A5 Y<|AR ?_;have G:k=16:=by omega
 subst G;refine Zb [4,2] ?_;refine BF (e0:=[(4,_)]) (fun m e H=>∃k:Nat,m=64 -k/\(16<=k/\k<=64)/\e=[(4,I0 (k:Int))]/\H=[[(K,.cells (Er (Fe B k)).toArray 419 (0,0))]]) (by exact ⟨16,V,by omega,V,V⟩) Wp ?_;rintro _ _ _ ⟨k,rfl,⟨U,O⟩,rfl,rfl⟩;refine Zq<|A1<|Zm Y<|Zv (Ay (n:=64) Y Y)<|A6<|Av Y (fun J=>?_) (fun J=>?_);·
  refine AC<|Zx<|Zq<|AR<|Zq<|Aw (n:=10) (0::1::3::7::0::16::48::112::15::511::[]) 0 AF AF V<|A3 0 V (AO Y) ?_
  (refine Dn (D':=3) 1 (CQ (n:=15) Y Y ?_ ?_) ?_;(focus (omega));(focus (omega)))
  refine A3 2 V (BK W0 G2 Y Y A0)<|BE 3 V Hc Y (hv:=by exact Kb B k _ A0) ?_;refine A3 4 V (AO Y) ?_
  (refine Dn (D':=63) 5 (CQ (n:=2) Y Y ?_ ?_) ?_;(focus (omega));(focus (omega)))
  refine A3 6 V (BK W0 G2 Y Y A0)<|BE 7 V Hc Y (hv:=by exact Kb B k _ A0) ?_;refine A3 8 V (Aq Y)<|A3 9 V (Aq Y)<|Ag<|Zx<|Aw (n:=26) (0::0::2::6::14::0::0::96::0::256::992::2046::0::4096::12288::28672::65534::0::0::393440::0::1048576::4063456::8388606::16777215::33554431::[]) 34341056 AF AF V<|A3 0 V (AO Y)<|A3 1 V (AO Y) ?_
  (refine Dn (D':=7) 2 (CQ (n:=16) Y Y ?_ ?_) ?_;(focus (omega));(focus (omega)))
  refine A3 3 rfl (BK W0 G2 Y Y (by first|omega|(rw [HD,Ci _ (by rw [CX];omega)];omega)))<|BE 4 rfl Hc Y (hv:=by exact Kb B k _ A0) ?_;refine A3 5 V (AO Y)<|A3 8 V (AO Y)<|A3 9 V (Mj (n:=3) Y Y A0)<|A3 12 V (AO Y) ?_
  (refine Dn (D':=13119) 13 (CQ (n:=7) Y Y ?_ ?_) ?_;(focus (omega));(focus (omega)))
  refine A3 14 rfl (BK W0 G2 Y Y (by first|omega|(rw [HD,Ci _ (by rw [CX];omega)];omega)))<|BE 15 rfl Hc Y (hv:=by exact Kb B k _ A0) ?_;refine A3 17 V (AO Y)<|A3 20 V (AO Y)<|A3 21 V (Mj (n:=10) Y Y A0)<|Zz (l:=[6,18])<|B7 [true,true] [(15,(_,_)),(4,(_,_))] V rfl (Ai (vs:=[_,_]) (cs:=[_,_]) DG AE HI Y V rfl V rfl V) ?_ (fun _ _ h=>h.elim) ?_;·
   rintro _ _ ⟨W,rfl,rfl⟩;refine Bk<|Zz (l:=[7,18])<|B7 [true,true] [(15,(_,_)),(4,(_,_))] V rfl (Zu [_,_] Y cP Y V (IY _ [7,18] _ _ _ _ B0 B0)) ?_ (fun _ _ h=>h.elim) ?_;·
    rintro _ _ ⟨rfl,rfl⟩;refine Bk<|A3 10 V (FY Y Y)<|A3 11 V (De Y Y)<|A3 16 V (De Y Y)<|Zz (l:=[18])<|B7 [true,true] [(15,(_,_)),(4,(_,_))] V rfl (Ai (vs:=[_,_]) (cs:=[_,_]) DG AE HI Y V rfl V rfl V) ?_ (fun _ _ h=>h.elim) Ah;rintro _ _ ⟨X,rfl,rfl⟩;refine Bk<|Yz 19 393440 4194303 [15,4] [true,true] [(15,(_,_)),(4,(_,_))] V Y V rfl V rfl (Zu [_,_] Y cP Y V (IY _ [17,19] _ _ _ _ B0 B0))<|D0<|Bk<|A3 22 rfl (FY Y Y)<|A3 23 rfl (De Y Y)<|A3 24 rfl (BK W0 G2 Y Y (by first|omega|(rw [HD,Ci _ (by rw [CX];omega)];omega)))<|Yw 25 67108863 rfl (Zs G2 Y Y rfl (hc:=by exact JV B k (ZL (Fe B k) k) A0 (Rn B k A0)) (hi:=by(rw [HD,Ci _ (by rw [CX];omega)];omega)))<|D0<|Ag<|Zn [2,4] ?_;refine A8<|Zx<|Zg<|Zm Y<|Ya (n:=1) Y Y<|AW Y<|Zn [4,2] ?_;refine Aa (e':=[(4,_)]) (by exact ⟨k+1,V,by omega,V,V⟩)
   refine B7 [true,true] [(15,(_,_)),(4,(_,_))] V rfl (Ai (vs:=[_,_]) (cs:=[_,_]) DG AE HI Y V rfl V rfl V) ?_ (fun _ _ h=>h.elim) Ah;rintro _ _ ⟨Z,rfl,rfl⟩;refine Bk<|Yz 7 96 3601407 [15,4] [true,true] [(15,(_,_)),(4,(_,_))] V Y V rfl V rfl (Zu [_,_] Y cP Y V (IY _ [7,18] _ _ _ _ B0 B0))<|D0<|Bk<|A3 10 V (FY Y Y)<|A3 11 V (De Y Y)<|A3 16 V (De Y Y)<|Zz (l:=[19])<|B7 [true,true] [(15,(_,_)),(4,(_,_))] V rfl (Zu [_,_] Y cP Y V (IY _ [17,19] _ _ _ _ B0 B0)) ?_ (fun _ _ h=>h.elim) Ah;rintro _ _ ⟨rfl,rfl⟩;refine Bk<|A3 22 rfl (FY Y Y)<|A3 23 rfl (De Y Y)<|A3 24 rfl (BK W0 G2 Y Y (by first|omega|(rw [HD,Ci _ (by rw [CX];omega)];omega)))<|Yw 25 67108863 rfl (Zs G2 Y Y rfl (hc:=by exact JV B k (ZL (Fe B k) k) A0 (Rn B k A0)) (hi:=by(rw [HD,Ci _ (by rw [CX];omega)];omega)))<|D0<|Ag<|Zn [2,4] ?_;refine A8<|Zx<|Zg<|Zm Y<|Ya (n:=1) Y Y<|AW Y<|Zn [4,2] ?_;refine Aa (e':=[(4,_)]) (by exact ⟨k+1,V,by omega,V,V⟩)
  refine B7 [true,true] [(15,(_,_)),(4,(_,_))] V rfl (Ai (vs:=[_,_]) (cs:=[_,_]) DG AE HI Y V rfl V rfl V) ?_ (fun _ _ h=>h.elim) Ah;rintro _ _ ⟨b5,rfl,rfl⟩;refine Bk<|Yz 6 0 3601279 [15,4] [true,true] [(15,(_,_)),(4,(_,_))] V Y V rfl V rfl (Ai (vs:=[_,_]) (cs:=[_,_]) DG AE HI Y V rfl V rfl V)<|AG fun b6=>Bk<|Yz 7 96 3601407 [15,4] [true,true] [(15,(_,_)),(4,(_,_))] V Y V rfl V rfl (Zu [_,_] Y cP Y V (IY _ [7,18] _ _ _ _ B0 B0))<|D0<|Bk<|A3 10 V (FY Y Y)<|A3 11 V (De Y Y)<|A3 16 V (De Y Y)<|Zz (l:=[19])<|B7 [true,true] [(15,(_,_)),(4,(_,_))] V rfl (Zu [_,_] Y cP Y V (IY _ [17,19] _ _ _ _ B0 B0)) ?_ (fun _ _ h=>h.elim) Ah;rintro _ _ ⟨rfl,rfl⟩;refine Bk<|A3 22 rfl (FY Y Y)<|A3 23 rfl (De Y Y)<|A3 24 rfl (BK W0 G2 Y Y (by first|omega|(rw [HD,Ci _ (by rw [CX];omega)];omega)))<|Yw 25 67108863 rfl (Zs G2 Y Y rfl (hc:=by exact JV B k (ZL (Fe B k) k) A0 (Rn B k A0)) (hi:=by(rw [HD,Ci _ (by rw [CX];omega)];omega)))<|D0<|Ag<|Zn [2,4] ?_;refine A8<|Zx<|Zg<|Zm Y<|Ya (n:=1) Y Y<|AW Y<|Zn [4,2] ?_;refine Aa (e':=[(4,_)]) (by exact ⟨k+1,V,by omega,V,V⟩)
 refine Az<|Zt<|Zt<|AV<|Zx<|A1<|Zo Wh (AB isAgg419 sizeOf419 Y (by(rw [HD,Ci _ (by rw [CX];omega)];omega)) (by exact Ib _ _ (by rw [HD,Ci _ (by rw [CX];omega)]))) ?_;refine Xe (BL sizeOf419 Y Y (by exact dL _) Wu (by exact tT _) (by rw [HD,Ci _ (by rw [CX];omega)]) (by(rw [HD,Ci _ (by rw [CX];omega)];omega)) (by exact BC _)) ?_;refine A6<|AJ<|D7 rfl results304 Y Wh (Au isAgg419 sizeOf419 (by(rw [HD,Ci _ (by rw [CX];omega)];omega)) (Ib _ _ (by rw [HD,Ci _ (by rw [CX];omega)]))) (by
  have e:k=64:=by omega
  exact ⟨by rw [e,YD _ (CX _ _)];rfl,rfl⟩)
def v8c(v:V8):AM:=#[Cw v.a,Cw v.b,Cw v.c,Cw v.d,Cw v.e,Cw v.f,Cw v.g,Cw v.h]
theorem qK(v:V8):v8c v=(v.list.map Cw).toArray:=rfl
theorem wt(k:Nat)(h:k<64):(Ez.map Cw).toArray[k*1]?=some (Cw (Ez.getD k 0)):=by rw [N0];exact Xh Cw Ez k 0 (by rw [uW];exact h)
def WG(x y:V8)(i:Nat):List UInt32:=(zL x y).list.take i++x.list.drop i
theorem Mt(x y:V8)(i:Nat)(h:i<=8):(WG x y i).length=8:=by
 have:(zL x y).list.length=8:=rfl;have h2:x.list.length=8:=rfl
 simp [WG,this,h2];omega
theorem oC(x y:V8)(i:Nat)(h:i<8):((WG x y i).map Cw).toArray[i]?=some (Cw (x.list.getD i 0)):=by
 have:i=0\/i=1\/i=2\/i=3\/i=4\/i=5\/i=6\/i=7:=by omega
 rcases this with rfl|rfl|rfl|rfl|rfl|rfl|rfl|rfl<;>rfl
theorem qM(y:V8)(i:Nat)(h:i<8):(v8c y)[i]?=some (Cw (y.list.getD i 0)):=by
 have:i=0\/i=1\/i=2\/i=3\/i=4\/i=5\/i=6\/i=7:=by omega
 rcases this with rfl|rfl|rfl|rfl|rfl|rfl|rfl|rfl<;>rfl
theorem o7(x y:V8)(i:Nat)(h:i<8):((WG x y i).map Cw).toArray.setIfInBounds i (.int .u32 ((x.list.getD i 0+y.list.getD i 0).toNat:Int))=((WG x y (i+1)).map Cw).toArray:=by
 have:i=0\/i=1\/i=2\/i=3\/i=4\/i=5\/i=6\/i=7:=by omega
 rcases this with rfl|rfl|rfl|rfl|rfl|rfl|rfl|rfl<;>rfl
theorem dS(x:V8)(k:Nat)(m:List UInt32)(v:V8)(B:x=Lj m v k):
 ((#[Cw x.a,Cw x.a,Cw x.b,Cw x.c,Cw x.d,Cw x.e,Cw x.f,Cw x.g]:AM).setIfInBounds 0 (.int .u32 ((Gw.DC x (Ez.getD k 0) (m.getD k 0)+zS x).toNat:Int))).setIfInBounds 4 (.int .u32 ((x.d+Gw.DC x (Ez.getD k 0) (m.getD k 0)).toNat:Int))=v8c (Lj m v (k+1)):=by
 subst B;rfl
theorem lL(g:List UInt8):(jV g).length=64:=CX g 64
theorem rF(g:List UInt32)(h:g.length=64):((g.map Cw).toArray).size=64:=by rw [HD,B6,h]
theorem rG(g:List UInt32)(h:g.length=64):EM (Er []).toArray 0 ((g.map Cw).toArray).toList=(g.map Cw).toArray:=
 ZE (Er []).toArray (g.map Cw) (by rw [B6,h];rfl)
theorem xB:0+64<=((Er []).toArray).size:=by rw [HD,Ci _ (C7 _)];exact CT _
theorem jK(v:V8):∀x∈(v8c v).toList,x.oneCell'=true:=by
 intro x g;rw [qK]at g;simp only [C6]at g;obtain ⟨y,_,rfl⟩:=g;rfl
theorem qP(l:List UInt32):∀x∈(l.map Cw).toArray.toList,x.oneCell'=true:=by
 intro x g;simp only [C6]at g;obtain ⟨y,_,rfl⟩:=g;rfl
theorem wP(K g o cap:Nat)(c:AM)(T:AK)(z:Nat×Nat)(I:List UInt8)(hb:I.length=64)(hc:N9 c o I)(O Tg:AK)(zg:Nat×Nat)(v:V8):
 BS prog 274 #[I1 K,.slice (some ⟨g,o,none⟩) 64 cap] [[(K,.cells (v8c v) O (0,0))],[(g,.cells c T z)],[(4,.cells (Ez.map Cw).toArray Tg zg)]]
  (fun r H'=>r= .tuple #[]/\H'=[[(K,.cells (v8c (Xz v I)) O (0,0))],[(g,.cells c T z)],[(4,.cells (Ez.map Cw).toArray Tg zg)]]):=by
 refine Ki func274 V ntmps274 V ?_;intro u R;obtain ⟨B,G⟩:∃B,B=jV I:=⟨_,rfl⟩;have hw:B.length=64:=by rw [G];exact lL I
 have J:=di g o cap c T z I hb hc;rw [<-G]at J;have U:Xz v I=zL v (Lj B v 64):=by rw [G];rfl
 clear G;rw [U];refine Zb [0,1] ?_;refine A1<|Zm Y<|Xr [_] Y call304 Y V (J) ?_;refine Ze (FL zeroValue419 (cs:=(Er []).toArray) AF)<|AG fun bw=>Xe (BL sizeOf419 Y Y (by exact qP _) Wu (by exact rG B hw) (by exact rF B hw) (by exact xB) (by exact BC _)) ?_;refine A6<|A1<|Zm Y<|Zp Y V<|Zo Wh (AB (cs:=v8c v) isAgg394 sizeOf394 Y Wn Ax) ?_;refine Ze (Al zeroValue394 #[_,_,_,_,_,_,_,_])<|AG fun bv=>Xe (BL sizeOf394 Y Y (by exact jK v) Wu (by exact (rfl:_=v8c (Lj B v 0))) Fi Wn (by exact BC _)) ?_;refine A6<|Zq<|A1<|Zo Wh (AB (cs:=(Ez.map Cw).toArray) isAgg419 sizeOf419 Y (by exact CT _) (by exact Ib _ _ V)) ?_;refine Zm Y<|A6<|AR<|Zb [19,0,4,5,18] ?_;refine BF (e0:=[(19,_)]) (fun m e H=>∃k:Nat,m=64 -k/\(k<=64)/\e=[(19,I0 (k:Int))]/\H=[[(bv,.cells (v8c (Lj B v k)) 394 (0,0))]]) (by exact ⟨0,V,C7 _,V,V⟩) Wp ?_;rintro _ _ _ ⟨k,rfl,hk,rfl,rfl⟩;obtain ⟨x,Z⟩:∃x,x=Lj B v k:=⟨_,rfl⟩;rw [<-Z];refine A1<|Zv (Ay (n:=64) Y Y)<|A6<|Zq<|Av Y (fun W=>?_) (fun W=>?_);·
  refine AC<|Zx<|Zq<|AR<|A1<|Zm Y<|Zv (Qo W0 Hc G2 Y Y A0 (by exact wt k A0))<|Za Y<|A5 Y<|Zq<|Aw (n:=6) (0::1::0::4::3::31::[]) 0 AF AF V<|A3 0 V (BK (j:=0) LO G2 Y Y A0)<|BE 1 V Hc Y ?_;refine A3 2 V (BK (j:=4) LO G2 Y Y A0)<|BE 3 V Hc Y ?_;refine A3 4 V (Aq Y)<|A3 5 V (Aq Y)<|Ag<|Zx<|Zq<|Aw (n:=24) (0::1::0::0::12::31::0::0::128::448::0::1024::0::4096::15360::32704::65535::0::262143::0::524288::1572864::4194303::8388607::[]) 24 AF AF V<|A3 0 V (BK (j:=7) LO G2 Y Y A0)<|BE 1 V Hc Y ?_;refine A3 2 V (AO Y)<|A3 6 V (AO Y)<|A3 7 V (BK (j:=5) LO G2 Y Y A0)<|BE 8 V Hc Y ?_;refine A3 9 V (KM Y Y)<|A3 10 V (AO Y)<|A3 11 V (mW Y)<|A3 12 V (BK (j:=6) LO G2 Y Y A0)<|BE 13 V Hc Y ?_;refine A3 14 V (KM Y Y)<|A3 15 V (FY Y Y)<|A3 17 V (AO Y)<|A3 19 V (AO Y)<|A3 20 V (BK W0 G2 Y Y A0)<|BE 21 V Hc Y (hv:=by exact Xh Cw B k 0 A0) ?_;refine Yz 3 0 3866575 [21,13,8,1] [true,true,true,true] [(21,(_,_)),(13,(_,_)),(8,(_,_)),(1,(_,_))] V Y V rfl V rfl (Ai (vs:=[_,_,_]) (cs:=[_,_,_]) DG AE HI Y V rfl V rfl V)<|AG fun b3=>Bk<|Yz 4 12 3866591 [21,13,8,1] [true,true,true,true] [(21,(_,_)),(13,(_,_)),(8,(_,_)),(1,(_,_))] V Y V rfl V rfl (Zu [_,_] Y cP Y V (IY _ [6,11,25] _ _ _ _ B0 B0))<|D0<|Bk<|A3 5 V (De Y Y)<|A3 16 V (De Y Y)<|A3 18 V (De Y Y)<|A3 22 V (De Y Y)<|A3 23 V (Aq Y)<|Ag<|Zn [0,4,5,8,10,18,19] ?_;refine Zx<|Zq<|Aw (n:=20) (0::0::3::0::0::16::56::0::0::256::896::2040::0::4096::0::16384::61440::131064::262143::524287::[]) 6 AF AF V<|A3 0 V (AO Y)<|A3 3 V (AO Y)<|A3 4 V (BK (j:=1) LO G2 Y Y A0)<|BE 5 V Hc Y ?_;refine A3 6 V (KM Y Y)<|A3 7 V (AO Y)<|A3 8 V (BK (j:=2) LO G2 Y Y A0)<|BE 9 V Hc Y ?_;refine A3 10 V (KM Y Y)<|A3 11 V (FY Y Y)<|A3 12 V (BK (j:=1) LO G2 Y Y A0)<|BE 13 V Hc Y ?_;refine A3 14 V (BK (j:=2) LO G2 Y Y A0)<|BE 15 V Hc Y ?_
  refine A3 16 V (KM Y Y)<|A3 17 V (FY Y Y)<|Zz (l:=[1])<|B7 [true,true,true,true] [(15,(_,_)),(13,(_,_)),(9,(_,_)),(5,(_,_))] V rfl (Ai (vs:=[_,_,_]) (cs:=[_,_,_]) DG AE HI Y V rfl V rfl V) ?_ (fun _ _ h=>h.elim) Ah;rintro _ _ ⟨b4,rfl,rfl⟩;refine Bk<|Yz 2 3 262143 [15,13,9,5] [true,true,true,true] [(15,(_,_)),(13,(_,_)),(9,(_,_)),(5,(_,_))] V Y V rfl V rfl (Zu [_,_] Y cP Y V (IY _ [2,13,22] _ _ _ _ B0 B0))<|D0<|Bk<|A3 18 V (De Y Y)<|A3 19 V (Aq Y)<|Ag<|Zn [0,4,5,10,11,18,19] ?_;refine Zx<|Zq<|Aw (n:=3) (0::0::3::[]) 4 AF AF V<|A3 0 V (QA (l:=1) LO G2 Y Y A0)<|A3 1 V (TJ (h:=7) LO G2 Y Y A0)<|Yw 2 7 V (sE (cs:=[_,_,_,_,_,_,_]) (c':=#[_,_,_,_,_,_,_,_]) underlying422 G2 Y Y Wh Wu Ax Ax Ax (by exact CT 8) (BC _) (by simp [Value.oneCell',Cw]))<|D0<|Ag<|Zx<|Zg<|Zm Y<|Zm Y<|Zv (De Y Y)<|BZ (BK (j:=4) LO G2 Y Y A0)<|Zl Hc Y ?_;refine Zm Y<|Zv (De Y Y)<|BZ (BK (j:=0) LO G2 Y Y A0)<|Xe (Zs G2 Y Y V) ?_;refine BZ (BK (j:=4) LO G2 Y Y A0)<|Xe (Zs G2 Y Y V (hc:=by exact (dS x k B v Z))) ?_;refine Z0<|Zn [0,4,5,18,19] ?_;refine A8<|Zx<|Zg<|Ya (n:=1) Y Y<|Zm Y<|Z0<|Zn [19,0,4,5,18] ?_;refine Aa (e':=[(19,_)]) (by exact ⟨k+1,V,by omega,V,V⟩)
 refine Az<|Zt<|Zt<|AV<|Zx<|A1<|Zm Y<|A6<|AR ?_;have ek:k=64:=by omega
 subst ek;refine Zb [82,0,5] ?_;refine BF (e0:=[(82,_)]) (fun m e H=>∃i:Nat,m=8 -i/\(i<=8)/\e=[(82,I0 (i:Int))]/\H=[[(K,.cells ((WG v x i).map Cw).toArray O (0,0))]]) (by exact ⟨0,V,C7 _,V,V⟩) Wp ?_;rintro _ _ _ ⟨i,rfl,hi,rfl,rfl⟩;refine A1<|Zv (Ay (n:=8) Y Y)<|A6<|Zq<|Av Y (fun X=>?_) (fun X=>?_);·
  refine AC<|Zx<|Zq<|AR<|A1<|Zm Y<|A5 Y<|Aw (n:=12) (0::0::1::7::15::0::32::96::255::1::1023::2047::[]) 2048 AF AF rfl<|A3 0 rfl (AO Y)<|A3 1 rfl (AO Y)<|A3 2 rfl (Ak Y rfl)<|A3 3 rfl (BK LO G2 Y Y (by first|omega|(rw [HD,B6,Mt _ _ _ A0];omega)))<|BE 4 rfl Hc Y (hv:=by exact oC _ _ i A0) ?_;refine A3 5 rfl (AO Y)<|A3 6 rfl (BK LO G2 Y Y (by first|omega|(rw [HD,B6,Mt _ _ _ A0];omega)))<|BE 7 rfl Hc Y (hv:=by exact qM _ i A0) ?_;refine A3 8 rfl (De Y Y)<|A3 9 rfl (Ak Y rfl)<|A3 10 rfl (BK LO G2 Y Y (by first|omega|(rw [HD,B6,Mt _ _ _ A0];omega)))<|Yw 11 4095 rfl (Zs G2 Y Y rfl (hc:=by exact o7 _ _ i A0) (hi:=by(rw [HD,B6,Mt _ _ _ A0];omega)))<|D0<|Ag<|Zn [0,5,82] ?_;refine A8<|Zx<|Zg<|Ya (n:=1) Y Y<|Zm Y<|Z0<|Zn [82,0,5] ?_;refine Aa (e':=[(82,_)]) (by exact ⟨i+1,V,by omega,V,V⟩)
 have ei:i=8:=by omega
 subst ei;rw [<-Z];refine Az<|Zt<|Zt<|AV<|Cc V results274 (by exact ⟨V,V⟩)
def TH(N:Nat)(l:List UInt8):AM:=(l.map u8v++List.replicate (N -l.length) (Value.int .u8 0)).toArray
theorem si(N:Nat)(l:List UInt8)(x:UInt8)(k:Nat)(g:k=l.length)(h:l.length<N):(TH N l).setIfInBounds k (.int .u8 (x.toNat:Int))=TH N (l++[x]):=by
 subst g;unfold TH;rw [nr];congr 1;rw [lx _ _ B4];simp only [B6,T7,BW,E4,Ks];obtain ⟨n,m⟩:∃n,N -l.length=n+1:=⟨N -1 -l.length,by omega⟩;rw [m,show N -(l.length+(0+1))=n by omega];simp [List.replicate_succ,u8v]
theorem Vo(N:Nat)(l:List UInt8)(h:l.length<=N):(TH N l).size=N:=by simp [TH];omega
theorem mP(N:Nat)(l:List UInt8)(h:l.length=N):(TH N l).toList=l.map u8v:=by simp [TH,h]
def RD(v:V8)(i k:Nat):List UInt8:=(v.list.take i).flatMap Ox++(Ox (v.list.getD i 0)).take k
theorem Ow(v:V8)(i k:Nat)(hi:i<8)(g:k<=4):(RD v i k).length=4*i+k:=by
 have:i=0\/i=1\/i=2\/i=3\/i=4\/i=5\/i=6\/i=7:=by omega
 rcases this with rfl|rfl|rfl|rfl|rfl|rfl|rfl|rfl<;>simp [RD,V8.list,Ox]<;>omega
theorem mY(v:V8)(i:Nat)(hi:i<8):RD v (i+1) 0=RD v i 4:=by
 have:i=0\/i=1\/i=2\/i=3\/i=4\/i=5\/i=6\/i=7:=by omega
 rcases this with rfl|rfl|rfl|rfl|rfl|rfl|rfl|rfl<;>rfl
theorem mX(v:V8)(i k:Nat)(g:k<4):RD v i (k+1)=RD v i k++[((v.list.getD i 0)>>>UInt32.ofNat (24 -8*k)).toUInt8]:=by
 have:k=0\/k=1\/k=2\/k=3:=by omega
 unfold RD;generalize v.list.getD i 0=x;rcases this with rfl|rfl|rfl|rfl
 · simp [Ox]
 · simp [Ox]
 · simp [Ox]
 · have e:x>>>UInt32.ofNat (24 -8*3)=x:=by
    apply UInt32.toNat_inj.1;simp [UInt32.toNat_shiftRight]
   rw [e];simp [Ox]
theorem jf(v:V8):RD v 8 0=tV v:=rfl
theorem qL(y:V8)(i:Nat)(h:i<8):(v8c y)[i*1]?=some (Cw (y.list.getD i 0)):=by rw [N0];exact qM y i h
theorem bI(v:V8):BJ prog 275 #[.agg (v8c v)] [] (.string (str (tV v))):=by
 refine Se func275 ntmps275 [0] ?_;intro u R;refine A1<|Ze (F8 Y (cs:=(v8c v)) AF)<|AG fun K=>A5 Y<|A1<|Ze (FL zeroValue414 (cs:=(TH 32 [])) AF)<|AG fun G=>A6<|Zq<|A1<|Zo Wh (AB (cs:=v8c v) isAgg394 sizeOf394 Y (by exact CT _) (by exact Ib _ _ V))<|Zm Y<|A6<|AR<|Zb [8,3,7] ?_;refine BF (e0:=[(8,_)]) (fun m e H=>∃i:Nat,m=8 -i/\(i<=8)/\e=[(8,I0 (i:Int))]/\H=[[(G,.cells (TH 32 (RD v i 0)) 414 (0,0))]]) (by exact ⟨0,V,C7 _,V,V⟩) Wp ?_;rintro _ _ _ ⟨i,rfl,hi,rfl,rfl⟩;refine A1<|Zv (Ay (n:=8) Y Y)<|A6<|Zq<|Av Y (fun g=>?_) (fun g=>?_);·
  refine AC<|Zx<|Zq<|AR<|A1<|Zm Y<|Zv (Qo LO Hc G2 Y Y A0 (by exact qL v i A0))<|Za Y<|A5 Y<|A1<|Zm Y<|A6<|AR<|Zb [12,3,4,5,7,8] ?_;refine BF (e0:=[(12,_)]) (fun m e H=>∃k:Nat,m=4 -k/\(k<=4)/\e=[(12,I0 (k:Int))]/\H=[[(G,.cells (TH 32 (RD v i k)) 414 (0,0))]]) (by exact ⟨0,V,C7 _,V,V⟩) Wp ?_;rintro _ _ _ ⟨k,rfl,O,rfl,rfl⟩;refine A1<|Zv (Ay (n:=4) Y Y)<|A6<|Zq<|Av Y (fun B=>?_) (fun B=>?_);·
   refine AC<|Zx<|Zq<|AR<|A1<|Zm Y<|A5 Y<|Zg<|Zm Y<|BZ (FC (m:=4) Y Y A0)<|Zm Y<|Ya Y Y<|Zm Y<|Zm Y<|BZ (FC (m:=8) Y Y A0)<|Yb (m:=24) Y Y ?_;refine BZ (Mj Y Y A0)<|Zv (Uk TO Mb Y)<|BZ (BK underlying414 K0 Y Y (by first|omega|(rw [Vo _ _ (by rw [Ow _ _ _ A0 A0];omega)];omega)))<|Xe (Zs K0 Y Y rfl (hc:=by exact (si 32 (RD v i k) _ _ (by rw [Ow _ _ _ A0 A0]) (by rw [Ow _ _ _ A0 A0];omega)).trans (congrArg (TH 32) (mX v i k A0).symm)) (hi:=by(rw [Vo _ _ (by rw [Ow _ _ _ A0 A0];omega)];omega)))<|Z0<|Zn [3,4,5,7,8,12] ?_;refine A8<|Zx<|Zg<|Ya (n:=1) Y Y<|Zm Y<|Z0<|Zn [12,3,4,5,7,8] ?_;refine Aa (e':=[(12,_)]) (by exact ⟨k+1,V,by omega,V,V⟩)
  have J:k=4:=by omega
  subst J;refine Az<|Zt<|Zt<|AV<|A8<|Zx<|Zg<|Ya (n:=1) Y Y<|Zm Y<|Z0<|Zn [8,3,7] ?_;refine Aa (e':=[(8,_)]) (by exact ⟨i+1,rfl,by omega,rfl,by rw [mY v i A0]⟩)
 have I:i=8:=by omega
 subst I;refine Az<|Zt<|Zt<|AV<|Zx<|A1<|Zv (Ik underlying414 K0 Y)<|Zo Wh (KL HK Mb HG Y (by exact ⟨(by rw [mP 32 (RD v 8 0) (by rw [jf];rfl)];exact Hx (by rw [Q1,B6,jf];exact CT 32)),rfl⟩))<|A5 Y<|AJ<|AP rfl results275 Y na
def QU(g j:Nat):A4:= .slice (some ⟨g,64*j,none⟩) 64 64
theorem vX(g k M:Nat)(h:k<M):Value.slice (some ⟨g,0+64*k*1,none⟩) (64*k+min 64 (64*M -64*k) -64*k) (64*k+min 64 (64*M -64*k) -64*k)=QU g k:=by
 have m:64*k+min 64 (64*M -64*k) -64*k=64:=by omega
 have h2:0+64*k*1=64*k:=by omega
 rw [m,h2];rfl
theorem Ym(M k:Nat)(h:k<M):List.range M=List.range k++k::(List.range' (k+1) (M -k -1)):=by
 rw [oS,oS,<-oy];rw [show M -k -1+1=M -k by omega];have:=List.range'_append_1 (s:=0) (m:=k) (n:=M -k)
 rw [show 0+k=k by omega,show k+(M -k)=M by omega]at this;exact this.symm
theorem iW(g cap M:Nat)(U O:Nat)(hM:64*M<=cap)(hc:cap<=maxLen):
 UV prog 303 #[I1 U,I1 O] [[(U,.cells #[I2 g (64*M) cap] 103 (0,0))],[(O,.cells #[I0 64] 3 (0,0))]] (fun j=>#[QU g j]) (List.range M):=by
 have Z:=mL;intro l J hy s G;refine Se func303 ntmps303 [0,1,2] ?_;intro u R;refine A1<|A5 Y<|AR<|Zb [4,0,1,2] ?_;refine BF (e0:=[(4,_)]) (fun m e H=>∃(k:Nat) (s:List A9),m=M -k/\(k<=M/\J (List.range k) s)/\e=[(4,I0 ((64*k:Nat):Int))]/\H=[s]) (by exact ⟨0,s,V,⟨C7 _,G⟩,V,V⟩) Wp ?_;rintro _ _ _ ⟨k,s,rfl,⟨hk,G⟩,rfl,rfl⟩;refine Zq<|A1<|Zm Y<|Zl SR Y ?_;refine Zv (Ab HK Y)<|Zv (Ay Y Y)<|A6<|Av Y (fun K=>?_) (fun K=>?_);·
  refine AC<|Zx<|Zq<|AR<|Zq<|Aw (n:=7) (0::0::0::6::14::31::63::[]) 0 AF AF V<|BE 0 V AH Y ?_;refine BE 1 V SR Y ?_;refine A3 2 V (AO Y)<|A3 3 V (C8 HK K0 Y Y A0)<|A3 4 V (Ab HK Y)<|A3 5 V (QD Y Y)<|A3 6 V (Aq Y)<|Ag<|Zx<|Zq ?_;have B:=hy (List.range k) k _ s (Ym M k A0) G
  rw [<-kA]at B;rw [show(fun j=>#[QU g j]) k=#[QU g k] from rfl,<-vX g k M A0]at B;refine Zg<|Zm Y<|Zl SR Y ?_;refine Zm Y<|Zm Y<|Zm Y<|Ya Y Y<|Zm Y<|Zm Y<|Ya Y Y ?_
  (refine BZ (TI HK K0 Y Y Y Y ?_ ?_) ?_;(focus ((simp only [Nat.min_def];split<;>omega)));(focus (omega)))
  refine Ze (Ff (vs:=[_]) Y Y (B) Wp) ?_;rintro _ _ ⟨_,⟨s',rfl,rfl,I⟩,rfl⟩;refine Zv (Br Y)<|Z0<|Zn [0,1,2,4,30] ?_;refine Zx<|AQ Y (fun W=>by cases W)<|fun W=>AC<|A8<|Zx<|Zg<|Zm Y<|Zl AH Y ?_;refine Yi Y Y<|AW Y<|Zn [4,0,1,2] ?_;refine Aa (e':=[(4,_)]) (by exact ⟨k+1,s',V,⟨by omega,I⟩,V,V⟩)
 have X:k=M:=by omega
 subst X;refine Az<|Zt<|Zt<|AV<|Cc V results303 (by exact ⟨s,V,G⟩)
theorem iV(p:B8)(n cap:Nat):BS prog 273 #[.slice p n cap,I0 64] [] (fun r H'=>∃B m,r= .func (.func 303) #[] #[I1 B,I1 m]/\H'=[[(B,.cells #[.slice p n cap] 103 (0,0))],[(m,.cells #[I0 64] 3 (0,0))]]):=by
 refine Se func273 ntmps273 [0,1] ?_;intro u R;refine A1<|Ze (Bx #[_])<|AG fun G=>Ze (Bx #[_])<|AG fun I=>A5 Y<|Zq<|A1<|Zl AH Y<|Zv (Ay (n:=1) Y Y)<|A6<|Av Y (fun g=>?_) (fun g=>?_);·
  exact absurd g B0
 refine AC<|Zx<|A1<|Zv (Bf (vs:=[]) (us:=[_,_]) Y Y)<|A5 Y<|AJ<|AP V results273 Y (by exact ⟨G,I,V,V⟩)
theorem R4:∀(n:Nat) (h:V8) (b:List UInt8),JN (n+1) h b=Xz (JN n h b) ((b.drop (64*n)).take 64)
 |0,h,b=>by simp [JN]
 |n+1,h,b=>by
  rw [JN,R4 n,JN,cE];rw [show 64+64*n=64*(n+1) by omega]
def RB(l:List UInt8)(k:Nat):List UInt8:=l++[128]++List.replicate k 0
theorem Lt(l:List UInt8)(k:Nat):(RB l k).length=l.length+1+k:=by simp [RB];omega
theorem mK(l:List UInt8)(k:Nat):(RB l k).map u8v++[.int .u8 0]=(RB l (k+1)).map u8v:=by
 unfold RB;rw [List.replicate_succ'];simp [u8v]
def Uf(l:List UInt8)(j:Nat):List UInt8:=RB l (LY l.length)++(RF l.length).take j
theorem mM(l:List UInt8):Uf l 0=RB l (LY l.length):=by simp [Uf]
theorem Vn(l:List UInt8):Uf l 8=Gv l:=by
 have:(RF l.length).take 8=RF l.length:=Hx (by simp [RF]);simp [Uf,RB,Gv,this]
theorem uR(n j:Nat)(h:j<8):(RF n).take (j+1)=(RF n).take j++[UInt8.ofNat (8*n/2^(8*(7 -j)))]:=by
 rw [nq (by simp [RF];omega)];simp [RF]
theorem mO(l:List UInt8)(j q:Nat)(h:q+j=7):(Uf l j).map u8v++[.int .u8 ((UInt8.ofNat (8*l.length/2^(8*q))).toNat:Int)]=(Uf l (j+1)).map u8v:=by
 unfold Uf;rw [uR _ _ A0,show 7 -j=q by omega];simp [u8v]
theorem ZA(l:List UInt8)(j:Nat)(h:j<=8):(Uf l j).length=l.length+1+LY l.length+j:=by
 have:(RF l.length).length=8:=by simp [RF]
 simp [Uf,Lt,this];omega
theorem yF(m:Nat):IntKind.u8.wrap (m:Int)=((UInt8.ofNat m).toNat:Int):=by
 rw [IntKind.wrap_u8',UInt8.toNat_ofNat'];omega
theorem wm(n k:Nat)(g:k<=LY n)(h:(n+1+k)%64≠56):k<LY n:=by
 have:=jG n;rcases FA k (LY n)with h1|h1
 · exact h1
 · have:k=LY n:=by omega
   subst this;contradiction
theorem wu(n k:Nat)(g:k<=LY n)(h:(n+1+k)%64=56):k=LY n:=by
 unfold LY at g⊢;omega
theorem lc{M x:Nat}{pre post:List Nat}(h:List.range M=pre++x::post):x=pre.length/\x<M:=by
 have g:(List.range M)[pre.length]?=some x:=by rw [h];simp
 have m:pre.length<M:=by
  have:=(C4.1 g).1;simpa using this
 rw [T0 m]at g;have:=S5 g
 omega
theorem bR{cur:AM}{p:List UInt8}(h:cur.toList.take (p.map u8v).length=p.map u8v)(k:Nat)(m:64*k+64<=p.length):N9 cur (64*k) ((p.drop (64*k)).take 64):=by
 unfold N9;have g:((p.drop (64*k)).take 64).length=64:=by simp;omega
 rw [g,List.map_take,ka,<-h];rw [fp,V2];congr 1;simp;omega
theorem xR(l:List UInt8)(M:Nat)(h:(Gv l).length=64*M):sha l=tV (JN M h0 (Gv l)):=by
 unfold sha;rw [h,Nat.mul_div_cancel_left _ A0]
theorem qU(s:Bm)(hs:s.size<=140737488355000)(Tg:AK)(zg:Nat×Nat):
 BJ prog 240 #[.string s] [[(4,.cells (Ez.map Cw).toArray Tg zg)]] (.string (str (sha s.data.toList))):=by
 have kv:=mL;obtain ⟨l,U⟩:∃l,l=s.data.toList:=⟨_,rfl⟩;have J:l.length=s.size:=by rw [U];rfl
 have hz:LY s.size<64:=by unfold LY;omega
 refine DT func240 V ntmps240 V ?_;intro u R;refine Zb [0] ?_;refine A1<|A5 Y<|A1<|Zv (BM (vs:=[(0,_),(1,_),(2,_),(3,_),(4,_),(5,_),(6,_),(7,_)]) (cs:=#[_,_,_,_,_,_,_,_]) Y (DZ zeroValue394 LO G2 V))<|Ze (Al zeroValue394 #[_,_,_,_,_,_,_,_])<|AG fun bh=>Xe (BL sizeOf394 Y Y (jK h0) Wu (by exact (rfl:_=v8c (JN 0 h0 (Gv l)))) Fi Wn (by exact BC _))<|A6<|A1<|Zm Y<|Ze (xD HG HK Mb Y A0) ?_;rintro _ _ ⟨sa,W,rfl⟩;obtain ⟨ga,ca,rfl⟩:=W.form;refine Ze (Ai (vs:=[_]) (cs:=[_]) HK K0 SO Y V rfl V rfl V)<|AG fun b3=>Ze (Dk (by_:=1) (news:=[_]) HK (V:Tryz.prog.info? 5=some Tryz.t5) V rfl V rfl Y W Y Wo Wh Ax V G0 B0 (by(simp only [B6,<-U,J];omega)) (by(simp only [B6,<-U,J];omega))) ?_;rintro _ _ ⟨sb,X,rfl⟩;obtain ⟨gb,cb,rfl⟩:=X.form;refine A5 Y<|Zq<|AR ?_;have gm:Row 5 (.slice gb (List.map u8v s.data.toList++[Value.int IntKind.u8 128]).length cb) ((RB l 0).map u8v) sb:=by
  have e:(RB l 0).map u8v=List.map u8v s.data.toList++[Value.int IntKind.u8 128]:=by rw [<-U];simp [RB,u8v]
  rw [e];exact X
 refine Zb [4,0,3] ?_;refine BF (e0:=[(4,_)]) (fun m e H=>∃(k:Nat) (v:A4) (K:List A9),m=LY s.size -k/\(k<=LY s.size/\Row 5 v ((RB l k).map u8v) K)/\e=[(4,v)]/\H=[K]) (by exact ⟨0,_,_,V,⟨C7 _,gm⟩,V,V⟩) Wp ?_;rintro _ _ _ ⟨k,v,K,rfl,⟨hk,B⟩,rfl,rfl⟩;obtain ⟨gv,cv,rfl⟩:=B.form;refine Zq<|A1<|Zm Y<|Zv (Ab HK Y)<|BZ (FZ (n:=64) Y Y A0)<|Zv (EU (n:=56) Y Y)<|A6<|Av Y (fun G=>?_) (fun G=>?_);·
  rw [B6,Lt,J]at G;have cO:=wm _ _ hk G
  refine AC<|Zx<|AR<|Zg<|Zm Y<|Ze (Ai (vs:=[_]) (cs:=[_]) HK K0 SO Y V rfl V rfl V)<|AG fun b5=>Ze (Dk (by_:=1) (news:=[_]) HK (V:Tryz.prog.info? 5=some Tryz.t5) V rfl V rfl Y B Y Wo Wh Ax V G0 B0 (by(simp only [B6,Lt,J];omega)) (by(simp only [B6,Lt,J];omega))) ?_;rintro _ _ ⟨sc,Z,rfl⟩;obtain ⟨gc,cc,rfl⟩:=Z.form;refine AW Y<|A8<|Zn [4,0,3] ?_;refine Aa (e':=[(4,_)]) (by exact ⟨k+1,_,_,rfl,⟨cO,by rw [<-mK];exact Z⟩,rfl,rfl⟩)
 rw [B6,Lt,J]at G;have ek:=wu _ _ hk A0
 subst ek;refine Az<|Zt<|Zt<|AV<|Zx<|Zq<|A1<|A5 Y<|AR<|Zb [4,5,0,3] ?_;refine BF (e0:=[(4,_),(5,_)]) (fun m e H=>∃(j:Nat) (i:Int) (v:A4) (K:List A9),m=8 -j/\(j<=8/\i=7 -(j:Int)/\Row 5 v ((Uf l j).map u8v) K)/\e=[(4,v),(5,I0 i)]/\H=[K]) (by exact ⟨0,_,_,_,rfl,⟨C7 _,rfl,by rw [mM,J];exact B⟩,rfl,rfl⟩) Wp ?_;rintro _ _ _ ⟨j,i,v,K,rfl,⟨hj,hi,B⟩,rfl,rfl⟩;obtain ⟨gv,cv,rfl⟩:=B.form;refine Zq<|A1<|Zm Y<|Zv (GV Y Y)<|A6<|Av Y (fun O=>?_) (fun O=>?_);·
  obtain ⟨q,rfl⟩:=Int.eq_ofNat_of_zero_le O;refine AC<|Zx<|Zq<|AR<|Zg<|Zm Y<|Zm Y<|Zv (QF HG Y)<|BZ (FC (m:=8) Y Y A0)<|Zm Y<|BZ (FC (m:=8) Y Y A0)<|BZ (QB Y Y (by first|decide|(simp [IntKind.bits];done)|(simp [IntKind.bits];omega)))<|Kr (Ex DE Mb Y (yF _)) rfl rfl<|Ze (Ai (vs:=[_]) (cs:=[_]) HK K0 SO Y rfl rfl rfl rfl rfl)<|AG fun b7=>Ze (Dk (by_:=1) (news:=[_]) HK (V:Tryz.prog.info? 5=some Tryz.t5) V rfl V rfl Y B Y Wo Wh Ax V G0 B0 (by(simp only [B6,ZA l j hj,J];omega)) (by(simp only [B6,ZA l j hj,J];omega))) ?_;rintro _ _ ⟨sd,af,rfl⟩;obtain ⟨gd,cd,rfl⟩:=af.form;refine AW Y<|Zn [0,3,4,5] ?_;refine A8<|Zx<|Zg<|Zm Y<|BZ (FU Y Y (IntWalk.i64_in _ A0))<|AW Y<|Zn [4,5,0,3] ?_;refine Aa (e':=[(4,_),(5,_)]) (by exact ⟨j+1,_,_,_,rfl,⟨by omega,by omega,by rw [<-mO l j q A0,J];exact af⟩,rfl,rfl⟩)
 have ej:j=8:=by omega
 subst ej;refine Az<|Zt<|Zt<|AV<|Zx<|Zq<|Zq ?_;rw [Vn]at B;obtain ⟨M,hM⟩:∃M,(Gv l).length=64*M:=⟨(Gv l).length/64,by have:=fK l;omega⟩;have dn:=TG l
 rw [J]at dn;rw [Vn];obtain ⟨g,cap,cur,z,hv,rfl,d9,cu,j3,gq,j5⟩:=B.some (by rw [B6];omega);simp only [Value.slice.injEq]at hv;obtain ⟨rfl,_,rfl⟩:=hv;rw [B6]at d9;rw [B6,hM];refine Zg<|Zm Y<|Zc [_,_] Y call273 Y V (iV _ _ _) ?_;rintro _ _ ⟨_,⟨bs,bn,rfl,rfl⟩,rfl⟩;refine A6<|AR<|Zb [3,34] ?_;refine R8 (H0:=_) (R:=_) (I:=(fun pre H=>H=[[(bh,.cells (v8c (JN pre.length h0 (Gv l))) 394 (0,0))],[(g,.cells cur 5 z)],[(4,.cells (Ez.map Cw).toArray Tg zg)]])) (asg:=fun x=>[(6,QU g x),(35,QU g x)]) V Y call303 (iW g cv M bs bn A0 cu) Y V Wp (V) ?ha_6 ?hbd_6 ?hk_6
 case ha_6=>
  intro _ x _ _;refine Zg<|Za Y<|Z0 ?_;exact jh
 case hbd_6=>
  intro l pre x post u H1 R1 ic hI;subst hI;obtain ⟨gy,l5⟩:=lc ic;subst gy;refine AR<|Zg<|Zm Y<|Zc [_,_] Y call274 Y rfl (wP _ _ _ _ _ _ _ _ (by rw [CD,CH];omega) (bR gq _ A0) _ _ _ _) ?_;rintro _ _ ⟨_,⟨rfl,rfl⟩,rfl⟩;refine Z0<|A8<|Ei rfl (by rw [BW,F2,R4])
 intro D1 H2 ax;subst ax;refine Zn [3] ?_;refine A8<|Zx<|A1<|Zo Wh (AB (cs:=v8c (JN M h0 (Gv l))) isAgg394 sizeOf394 Y Wn (by rw [Wg];exact Ib _ _ rfl))<|Xr [_] Y call275 Y rfl (bI _)<|A5 Y<|AJ<|Fw rfl (eG results240 Y) Wo (by exact ⟨by rw [<-U,xR l M hM],rfl⟩)
end Go.Proofs.YthhakdmlpngcmaaGreatDoor
