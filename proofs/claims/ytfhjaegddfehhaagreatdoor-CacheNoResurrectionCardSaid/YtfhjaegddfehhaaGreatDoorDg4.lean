/- Contracts: bits.RotateLeft32 at the counts of the program, digest.mixed, digest.schedule. -/
import Derived.Test.YtfhjaegddfehhaaGreatDoorA1
import Derived.Test.YtfhjaegddfehhaaGreatDoorSha
import Derived.Test.YtfhjaegddfehhaaGreatDoorEx30
set_option linter.unusedVariables false
set_option linter.unusedSimpArgs false
namespace Go.Proofs.YtfhjaegddfehhaaGreatDoor
open Go.Proofs.Tryz
open Go Go.RowKit Gw
set_option maxRecDepth 100000
attribute [local irreducible] Gw.At Gw.Nx Gw.Ops
theorem kM(x:UInt32)(n m:Nat)(h0:0<n)(g:n<32)(B:n+m=32):(x<<<UInt32.ofNat m)|||(x>>>UInt32.ofNat n)=pX x (UInt32.ofNat n):=by
 unfold pX;have:(32:UInt32) -UInt32.ofNat n=UInt32.ofNat m:=by
  apply UInt32.toNat_inj.1;rw [UInt32.toNat_sub,kj,kj];simp only [UInt32.reduceToNat];omega
 rw [this]
theorem wQ(n m:Nat)(h0:0<n)(B:n<32)(G:n+m=32):bits .and .u64 (IntKind.u64.wrap (-(n:Int))) 31=(m:Int):=by
 have h:IntKind.u64.wrap (-(n:Int))=((18446744073709551616 -n:Nat):Int):=by rw [IntKind.wrap_u64];omega
 have g:(31:Int)=((31:Nat):Int):=rfl;rw [h,g,u64_and_nat _ _ A1 A1,nat_mask5];omega
theorem kL(x:UInt32)(n:Nat)(h0:0<n)(g:n<32):BH prog 317 #[.int .u32 x.toNat,I4 (-(n:Int))] [] (.int .u32 (pX x (UInt32.ofNat n)).toNat):=by
 refine Ka func317 V ntmps317 V ?_;intro u R;obtain ⟨m,B⟩:∃m,n+m=32:=⟨32 -n,by omega⟩;refine Zb [0,1] ?_;refine A0<|A3 Y<|A0<|Zm Y<|Kl (Es C5 W5 Y V) V rfl<|Kl (rE Y Y (wQ n m h0 g B)) V rfl<|A3 Y<|A0<|Zm Y<|Zm Y<|Bb (Mj Y Y A1)<|Zm Y<|Zm Y<|Bb (UW (m:=32) Y Y A1 A1)<|Bb (Mi Y Y A1)<|Zv (Oq Y Y)<|AG Y<|Zn [4] ?_;refine Zx<|AJ<|AO V results317 Y (by
  have e:32 -m=n:=by omega
  exact ⟨by rw [e,kM x n m h0 g B],rfl⟩)
theorem rY(x:UInt32)(l:List UInt32)(n:UInt32):XH x (l++[n])=XH x l^^^pX x n:=by simp [XH]
def pH(n:Nat):Value:=I4 (n:Int)
theorem jo{α β:Type}(f:α->β)(l:List α)(k:Nat)(d:α)(h:k<l.length):(l.take (k+1)).map f=(l.take k).map f++[f (l.getD k d)]:=by
 rw [nB h,BW];simp [My,B3 h]
theorem XU{α:Type}(f:α->Value)(l:List α)(k:Nat)(d:α)(h:k<l.length):(l.map f).toArray[k]?=some (f (l.getD k d)):=by
 simp [B3 h,My]
theorem IZ(x:UInt32)(l:List Nat)(g cap:Nat)(T:TypeId)(z:Nat×Nat)(I:∀n∈l,0<n/\n<32)(hn:l.length<=100):
 BH prog 303 #[.int .u32 x.toNat,I6 g l.length cap] [[(g,.cells (l.map pH).toArray T z)]] (.int .u32 (XH x (l.map UInt32.ofNat)).toNat):=by
 refine Se func303 ntmps303 [0,1] ?_;intro u R;refine A0<|A3 Y<|A0<|A3 Y<|Zq<|A0<|Zm Y<|Zv (AY Cl Y)<|Zm Y<|A5<|AR<|Zb [5,10,0,8,9] ?_;refine BA (e0:=[(5,_),(10,_)]) (fun m e H=>∃k:Nat,m=l.length -k/\(k<=l.length)/\e=[(5,.int .u32 ((XH x ((l.take k).map UInt32.ofNat)).toNat:Int)),(10,I4 (k:Int))]/\H=[]) (by exact ⟨0,V,C0 _,V,V⟩) Wp ?_;rintro _ _ _ ⟨k,rfl,J,rfl,rfl⟩;refine A0<|Zv (Au Y Y)<|A5<|Zq<|Aq Y (fun G=>?_) (fun G=>?_);·
  refine AC<|Zx<|Zq<|AR<|A0<|Bb (BV Cl A4 Y Y A1)<|Zl AD Y (hv:=by exact XU pH l k 0 A1)<|AG Y<|Zx ?_;have B:=I (l.getD k 0) (by rw [My,B3 A1];exact oe _)
  refine Zg<|Zm Y<|Zm Y<|Zm Y<|Kl (j4 (c:=-(l.getD k 0:Int)) Y (by rw [Int.zero_sub];exact IntWalk.i64_in _ A1)) rfl rfl<|Xr [_,_] Y call317 Y rfl (kL _ _ B.1 B.2)<|Zv (FV Y Y)<|AG Y<|A8<|Zx<|Zg<|Ya (n:=1) Y Y<|Zm Y<|Z0<|Zn [5,10,0,8,9] ?_;refine Ab (e':=[(5,_),(10,_)]) (by exact ⟨k+1,rfl,by omega,by rw [jo _ _ _ 0 A1,rY],rfl⟩)
 refine Ay<|Zt<|Zt<|AU<|Zx<|A0<|Zm Y<|A3 Y<|AJ<|AO V results303 Y (by
  have e:k=l.length:=by omega
  exact ⟨by rw [e,GB],rfl⟩)
def El(l:List UInt32):List Value:=l.map Cs++List.replicate (64 -l.length) (.int .u32 0)
theorem Cg(l:List UInt32)(h:l.length<=64):(El l).length=64:=by simp [El];omega
theorem bS(l:List UInt32)(i:Nat)(h:i<l.length):(El l).toArray[i]?=some (Cs (l.getD i 0)):=by
 simp [El,nt,h,My]
theorem bQ(l:List UInt32)(x:UInt32)(h:l.length<64):(El l).toArray.setIfInBounds l.length (Cs x)=(El (l++[x])).toArray:=by
 rw [nF];congr 1;unfold El;rw [ki _ _ B0];simp only [B4,W4,B7,DG,KK];obtain ⟨n,hn⟩:∃n,64 -l.length=n+1:=⟨63 -l.length,by omega⟩;rw [hn,show 64 -(l.length+(0+1))=n by omega];simp [List.replicate_succ]
theorem JX(b:List UInt8)(k:Nat)(x:UInt32)(h:k<64)(hx:Fb b (k+1)=Fb b k++[x]):(El (Fb b k)).toArray.setIfInBounds k (.int .u32 (x.toNat:Int))=(El (Fb b (k+1))).toArray:=by
 have:=bQ (Fb b k) x (by rw [CX];exact h);rw [CX]at this;rw [hx];exact this
theorem bR(l:List UInt32):∀v∈(El l).toArray.toList,v.oneCell'=true:=by
 intro v hv;simp only [El,B9,Bm,List.mem_replicate]at hv;rcases hv with⟨x,_,rfl⟩|⟨_,rfl⟩<;>rfl
theorem Y4(l:List UInt32)(h:l.length=64):El l=l.map Cs:=by simp [El,h]
theorem oL(b:List UInt8)(k:Nat)(h:k<16):Fb b (k+1)=Fb b k++[bM b k]:=by rw [Fb,AM h]
theorem Re(b:List UInt8)(k:Nat)(h:16<=k):Fb b (k+1)=Fb b k++[Z6 (Fb b k) k]:=by rw [Fb,AK A1]
def N8(c:Array Value)(o:Nat)(bs:List UInt8):Prop:=(c.toList.drop o).take bs.length=bs.map u8v
theorem N8.get{c:Array Value}{o:Nat}{bs:List UInt8}(h:N8 c o bs)(j:Nat)(m:j<bs.length):c[o+j]?=some (u8v (bs.getD j 0)):=by
 have g:((c.toList.drop o).take bs.length)[j]?=(bs.map u8v)[j]?:=by rw [h]
 rw [HC,AM m,NO,DO,B3 m]at g;rw [HH]at g;rw [g];simp [My,B3 m]
theorem KW(b:List UInt8)(k i:Nat)(h:i<k):(El (Fb b k)).toArray[i]?=some (Cs ((Fb b k).getD i 0)):=bS _ _ (by rw [CX];exact h)
theorem dE(g o cap:Nat)(c:Array Value)(T:TypeId)(z:Nat×Nat)(bs:List UInt8)(hb:bs.length=64)(hc:N8 c o bs):
 BH prog 302 #[.slice (some ⟨g,o,none⟩) 64 cap] [[(g,.cells c T z)]] (.agg ((iX bs).map Cs).toArray):=by
 refine Se func302 ntmps302 [0] ?_;intro u R;refine A0<|Ze (Ea zeroValue416 (cs:=(El []).toArray) A6)<|AE fun J=>A5<|Zq<|A0<|Zm Y<|A5<|AR<|Zb [7,0,2] ?_;refine BA (e0:=[(7,_)]) (fun m e H=>∃k:Nat,m=16 -k/\(k<=16)/\e=[(7,I4 (k:Int))]/\H=[[(J,.cells (El (Fb bs k)).toArray 416 (0,0))]]) (by exact ⟨0,V,C0 _,V,V⟩) Wp ?_;rintro _ _ _ ⟨k,rfl,K,rfl,rfl⟩;refine A0<|Zv (Au (n:=16) Y Y)<|A5<|Zq<|Aq Y (fun G=>?_) (fun G=>?_);·
  refine AC<|Zx<|Zq<|AR<|A0<|Zm Y<|A3 Y<|Az (n:=36) (0::0::0::4::14::30::62::126::0::0::512::1536::3840::7936::16128::32512::65534::0::0::262144::786432::1966080::4063232::8257536::16646144::33554430::0::0::134217728::402653184::1006632960::2080374784::4227858432::8589934590::17179869183::34359738367::[]) 34359738368 A6 A6 rfl<|A2 0 rfl (AP Y)<|A2 1 rfl (AP Y)<|A2 2 rfl (AP Y)<|A2 3 rfl (F6 (m:=4) Y Y A1)<|A2 4 rfl (CB HE It Y Y (by first|omega|(rw [Gk,Cg _ (by rw [CX];omega)];omega)))<|B2 5 rfl T7 Y (hv:=by exact hc.get _ A1) ?_;refine A2 6 rfl (IK Mb Sp Y)<|A2 7 rfl (Mj (n:=24) Y Y A1)<|A2 8 rfl (AP Y)<|A2 9 rfl (AP Y)<|A2 10 rfl (F6 (m:=4) Y Y A1)<|A2 11 rfl (EC (n:=1) Y Y A1)<|A2 12 rfl (CB HE It Y Y (by first|omega|(rw [Gk,Cg _ (by rw [CX];omega)];omega)))<|B2 13 rfl T7 Y (hv:=by exact hc.get _ A1) ?_;refine A2 14 rfl (IK Mb Sp Y)<|A2 15 rfl (Mj (n:=16) Y Y A1)<|A2 16 rfl (Oq Y Y)<|A2 17 rfl (AP Y)<|A2 18 rfl (AP Y)<|A2 19 rfl (F6 (m:=4) Y Y A1)<|A2 20 rfl (EC (n:=2) Y Y A1)<|A2 21 rfl (CB HE It Y Y (by first|omega|(rw [Gk,Cg _ (by rw [CX];omega)];omega)))<|B2 22 rfl T7 Y (hv:=by exact hc.get _ A1) ?_;refine A2 23 rfl (IK Mb Sp Y)<|A2 24 rfl (Mj (n:=8) Y Y A1)<|A2 25 rfl (Oq Y Y)<|A2 26 rfl (AP Y)<|A2 27 rfl (AP Y)<|A2 28 rfl (F6 (m:=4) Y Y A1)<|A2 29 rfl (EC (n:=3) Y Y A1)<|A2 30 rfl (CB HE It Y Y (by first|omega|(rw [Gk,Cg _ (by rw [CX];omega)];omega)))<|B2 31 rfl T7 Y (hv:=by exact hc.get _ A1) ?_;refine A2 32 rfl (IK Mb Sp Y)<|A2 33 rfl (Oq Y Y)<|A2 34 rfl (BI UP Fc Y Y (by first|omega|(rw [Gk,Cg _ (by rw [CX];omega)];omega)))<|Yw 35 68719476735 rfl (Zs Fc Y Y rfl (hc:=by exact JX bs k (bM bs k) A1 (oL bs k A1)) (hi:=by(rw [Gk,Cg _ (by rw [CX];omega)];omega)))<|CT<|Ag<|Zn [0,2,7] ?_;refine A8<|Zx<|Zg<|Ya (n:=1) Y Y<|Zm Y<|Z0<|Zn [7,0,2] ?_;refine Ab (e':=[(7,_)]) (by exact ⟨k+1,V,by omega,V,V⟩)
 refine Ay<|Zt<|Zt<|AU<|Zx<|Zq<|A0<|A3 Y<|AR ?_;have B:k=16:=by omega
 subst B;refine Zb [4,2] ?_;refine BA (e0:=[(4,_)]) (fun m e H=>∃k:Nat,m=64 -k/\(16<=k/\k<=64)/\e=[(4,I4 (k:Int))]/\H=[[(J,.cells (El (Fb bs k)).toArray 416 (0,0))]]) (by exact ⟨16,V,by omega,V,V⟩) Wp ?_;rintro _ _ _ ⟨k,rfl,⟨O,K⟩,rfl,rfl⟩;refine Zq<|A0<|Zm Y<|Zv (Au (n:=64) Y Y)<|A5<|Aq Y (fun I=>?_) (fun I=>?_);·
  refine AC<|Zx<|Zq<|AR<|Zq<|Az (n:=10) (0::1::3::7::0::16::48::112::15::511::[]) 0 A6 A6 V<|A2 0 V (AP Y) ?_
  (refine Dr (D':=3) 1 (CO (n:=15) Y Y ?_ ?_) ?_;(focus (omega));(focus (omega)))
  refine A2 2 V (BI UP Fc Y Y A1)<|B2 3 V HW Y (hv:=by exact KW bs k _ A1) ?_;refine A2 4 V (AP Y) ?_
  (refine Dr (D':=63) 5 (CO (n:=2) Y Y ?_ ?_) ?_;(focus (omega));(focus (omega)))
  refine A2 6 V (BI UP Fc Y Y A1)<|B2 7 V HW Y (hv:=by exact KW bs k _ A1) ?_;refine A2 8 V (Av Y)<|A2 9 V (Av Y)<|Ag<|Zx<|Az (n:=26) (0::0::2::6::14::0::0::96::0::256::992::2046::0::4096::12288::28672::65534::0::0::393440::0::1048576::4063456::8388606::16777215::33554431::[]) 34341056 A6 A6 V<|A2 0 V (AP Y)<|A2 1 V (AP Y) ?_
  (refine Dr (D':=7) 2 (CO (n:=16) Y Y ?_ ?_) ?_;(focus (omega));(focus (omega)))
  refine A2 3 rfl (BI UP Fc Y Y (by first|omega|(rw [Gk,Cg _ (by rw [CX];omega)];omega)))<|B2 4 rfl HW Y (hv:=by exact KW bs k _ A1) ?_;refine A2 5 V (AP Y)<|A2 8 V (AP Y)<|A2 9 V (Mi (n:=3) Y Y A1)<|A2 12 V (AP Y) ?_
  (refine Dr (D':=13119) 13 (CO (n:=7) Y Y ?_ ?_) ?_;(focus (omega));(focus (omega)))
  refine A2 14 rfl (BI UP Fc Y Y (by first|omega|(rw [Gk,Cg _ (by rw [CX];omega)];omega)))<|B2 15 rfl HW Y (hv:=by exact KW bs k _ A1) ?_;refine A2 17 V (AP Y)<|A2 20 V (AP Y)<|A2 21 V (Mi (n:=10) Y Y A1)<|Zz (l:=[6,18])<|B1 [true,true] [(15,(_,_)),(4,(_,_))] V rfl (Ah (vs:=[_,_]) (cs:=[_,_]) Cl A4 H4 Y V rfl V rfl V) ?_ (fun _ _ h=>h.elim) ?_;·
   rintro _ _ ⟨U,rfl,rfl⟩;refine B6<|Zz (l:=[7,18])<|B1 [true,true] [(15,(_,_)),(4,(_,_))] V rfl (Zu [_,_] Y aq Y V (IZ _ [7,18] _ _ _ _ AH AH)) ?_ (fun _ _ h=>h.elim) ?_;·
    rintro _ _ ⟨rfl,rfl⟩;refine B6<|A2 10 V (FV Y Y)<|A2 11 V (Df Y Y)<|A2 16 V (Df Y Y)<|Zz (l:=[18])<|B1 [true,true] [(15,(_,_)),(4,(_,_))] V rfl (Ah (vs:=[_,_]) (cs:=[_,_]) Cl A4 H4 Y V rfl V rfl V) ?_ (fun _ _ h=>h.elim) Ai;rintro _ _ ⟨W,rfl,rfl⟩;refine B6<|Yz 19 393440 4194303 [15,4] [true,true] [(15,(_,_)),(4,(_,_))] V Y V rfl V rfl (Zu [_,_] Y aq Y V (IZ _ [17,19] _ _ _ _ AH AH))<|CT<|B6<|A2 22 rfl (FV Y Y)<|A2 23 rfl (Df Y Y)<|A2 24 rfl (BI UP Fc Y Y (by first|omega|(rw [Gk,Cg _ (by rw [CX];omega)];omega)))<|Yw 25 67108863 rfl (Zs Fc Y Y rfl (hc:=by exact JX bs k (Z6 (Fb bs k) k) A1 (Re bs k A1)) (hi:=by(rw [Gk,Cg _ (by rw [CX];omega)];omega)))<|CT<|Ag<|Zn [2,4] ?_;refine A8<|Zx<|Zg<|Zm Y<|Ya (n:=1) Y Y<|AG Y<|Zn [4,2] ?_;refine Ab (e':=[(4,_)]) (by exact ⟨k+1,V,by omega,V,V⟩)
   refine B1 [true,true] [(15,(_,_)),(4,(_,_))] V rfl (Ah (vs:=[_,_]) (cs:=[_,_]) Cl A4 H4 Y V rfl V rfl V) ?_ (fun _ _ h=>h.elim) Ai;rintro _ _ ⟨X,rfl,rfl⟩;refine B6<|Yz 7 96 3601407 [15,4] [true,true] [(15,(_,_)),(4,(_,_))] V Y V rfl V rfl (Zu [_,_] Y aq Y V (IZ _ [7,18] _ _ _ _ AH AH))<|CT<|B6<|A2 10 V (FV Y Y)<|A2 11 V (Df Y Y)<|A2 16 V (Df Y Y)<|Zz (l:=[19])<|B1 [true,true] [(15,(_,_)),(4,(_,_))] V rfl (Zu [_,_] Y aq Y V (IZ _ [17,19] _ _ _ _ AH AH)) ?_ (fun _ _ h=>h.elim) Ai;rintro _ _ ⟨rfl,rfl⟩;refine B6<|A2 22 rfl (FV Y Y)<|A2 23 rfl (Df Y Y)<|A2 24 rfl (BI UP Fc Y Y (by first|omega|(rw [Gk,Cg _ (by rw [CX];omega)];omega)))<|Yw 25 67108863 rfl (Zs Fc Y Y rfl (hc:=by exact JX bs k (Z6 (Fb bs k) k) A1 (Re bs k A1)) (hi:=by(rw [Gk,Cg _ (by rw [CX];omega)];omega)))<|CT<|Ag<|Zn [2,4] ?_;refine A8<|Zx<|Zg<|Zm Y<|Ya (n:=1) Y Y<|AG Y<|Zn [4,2] ?_;refine Ab (e':=[(4,_)]) (by exact ⟨k+1,V,by omega,V,V⟩)
  refine B1 [true,true] [(15,(_,_)),(4,(_,_))] V rfl (Ah (vs:=[_,_]) (cs:=[_,_]) Cl A4 H4 Y V rfl V rfl V) ?_ (fun _ _ h=>h.elim) Ai;rintro _ _ ⟨Z,rfl,rfl⟩;refine B6<|Yz 6 0 3601279 [15,4] [true,true] [(15,(_,_)),(4,(_,_))] V Y V rfl V rfl (Ah (vs:=[_,_]) (cs:=[_,_]) Cl A4 H4 Y V rfl V rfl V)<|AE fun b6=>B6<|Yz 7 96 3601407 [15,4] [true,true] [(15,(_,_)),(4,(_,_))] V Y V rfl V rfl (Zu [_,_] Y aq Y V (IZ _ [7,18] _ _ _ _ AH AH))<|CT<|B6<|A2 10 V (FV Y Y)<|A2 11 V (Df Y Y)<|A2 16 V (Df Y Y)<|Zz (l:=[19])<|B1 [true,true] [(15,(_,_)),(4,(_,_))] V rfl (Zu [_,_] Y aq Y V (IZ _ [17,19] _ _ _ _ AH AH)) ?_ (fun _ _ h=>h.elim) Ai;rintro _ _ ⟨rfl,rfl⟩;refine B6<|A2 22 rfl (FV Y Y)<|A2 23 rfl (Df Y Y)<|A2 24 rfl (BI UP Fc Y Y (by first|omega|(rw [Gk,Cg _ (by rw [CX];omega)];omega)))<|Yw 25 67108863 rfl (Zs Fc Y Y rfl (hc:=by exact JX bs k (Z6 (Fb bs k) k) A1 (Re bs k A1)) (hi:=by(rw [Gk,Cg _ (by rw [CX];omega)];omega)))<|CT<|Ag<|Zn [2,4] ?_;refine A8<|Zx<|Zg<|Zm Y<|Ya (n:=1) Y Y<|AG Y<|Zn [4,2] ?_;refine Ab (e':=[(4,_)]) (by exact ⟨k+1,V,by omega,V,V⟩)
 refine Ay<|Zt<|Zt<|AU<|Zx<|A0<|Zo Wh (A9 isAgg416 sizeOf416 Y (by(rw [Gk,Cg _ (by rw [CX];omega)];omega)) (by exact Ic _ _ (by rw [Gk,Cg _ (by rw [CX];omega)]))) ?_;refine Xe (BL sizeOf416 Y Y (by exact bR _) Wu (by exact rG _) (by rw [Gk,Cg _ (by rw [CX];omega)]) (by(rw [Gk,Cg _ (by rw [CX];omega)];omega)) (by exact BB _)) ?_;refine A5<|AJ<|Cu rfl results302 Y Wh (Am isAgg416 sizeOf416 (by(rw [Gk,Cg _ (by rw [CX];omega)];omega)) (Ic _ _ (by rw [Gk,Cg _ (by rw [CX];omega)]))) (by
  have e:k=64:=by omega
  exact ⟨by rw [e,Y4 _ (CX _ _)];rfl,rfl⟩)
def v8c(v:V8):Array Value:=#[Cs v.a,Cs v.b,Cs v.c,Cs v.d,Cs v.e,Cs v.f,Cs v.g,Cs v.h]
theorem oN(v:V8):v8c v=(v.list.map Cs).toArray:=rfl
theorem tm(k:Nat)(h:k<64):(Et.map Cs).toArray[k*1]?=some (Cs (Et.getD k 0)):=by rw [N2];exact XU Cs Et k 0 (by rw [si];exact h)
def Vu(x y:V8)(i:Nat):List UInt32:=(yO x y).list.take i++x.list.drop i
theorem Mq(x y:V8)(i:Nat)(h:i<=8):(Vu x y i).length=8:=by
 have:(yO x y).list.length=8:=rfl;have h2:x.list.length=8:=rfl
 simp [Vu,this,h2];omega
theorem mZ(x y:V8)(i:Nat)(h:i<8):((Vu x y i).map Cs).toArray[i]?=some (Cs (x.list.getD i 0)):=by
 have:i=0\/i=1\/i=2\/i=3\/i=4\/i=5\/i=6\/i=7:=by omega
 rcases this with rfl|rfl|rfl|rfl|rfl|rfl|rfl|rfl<;>rfl
theorem oP(y:V8)(i:Nat)(h:i<8):(v8c y)[i]?=some (Cs (y.list.getD i 0)):=by
 have:i=0\/i=1\/i=2\/i=3\/i=4\/i=5\/i=6\/i=7:=by omega
 rcases this with rfl|rfl|rfl|rfl|rfl|rfl|rfl|rfl<;>rfl
theorem mY(x y:V8)(i:Nat)(h:i<8):((Vu x y i).map Cs).toArray.setIfInBounds i (.int .u32 ((x.list.getD i 0+y.list.getD i 0).toNat:Int))=((Vu x y (i+1)).map Cs).toArray:=by
 have:i=0\/i=1\/i=2\/i=3\/i=4\/i=5\/i=6\/i=7:=by omega
 rcases this with rfl|rfl|rfl|rfl|rfl|rfl|rfl|rfl<;>rfl
theorem bY(x:V8)(k:Nat)(m:List UInt32)(v:V8)(hx:x=Lh m v k):
 ((#[Cs x.a,Cs x.a,Cs x.b,Cs x.c,Cs x.d,Cs x.e,Cs x.f,Cs x.g]:Array Value).setIfInBounds 0 (.int .u32 ((Gw.D6 x (Et.getD k 0) (m.getD k 0)+yU x).toNat:Int))).setIfInBounds 4 (.int .u32 ((x.d+Gw.D6 x (Et.getD k 0) (m.getD k 0)).toNat:Int))=v8c (Lh m v (k+1)):=by
 subst hx;rfl
theorem kE(bs:List UInt8):(iX bs).length=64:=CX bs 64
theorem pR(g:List UInt32)(h:g.length=64):((g.map Cs).toArray).size=64:=by rw [Gk,B4,h]
theorem pU(g:List UInt32)(h:g.length=64):EL (El []).toArray 0 ((g.map Cs).toArray).toList=(g.map Cs).toArray:=
 Yu (El []).toArray (g.map Cs) (by rw [B4,h];rfl)
theorem vk:0+64<=((El []).toArray).size:=by rw [Gk,Cg _ (C0 _)];exact CM _
theorem iM(v:V8):∀x∈(v8c v).toList,x.oneCell'=true:=by
 intro x hx;rw [oN]at hx;simp only [Bm]at hx;obtain ⟨y,_,rfl⟩:=hx;rfl
theorem oV(l:List UInt32):∀x∈(l.map Cs).toArray.toList,x.oneCell'=true:=by
 intro x hx;simp only [Bm]at hx;obtain ⟨y,_,rfl⟩:=hx;rfl
theorem vG(J g o cap:Nat)(c:Array Value)(T:TypeId)(z:Nat×Nat)(bs:List UInt8)(hb:bs.length=64)(hc:N8 c o bs)(K X:TypeId)(zg:Nat×Nat)(v:V8):
 Ba prog 267 #[I5 J,.slice (some ⟨g,o,none⟩) 64 cap] [[(J,.cells (v8c v) K (0,0))],[(g,.cells c T z)],[(4,.cells (Et.map Cs).toArray X zg)]]
  (fun r H'=>r= .tuple #[]/\H'=[[(J,.cells (v8c (Xl v bs)) K (0,0))],[(g,.cells c T z)],[(4,.cells (Et.map Cs).toArray X zg)]]):=by
 refine Ka func267 V ntmps267 V ?_;intro u R;obtain ⟨B,G⟩:∃B,B=iX bs:=⟨_,rfl⟩;have Z:B.length=64:=by rw [G];exact kE bs
 have I:=dE g o cap c T z bs hb hc;rw [<-G]at I;have O:Xl v bs=yO v (Lh B v 64):=by rw [G];rfl
 clear G;rw [O];refine Zb [0,1] ?_;refine A0<|Zm Y<|Xr [_] Y call302 Y V (I) ?_;refine Ze (Ea zeroValue416 (cs:=(El []).toArray) A6)<|AE fun bw=>Xe (BL sizeOf416 Y Y (by exact oV _) Wu (by exact pU B Z) (by exact pR B Z) (by exact vk) (by exact BB _)) ?_;refine A5<|A0<|Zm Y<|Zp Y V<|Zo Wh (A9 (cs:=v8c v) isAgg388 sizeOf388 Y Wn AN) ?_;refine Ze (Al zeroValue388 #[_,_,_,_,_,_,_,_])<|AE fun bv=>Xe (BL sizeOf388 Y Y (by exact iM v) Wu (by exact (rfl:_=v8c (Lh B v 0))) E6 Wn (by exact BB _)) ?_;refine A5<|Zq<|A0<|Zo Wh (A9 (cs:=(Et.map Cs).toArray) isAgg416 sizeOf416 Y (by exact CM _) (by exact Ic _ _ V)) ?_;refine Zm Y<|A5<|AR<|Zb [19,0,4,5,18] ?_;refine BA (e0:=[(19,_)]) (fun m e H=>∃k:Nat,m=64 -k/\(k<=64)/\e=[(19,I4 (k:Int))]/\H=[[(bv,.cells (v8c (Lh B v k)) 388 (0,0))]]) (by exact ⟨0,V,C0 _,V,V⟩) Wp ?_;rintro _ _ _ ⟨k,rfl,hk,rfl,rfl⟩;obtain ⟨x,hx⟩:∃x,x=Lh B v k:=⟨_,rfl⟩;rw [<-hx];refine A0<|Zv (Au (n:=64) Y Y)<|A5<|Zq<|Aq Y (fun U=>?_) (fun U=>?_);·
  refine AC<|Zx<|Zq<|AR<|A0<|Zm Y<|Zv (Qh UP HW Fc Y Y A1 (by exact tm k A1))<|Za Y<|A3 Y<|Zq<|Az (n:=6) (0::1::0::4::3::31::[]) 0 A6 A6 V<|A2 0 V (BI (j:=0) LO Fc Y Y A1)<|B2 1 V HW Y ?_;refine A2 2 V (BI (j:=4) LO Fc Y Y A1)<|B2 3 V HW Y ?_;refine A2 4 V (Av Y)<|A2 5 V (Av Y)<|Ag<|Zx<|Zq<|Az (n:=24) (0::1::0::0::12::31::0::0::128::448::0::1024::0::4096::15360::32704::65535::0::262143::0::524288::1572864::4194303::8388607::[]) 24 A6 A6 V<|A2 0 V (BI (j:=7) LO Fc Y Y A1)<|B2 1 V HW Y ?_;refine A2 2 V (AP Y)<|A2 6 V (AP Y)<|A2 7 V (BI (j:=5) LO Fc Y Y A1)<|B2 8 V HW Y ?_;refine A2 9 V (KH Y Y)<|A2 10 V (AP Y)<|A2 11 V (lF Y)<|A2 12 V (BI (j:=6) LO Fc Y Y A1)<|B2 13 V HW Y ?_;refine A2 14 V (KH Y Y)<|A2 15 V (FV Y Y)<|A2 17 V (AP Y)<|A2 19 V (AP Y)<|A2 20 V (BI UP Fc Y Y A1)<|B2 21 V HW Y (hv:=by exact XU Cs B k 0 A1) ?_;refine Yz 3 0 3866575 [21,13,8,1] [true,true,true,true] [(21,(_,_)),(13,(_,_)),(8,(_,_)),(1,(_,_))] V Y V rfl V rfl (Ah (vs:=[_,_,_]) (cs:=[_,_,_]) Cl A4 H4 Y V rfl V rfl V)<|AE fun b3=>B6<|Yz 4 12 3866591 [21,13,8,1] [true,true,true,true] [(21,(_,_)),(13,(_,_)),(8,(_,_)),(1,(_,_))] V Y V rfl V rfl (Zu [_,_] Y aq Y V (IZ _ [6,11,25] _ _ _ _ AH AH))<|CT<|B6<|A2 5 V (Df Y Y)<|A2 16 V (Df Y Y)<|A2 18 V (Df Y Y)<|A2 22 V (Df Y Y)<|A2 23 V (Av Y)<|Ag<|Zn [0,4,5,8,10,18,19] ?_;refine Zx<|Zq<|Az (n:=20) (0::0::3::0::0::16::56::0::0::256::896::2040::0::4096::0::16384::61440::131064::262143::524287::[]) 6 A6 A6 V<|A2 0 V (AP Y)<|A2 3 V (AP Y)<|A2 4 V (BI (j:=1) LO Fc Y Y A1)<|B2 5 V HW Y ?_;refine A2 6 V (KH Y Y)<|A2 7 V (AP Y)<|A2 8 V (BI (j:=2) LO Fc Y Y A1)<|B2 9 V HW Y ?_;refine A2 10 V (KH Y Y)<|A2 11 V (FV Y Y)<|A2 12 V (BI (j:=1) LO Fc Y Y A1)<|B2 13 V HW Y ?_;refine A2 14 V (BI (j:=2) LO Fc Y Y A1)<|B2 15 V HW Y ?_
  refine A2 16 V (KH Y Y)<|A2 17 V (FV Y Y)<|Zz (l:=[1])<|B1 [true,true,true,true] [(15,(_,_)),(13,(_,_)),(9,(_,_)),(5,(_,_))] V rfl (Ah (vs:=[_,_,_]) (cs:=[_,_,_]) Cl A4 H4 Y V rfl V rfl V) ?_ (fun _ _ h=>h.elim) Ai;rintro _ _ ⟨b4,rfl,rfl⟩;refine B6<|Yz 2 3 262143 [15,13,9,5] [true,true,true,true] [(15,(_,_)),(13,(_,_)),(9,(_,_)),(5,(_,_))] V Y V rfl V rfl (Zu [_,_] Y aq Y V (IZ _ [2,13,22] _ _ _ _ AH AH))<|CT<|B6<|A2 18 V (Df Y Y)<|A2 19 V (Av Y)<|Ag<|Zn [0,4,5,10,11,18,19] ?_;refine Zx<|Zq<|Az (n:=3) (0::0::3::[]) 4 A6 A6 V<|A2 0 V (Q7 (l:=1) LO Fc Y Y A1)<|A2 1 V (TB (h:=7) LO Fc Y Y A1)<|Yw 2 7 V (yz (cs:=[_,_,_,_,_,_,_]) (c':=#[_,_,_,_,_,_,_,_]) underlying419 Fc Y Y Wh Wu AN AN AN (by exact CM 8) (BB _) (by simp [Value.oneCell',Cs]))<|CT<|Ag<|Zx<|Zg<|Zm Y<|Zm Y<|Zv (Df Y Y)<|Bb (BI (j:=4) LO Fc Y Y A1)<|Zl HW Y ?_;refine Zm Y<|Zv (Df Y Y)<|Bb (BI (j:=0) LO Fc Y Y A1)<|Xe (Zs Fc Y Y V) ?_;refine Bb (BI (j:=4) LO Fc Y Y A1)<|Xe (Zs Fc Y Y V (hc:=by exact (bY x k B v hx))) ?_;refine Z0<|Zn [0,4,5,18,19] ?_;refine A8<|Zx<|Zg<|Ya (n:=1) Y Y<|Zm Y<|Z0<|Zn [19,0,4,5,18] ?_;refine Ab (e':=[(19,_)]) (by exact ⟨k+1,V,by omega,V,V⟩)
 refine Ay<|Zt<|Zt<|AU<|Zx<|A0<|Zm Y<|A5<|AR ?_;have ek:k=64:=by omega
 subst ek;refine Zb [82,0,5] ?_;refine BA (e0:=[(82,_)]) (fun m e H=>∃i:Nat,m=8 -i/\(i<=8)/\e=[(82,I4 (i:Int))]/\H=[[(J,.cells ((Vu v x i).map Cs).toArray K (0,0))]]) (by exact ⟨0,V,C0 _,V,V⟩) Wp ?_;rintro _ _ _ ⟨i,rfl,hi,rfl,rfl⟩;refine A0<|Zv (Au (n:=8) Y Y)<|A5<|Zq<|Aq Y (fun W=>?_) (fun W=>?_);·
  refine AC<|Zx<|Zq<|AR<|A0<|Zm Y<|A3 Y<|Az (n:=12) (0::0::1::7::15::0::32::96::255::1::1023::2047::[]) 2048 A6 A6 rfl<|A2 0 rfl (AP Y)<|A2 1 rfl (AP Y)<|A2 2 rfl (Ap Y rfl)<|A2 3 rfl (BI LO Fc Y Y (by first|omega|(rw [Gk,B4,Mq _ _ _ A1];omega)))<|B2 4 rfl HW Y (hv:=by exact mZ _ _ i A1) ?_;refine A2 5 rfl (AP Y)<|A2 6 rfl (BI LO Fc Y Y (by first|omega|(rw [Gk,B4,Mq _ _ _ A1];omega)))<|B2 7 rfl HW Y (hv:=by exact oP _ i A1) ?_;refine A2 8 rfl (Df Y Y)<|A2 9 rfl (Ap Y rfl)<|A2 10 rfl (BI LO Fc Y Y (by first|omega|(rw [Gk,B4,Mq _ _ _ A1];omega)))<|Yw 11 4095 rfl (Zs Fc Y Y rfl (hc:=by exact mY _ _ i A1) (hi:=by(rw [Gk,B4,Mq _ _ _ A1];omega)))<|CT<|Ag<|Zn [0,5,82] ?_;refine A8<|Zx<|Zg<|Ya (n:=1) Y Y<|Zm Y<|Z0<|Zn [82,0,5] ?_;refine Ab (e':=[(82,_)]) (by exact ⟨i+1,V,by omega,V,V⟩)
 have ei:i=8:=by omega
 subst ei;rw [<-hx];refine Ay<|Zt<|Zt<|AU<|Cw V results267 (by exact ⟨V,V⟩)
def Sz(N:Nat)(l:List UInt8):Array Value:=(l.map u8v++List.replicate (N -l.length) (Value.int .u8 0)).toArray
theorem qc(N:Nat)(l:List UInt8)(x:UInt8)(k:Nat)(g:k=l.length)(h:l.length<N):(Sz N l).setIfInBounds k (.int .u8 (x.toNat:Int))=Sz N (l++[x]):=by
 subst g;unfold Sz;rw [nF];congr 1;rw [ki _ _ B0];simp only [B4,W4,B7,DG,KK];obtain ⟨n,hn⟩:∃n,N -l.length=n+1:=⟨N -1 -l.length,by omega⟩;rw [hn,show N -(l.length+(0+1))=n by omega];simp [List.replicate_succ,u8v]
theorem Vb(N:Nat)(l:List UInt8)(h:l.length<=N):(Sz N l).size=N:=by simp [Sz];omega
theorem lC(N:Nat)(l:List UInt8)(h:l.length=N):(Sz N l).toList=l.map u8v:=by simp [Sz,h]
def R5(v:V8)(i k:Nat):List UInt8:=(v.list.take i).flatMap Ou++(Ou (v.list.getD i 0)).take k
theorem Ot(v:V8)(i k:Nat)(hi:i<8)(g:k<=4):(R5 v i k).length=4*i+k:=by
 have:i=0\/i=1\/i=2\/i=3\/i=4\/i=5\/i=6\/i=7:=by omega
 rcases this with rfl|rfl|rfl|rfl|rfl|rfl|rfl|rfl<;>simp [R5,V8.list,Ou]<;>omega
theorem lH(v:V8)(i:Nat)(hi:i<8):R5 v (i+1) 0=R5 v i 4:=by
 have:i=0\/i=1\/i=2\/i=3\/i=4\/i=5\/i=6\/i=7:=by omega
 rcases this with rfl|rfl|rfl|rfl|rfl|rfl|rfl|rfl<;>rfl
theorem lG(v:V8)(i k:Nat)(g:k<4):R5 v i (k+1)=R5 v i k++[((v.list.getD i 0)>>>UInt32.ofNat (24 -8*k)).toUInt8]:=by
 have:k=0\/k=1\/k=2\/k=3:=by omega
 unfold R5;generalize v.list.getD i 0=x;rcases this with rfl|rfl|rfl|rfl
 · simp [Ou]
 · simp [Ou]
 · simp [Ou]
 · have e:x>>>UInt32.ofNat (24 -8*3)=x:=by
    apply UInt32.toNat_inj.1;simp [UInt32.toNat_shiftRight]
   rw [e];simp [Ou]
theorem jA(v:V8):R5 v 8 0=rH v:=rfl
theorem oO(y:V8)(i:Nat)(h:i<8):(v8c y)[i*1]?=some (Cs (y.list.getD i 0)):=by rw [N2];exact oP y i h
theorem aa(v:V8):BH prog 268 #[.agg (v8c v)] [] (.string (str (rH v))):=by
 refine Se func268 ntmps268 [0] ?_;intro u R;refine A0<|Ze (Eu Y (cs:=(v8c v)) A6)<|AE fun K=>A3 Y<|A0<|Ze (Ea zeroValue411 (cs:=(Sz 32 [])) A6)<|AE fun G=>A5<|Zq<|A0<|Zo Wh (A9 (cs:=v8c v) isAgg388 sizeOf388 Y (by exact CM _) (by exact Ic _ _ V))<|Zm Y<|A5<|AR<|Zb [8,3,7] ?_;refine BA (e0:=[(8,_)]) (fun m e H=>∃i:Nat,m=8 -i/\(i<=8)/\e=[(8,I4 (i:Int))]/\H=[[(G,.cells (Sz 32 (R5 v i 0)) 411 (0,0))]]) (by exact ⟨0,V,C0 _,V,V⟩) Wp ?_;rintro _ _ _ ⟨i,rfl,hi,rfl,rfl⟩;refine A0<|Zv (Au (n:=8) Y Y)<|A5<|Zq<|Aq Y (fun g=>?_) (fun g=>?_);·
  refine AC<|Zx<|Zq<|AR<|A0<|Zm Y<|Zv (Qh LO HW Fc Y Y A1 (by exact oO v i A1))<|Za Y<|A3 Y<|A0<|Zm Y<|A5<|AR<|Zb [12,3,4,5,7,8] ?_;refine BA (e0:=[(12,_)]) (fun m e H=>∃k:Nat,m=4 -k/\(k<=4)/\e=[(12,I4 (k:Int))]/\H=[[(G,.cells (Sz 32 (R5 v i k)) 411 (0,0))]]) (by exact ⟨0,V,C0 _,V,V⟩) Wp ?_;rintro _ _ _ ⟨k,rfl,O,rfl,rfl⟩;refine A0<|Zv (Au (n:=4) Y Y)<|A5<|Zq<|Aq Y (fun B=>?_) (fun B=>?_);·
   refine AC<|Zx<|Zq<|AR<|A0<|Zm Y<|A3 Y<|Zg<|Zm Y<|Bb (F6 (m:=4) Y Y A1)<|Zm Y<|Ya Y Y<|Zm Y<|Zm Y<|Bb (F6 (m:=8) Y Y A1)<|Yb (m:=24) Y Y ?_;refine Bb (Mi Y Y A1)<|Zv (UZ Sp Mb Y)<|Bb (BI underlying411 It Y Y (by first|omega|(rw [Vb _ _ (by rw [Ot _ _ _ A1 A1];omega)];omega)))<|Xe (Zs It Y Y rfl (hc:=by exact (qc 32 (R5 v i k) _ _ (by rw [Ot _ _ _ A1 A1]) (by rw [Ot _ _ _ A1 A1];omega)).trans (congrArg (Sz 32) (lG v i k A1).symm)) (hi:=by(rw [Vb _ _ (by rw [Ot _ _ _ A1 A1];omega)];omega)))<|Z0<|Zn [3,4,5,7,8,12] ?_;refine A8<|Zx<|Zg<|Ya (n:=1) Y Y<|Zm Y<|Z0<|Zn [12,3,4,5,7,8] ?_;refine Ab (e':=[(12,_)]) (by exact ⟨k+1,V,by omega,V,V⟩)
  have J:k=4:=by omega
  subst J;refine Ay<|Zt<|Zt<|AU<|A8<|Zx<|Zg<|Ya (n:=1) Y Y<|Zm Y<|Z0<|Zn [8,3,7] ?_;refine Ab (e':=[(8,_)]) (by exact ⟨i+1,rfl,by omega,rfl,by rw [lH v i A1]⟩)
 have I:i=8:=by omega
 subst I;refine Ay<|Zt<|Zt<|AU<|Zx<|A0<|Zv (Ik underlying411 It Y)<|Zo Wh (KG HE Mb GP Y (by exact ⟨(by rw [lC 32 (R5 v 8 0) (by rw [jA];rfl)];exact I2 (by rw [Pr,B4,jA];exact CM 32)),rfl⟩))<|A3 Y<|AJ<|AO rfl results268 Y gA
def QP(g j:Nat):Value:= .slice (some ⟨g,64*j,none⟩) 64 64
theorem uZ(g k M:Nat)(h:k<M):Value.slice (some ⟨g,0+64*k*1,none⟩) (64*k+min 64 (64*M -64*k) -64*k) (64*k+min 64 (64*M -64*k) -64*k)=QP g k:=by
 have m:64*k+min 64 (64*M -64*k) -64*k=64:=by omega
 have h2:0+64*k*1=64*k:=by omega
 rw [m,h2];rfl
theorem YV(M k:Nat)(h:k<M):List.range M=List.range k++k::(List.range' (k+1) (M -k -1)):=by
 rw [nr,nr,<-oY];rw [show M -k -1+1=M -k by omega];have:=List.range'_append_1 (s:=0) (m:=k) (n:=M -k)
 rw [show 0+k=k by omega,show k+(M -k)=M by omega]at this;exact this.symm
theorem gX(g cap M:Nat)(bs O:Nat)(hM:64*M<=cap)(hc:cap<=maxLen):
 UI prog 301 #[I5 bs,I5 O] [[(bs,.cells #[I6 g (64*M) cap] 85 (0,0))],[(O,.cells #[I4 64] 3 (0,0))]] (fun j=>#[QP g j]) (List.range M):=by
 have X:=mL;intro l J hy s G;refine Se func301 ntmps301 [0,1,2] ?_;intro u R;refine A0<|A3 Y<|AR<|Zb [4,0,1,2] ?_;refine BA (e0:=[(4,_)]) (fun m e H=>∃(k:Nat) (s:List AA),m=M -k/\(k<=M/\J (List.range k) s)/\e=[(4,I4 ((64*k:Nat):Int))]/\H=[s]) (by exact ⟨0,s,V,⟨C0 _,G⟩,V,V⟩) Wp ?_;rintro _ _ _ ⟨k,s,rfl,⟨hk,G⟩,rfl,rfl⟩;refine Zq<|A0<|Zm Y<|Zl S8 Y ?_;refine Zv (AY HE Y)<|Zv (Au Y Y)<|A5<|Aq Y (fun K=>?_) (fun K=>?_);·
  refine AC<|Zx<|Zq<|AR<|Zq<|Az (n:=7) (0::0::0::6::14::31::63::[]) 0 A6 A6 V<|B2 0 V AD Y ?_;refine B2 1 V S8 Y ?_;refine A2 2 V (AP Y)<|A2 3 V (C9 HE It Y Y A1)<|A2 4 V (AY HE Y)<|A2 5 V (QA Y Y)<|A2 6 V (Av Y)<|Ag<|Zx<|Zq ?_;have B:=hy (List.range k) k _ s (YV M k A1) G
  rw [<-ir]at B;rw [show(fun j=>#[QP g j]) k=#[QP g k] from rfl,<-uZ g k M A1]at B;refine Zg<|Zm Y<|Zl S8 Y ?_;refine Zm Y<|Zm Y<|Zm Y<|Ya Y Y<|Zm Y<|Zm Y<|Ya Y Y ?_
  (refine Bb (TA HE It Y Y Y Y ?_ ?_) ?_;(focus ((simp only [Nat.min_def];split<;>omega)));(focus (omega)))
  refine Ze (GZ (vs:=[_]) Y Y (B) Wp) ?_;rintro _ _ ⟨_,⟨Z,rfl,rfl,I⟩,rfl⟩;refine Zv (Br Y)<|Z0<|Zn [0,1,2,4,30] ?_;refine Zx<|AX Y (fun U=>by cases U)<|fun U=>AC<|A8<|Zx<|Zg<|Zm Y<|Zl AD Y ?_;refine Yi Y Y<|AG Y<|Zn [4,0,1,2] ?_;refine Ab (e':=[(4,_)]) (by exact ⟨k+1,Z,V,⟨by omega,I⟩,V,V⟩)
 have W:k=M:=by omega
 subst W;refine Ay<|Zt<|Zt<|AU<|Cw V results301 (by exact ⟨s,V,G⟩)
theorem gW(p:Option Addr)(n cap:Nat):Ba prog 266 #[.slice p n cap,I4 64] [] (fun r H'=>∃bs m,r= .func (.func 301) #[] #[I5 bs,I5 m]/\H'=[[(bs,.cells #[.slice p n cap] 85 (0,0))],[(m,.cells #[I4 64] 3 (0,0))]]):=by
 refine Se func266 ntmps266 [0,1] ?_;intro u R;refine A0<|Ze (Bx #[_])<|AE fun B=>Ze (Bx #[_])<|AE fun G=>A3 Y<|Zq<|A0<|Zl AD Y<|Zv (Au (n:=1) Y Y)<|A5<|Aq Y (fun g=>?_) (fun g=>?_);·
  exact absurd g AH
 refine AC<|Zx<|A0<|Zv (Bg (vs:=[]) (us:=[_,_]) Y Y)<|A3 Y<|AJ<|AO V results266 Y (by exact ⟨B,G,V,V⟩)
theorem Qu:∀(n:Nat) (h:V8) (b:List UInt8),JN (n+1) h b=Xl (JN n h b) ((b.drop (64*n)).take 64)
 |0,h,b=>by simp [JN]
 |n+1,h,b=>by
  rw [JN,Qu n,JN,ZD];rw [show 64+64*n=64*(n+1) by omega]
def R4(l:List UInt8)(k:Nat):List UInt8:=l++[128]++List.replicate k 0
theorem Lr(l:List UInt8)(k:Nat):(R4 l k).length=l.length+1+k:=by simp [R4];omega
theorem ky(l:List UInt8)(k:Nat):(R4 l k).map u8v++[.int .u8 0]=(R4 l (k+1)).map u8v:=by
 unfold R4;rw [List.replicate_succ'];simp [u8v]
def UU(l:List UInt8)(j:Nat):List UInt8:=R4 l (LJ l.length)++(R6 l.length).take j
theorem kz(l:List UInt8):UU l 0=R4 l (LJ l.length):=by simp [UU]
theorem Va(l:List UInt8):UU l 8=Gt l:=by
 have:(R6 l.length).take 8=R6 l.length:=I2 (by simp [R6]);simp [UU,R4,Gt,this]
theorem sP(n j:Nat)(h:j<8):(R6 n).take (j+1)=(R6 n).take j++[UInt8.ofNat (8*n/2^(8*(7 -j)))]:=by
 rw [nB (by simp [R6];omega)];simp [R6]
theorem l6(l:List UInt8)(j q:Nat)(h:q+j=7):(UU l j).map u8v++[.int .u8 ((UInt8.ofNat (8*l.length/2^(8*q))).toNat:Int)]=(UU l (j+1)).map u8v:=by
 unfold UU;rw [sP _ _ A1,show 7 -j=q by omega];simp [u8v]
theorem Yq(l:List UInt8)(j:Nat)(h:j<=8):(UU l j).length=l.length+1+LJ l.length+j:=by
 have:(R6 l.length).length=8:=by simp [R6]
 simp [UU,Lr,this];omega
theorem xH(m:Nat):IntKind.u8.wrap (m:Int)=((UInt8.ofNat m).toNat:Int):=by
 rw [IntKind.wrap_u8',UInt8.toNat_ofNat'];omega
theorem vU(n k:Nat)(g:k<=LJ n)(h:(n+1+k)%64≠56):k<LJ n:=by
 have:=iJ n;rcases E0 k (LJ n)with h1|h1
 · exact h1
 · have:k=LJ n:=by omega
   subst this;contradiction
theorem vV(n k:Nat)(g:k<=LJ n)(h:(n+1+k)%64=56):k=LJ n:=by
 unfold LJ at g⊢;omega
theorem kR{M x:Nat}{pre g:List Nat}(h:List.range M=pre++x::g):x=pre.length/\x<M:=by
 have m:(List.range M)[pre.length]?=some x:=by rw [h];simp
 have B:pre.length<M:=by
  have:=(BE.1 m).1;simpa using this
 rw [Z1 B]at m;have:=S1 m
 omega
theorem av{cur:Array Value}{p:List UInt8}(h:cur.toList.take (p.map u8v).length=p.map u8v)(k:Nat)(m:64*k+64<=p.length):N8 cur (64*k) ((p.drop (64*k)).take 64):=by
 unfold N8;have g:((p.drop (64*k)).take 64).length=64:=by simp;omega
 rw [g,List.map_take,j0,<-h];rw [eh,To];congr 1;simp;omega
theorem wM(l:List UInt8)(M:Nat)(h:(Gt l).length=64*M):sha l=rH (JN M h0 (Gt l)):=by
 unfold sha;rw [h,Nat.mul_div_cancel_left _ A1]
theorem oW(s:ByteArray)(hs:s.size<=140737488355000)(Tg:TypeId)(zg:Nat×Nat):
 BH prog 239 #[.string s] [[(4,.cells (Et.map Cs).toArray Tg zg)]] (.string (str (sha s.data.toList))):=by
 have j3:=mL;obtain ⟨l,O⟩:∃l,l=s.data.toList:=⟨_,rfl⟩;have hn:l.length=s.size:=by rw [O];rfl
 have hz:LJ s.size<64:=by unfold LJ;omega
 refine DL func239 V ntmps239 V ?_;intro u R;refine Zb [0] ?_;refine A0<|A3 Y<|A0<|Zv (BM (vs:=[(0,_),(1,_),(2,_),(3,_),(4,_),(5,_),(6,_),(7,_)]) (cs:=#[_,_,_,_,_,_,_,_]) Y (Da zeroValue388 LO Fc V))<|Ze (Al zeroValue388 #[_,_,_,_,_,_,_,_])<|AE fun bh=>Xe (BL sizeOf388 Y Y (iM h0) Wu (by exact (rfl:_=v8c (JN 0 h0 (Gt l)))) E6 Wn (by exact BB _))<|A5<|A0<|Zm Y<|Ze (w9 GP HE Mb Y A1) ?_;rintro _ _ ⟨sa,U,rfl⟩;obtain ⟨ga,ca,rfl⟩:=U.form;refine Ze (Ah (vs:=[_]) (cs:=[_]) HE It S7 Y V rfl V rfl V)<|AE fun b3=>Ze (ET (by_:=1) (news:=[_]) HE (V:Tryz.prog.info? 5=some Tryz.t5) V rfl V rfl Y U Y Wo Wh AN V Fm AH (by(simp only [B4,<-O,hn];omega)) (by(simp only [B4,<-O,hn];omega))) ?_;rintro _ _ ⟨sb,W,rfl⟩;obtain ⟨gb,cb,rfl⟩:=W.form;refine A3 Y<|Zq<|AR ?_;have d9:Row 5 (.slice gb (List.map u8v s.data.toList++[Value.int IntKind.u8 128]).length cb) ((R4 l 0).map u8v) sb:=by
  have e:(R4 l 0).map u8v=List.map u8v s.data.toList++[Value.int IntKind.u8 128]:=by rw [<-O];simp [R4,u8v]
  rw [e];exact W
 refine Zb [4,0,3] ?_;refine BA (e0:=[(4,_)]) (fun m e H=>∃(k:Nat) (v:Value) (J:List AA),m=LJ s.size -k/\(k<=LJ s.size/\Row 5 v ((R4 l k).map u8v) J)/\e=[(4,v)]/\H=[J]) (by exact ⟨0,_,_,V,⟨C0 _,d9⟩,V,V⟩) Wp ?_;rintro _ _ _ ⟨k,v,J,rfl,⟨hk,B⟩,rfl,rfl⟩;obtain ⟨gv,cv,rfl⟩:=B.form;refine Zq<|A0<|Zm Y<|Zv (AY HE Y)<|Bb (FW (n:=64) Y Y A1)<|Zv (Dp (n:=56) Y Y)<|A5<|Aq Y (fun G=>?_) (fun G=>?_);·
  rw [B4,Lr,hn]at G;have bg:=vU _ _ hk G
  refine AC<|Zx<|AR<|Zg<|Zm Y<|Ze (Ah (vs:=[_]) (cs:=[_]) HE It S7 Y V rfl V rfl V)<|AE fun b5=>Ze (ET (by_:=1) (news:=[_]) HE (V:Tryz.prog.info? 5=some Tryz.t5) V rfl V rfl Y B Y Wo Wh AN V Fm AH (by(simp only [B4,Lr,hn];omega)) (by(simp only [B4,Lr,hn];omega))) ?_;rintro _ _ ⟨sc,X,rfl⟩;obtain ⟨gc,cc,rfl⟩:=X.form;refine AG Y<|A8<|Zn [4,0,3] ?_;refine Ab (e':=[(4,_)]) (by exact ⟨k+1,_,_,rfl,⟨bg,by rw [<-ky];exact X⟩,rfl,rfl⟩)
 rw [B4,Lr,hn]at G;have ek:=vV _ _ hk A1
 subst ek;refine Ay<|Zt<|Zt<|AU<|Zx<|Zq<|A0<|A3 Y<|AR<|Zb [4,5,0,3] ?_;refine BA (e0:=[(4,_),(5,_)]) (fun m e H=>∃(j:Nat) (i:Int) (v:Value) (J:List AA),m=8 -j/\(j<=8/\i=7 -(j:Int)/\Row 5 v ((UU l j).map u8v) J)/\e=[(4,v),(5,I4 i)]/\H=[J]) (by exact ⟨0,_,_,_,rfl,⟨C0 _,rfl,by rw [kz,hn];exact B⟩,rfl,rfl⟩) Wp ?_;rintro _ _ _ ⟨j,i,v,J,rfl,⟨hj,hi,B⟩,rfl,rfl⟩;obtain ⟨gv,cv,rfl⟩:=B.form;refine Zq<|A0<|Zm Y<|Zv (Ha Y Y)<|A5<|Aq Y (fun K=>?_) (fun K=>?_);·
  obtain ⟨q,rfl⟩:=Int.eq_ofNat_of_zero_le K;refine AC<|Zx<|Zq<|AR<|Zg<|Zm Y<|Zm Y<|Zv (QC GP Y)<|Bb (F6 (m:=8) Y Y A1)<|Zm Y<|Bb (F6 (m:=8) Y Y A1)<|Bb (Q8 Y Y (by first|decide|(simp [IntKind.bits];done)|(simp [IntKind.bits];omega)))<|Kl (Es C5 Mb Y (xH _)) rfl rfl<|Ze (Ah (vs:=[_]) (cs:=[_]) HE It S7 Y rfl rfl rfl rfl rfl)<|AE fun b7=>Ze (ET (by_:=1) (news:=[_]) HE (V:Tryz.prog.info? 5=some Tryz.t5) V rfl V rfl Y B Y Wo Wh AN V Fm AH (by(simp only [B4,Yq l j hj,hn];omega)) (by(simp only [B4,Yq l j hj,hn];omega))) ?_;rintro _ _ ⟨sd,Z,rfl⟩;obtain ⟨gd,cd,rfl⟩:=Z.form;refine AG Y<|Zn [0,3,4,5] ?_;refine A8<|Zx<|Zg<|Zm Y<|Bb (GL Y Y (IntWalk.i64_in _ A1))<|AG Y<|Zn [4,5,0,3] ?_;refine Ab (e':=[(4,_),(5,_)]) (by exact ⟨j+1,_,_,_,rfl,⟨by omega,by omega,by rw [<-l6 l j q A1,hn];exact Z⟩,rfl,rfl⟩)
 have ej:j=8:=by omega
 subst ej;refine Ay<|Zt<|Zt<|AU<|Zx<|Zq<|Zq ?_;rw [Va]at B;obtain ⟨M,hM⟩:∃M,(Gt l).length=64*M:=⟨(Gt l).length/64,by have:=eG l;omega⟩;have cO:=Sy l
 rw [hn]at cO;rw [Va];obtain ⟨g,cap,cur,z,hv,rfl,cu,ax,gF,gm,ic⟩:=B.some (by rw [B4];omega);simp only [Value.slice.injEq]at hv;obtain ⟨rfl,_,rfl⟩:=hv;rw [B4]at cu;rw [B4,hM];refine Zg<|Zm Y<|Zc [_,_] Y call266 Y V (gW _ _ _) ?_;rintro _ _ ⟨_,⟨bs,bn,rfl,rfl⟩,rfl⟩;refine A5<|AR<|Zb [3,34] ?_;refine Qx (H0:=_) (R:=_) (I:=(fun pre H=>H=[[(bh,.cells (v8c (JN pre.length h0 (Gt l))) 388 (0,0))],[(g,.cells cur 5 z)],[(4,.cells (Et.map Cs).toArray Tg zg)]])) (asg:=fun x=>[(6,QP g x),(35,QP g x)]) V Y call301 (gX g cv M bs bn A1 ax) Y V Wp (V) ?ha_6 ?hbd_6 ?hk_6
 case ha_6=>
  intro _ x _ _;refine Zg<|Za Y<|Z0 ?_;exact rQ
 case hbd_6=>
  intro l pre x gB u H1 R1 gy hI;subst hI;obtain ⟨gq,j5⟩:=kR gy;subst gq;refine AR<|Zg<|Zm Y<|Zc [_,_] Y call267 Y rfl (vG _ _ _ _ _ _ _ _ (by rw [C3,C2];omega) (av gm _ A1) _ _ _ _) ?_;rintro _ _ ⟨_,⟨rfl,rfl⟩,rfl⟩;refine Z0<|A8<|F7 rfl (by rw [B7,E3,Qu])
 intro D1 H2 af;subst af;refine Zn [3] ?_;refine A8<|Zx<|A0<|Zo Wh (A9 (cs:=v8c (JN M h0 (Gt l))) isAgg388 sizeOf388 Y Wn (by rw [cG];exact Ic _ _ rfl))<|Xr [_] Y call268 Y rfl (aa _)<|A3 Y<|AJ<|GN rfl (dM results239 Y) Wo (by exact ⟨by rw [<-O,wM l M hM],rfl⟩)
end Go.Proofs.YtfhjaegddfehhaaGreatDoor
