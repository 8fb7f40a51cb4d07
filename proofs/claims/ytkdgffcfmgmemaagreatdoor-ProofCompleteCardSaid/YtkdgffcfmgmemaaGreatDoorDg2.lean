/- Contracts: bits.RotateLeft32 at the counts of the program, digest.mixed, digest.schedule. -/
/- Contracts: digest.add, digest.digest. -/
import Derived.Test.YtkdgffcfmgmemaaGreatDoorEz
import Derived.Test.YtkdgffcfmgmemaaGreatDoorEx4
import Derived.Test.YtkdgffcfmgmemaaGreatDoorEx5
import Derived.Test.YtkdgffcfmgmemaaGreatDoorSha
import Derived.Test.YtkdgffcfmgmemaaGreatDoorBits
import Derived.Test.YtkdgffcfmgmemaaGreatDoorProg
import Derived.Laws.Bits64
import Derived.WalkKit
set_option linter.unusedVariables false
set_option linter.unusedSimpArgs false
namespace Go.Proofs.YtkdgffcfmgmemaaGreatDoor
open Go.Proofs.Tryz
open Go Go.RowKit Gw
set_option maxRecDepth 100000
attribute [local irreducible] Gw.At Gw.Nx Gw.Ops
theorem Sl(x:UInt32)(n m:Nat)(h0:0<n)(h1:n<32)(hm:n+m=32):(x<<<UInt32.ofNat m)|||(x>>>UInt32.ofNat n)=I9 x (UInt32.ofNat n):=by
 unfold I9;have:(32:UInt32) -UInt32.ofNat n=UInt32.ofNat m:=by
  apply UInt32.toNat_inj.1;rw [UInt32.toNat_sub,yN,yN];simp only [UInt32.reduceToNat];omega
 rw [this]
theorem mG(n m:Nat)(h0:0<n)(h1:n<32)(hm:n+m=32):bits .and .u64 (IntKind.u64.wrap (-(n:Int))) 31=(m:Int):=by
 have h:IntKind.u64.wrap (-(n:Int))=((18446744073709551616 -n:Nat):Int):=by rw [IntKind.wrap_u64];omega
 have h31:(31:Int)=((31:Nat):Int):=rfl;rw [h,h31,u64_and_nat _ _ (by omega) (by omega),nat_mask5];omega
theorem bJ(x:UInt32)(n:Nat)(h0:0<n)(h1:n<32):Aw Tryz.prog 302 #[.int .u32 x.toNat,I4 (-(n:Int))] [] (.int .u32 (I9 x (UInt32.ofNat n)).toNat):=by
 refine Io func302 rfl ntmps302 rfl ?_;intro u R;obtain ⟨m,hm⟩:∃m,n+m=32:=⟨32 -n,by omega⟩;refine Zb [0,1] ?_;refine Zq<|Zg<|Za Y<|Z0<|Zx<|Zq<|Zg<|Zm Y<|JZ (Ed underlying3 underlying231 Y rfl) rfl rfl ?_;refine JZ (iq Y Y (mG n m h0 h1 hm)) rfl rfl ?_;refine Za Y<|Z0<|Zx<|Zq<|Zg<|Zm Y<|Zm Y ?_;refine BM (GG Y Y (by omega)) ?_;refine Zm Y<|Zm Y ?_
 (refine BM (M5 (m:=32) Y Y ?_ ?_) ?_;(focus (omega));(focus (omega)))
 refine BM (FB Y Y (by omega)) ?_;refine Zv (Hl Y Y)<|Za Y<|Z0<|Zn [4] ?_;refine Zx<|A9 ?_;refine AC rfl results302 Y (by
  have e:32 -m=n:=by omega
  exact ⟨by rw [e,Sl x n m h0 h1 hm],rfl⟩)
theorem jI(x:UInt32)(l:List UInt32)(n:UInt32):OQ x (l++[n])=OQ x l^^^I9 x n:=by simp [OQ]
def qm(n:Nat):Value:=I4 (n:Int)
theorem La{α β:Type}(f:α→β)(l:List α)(k:Nat)(d:α)(h:k<l.length):(l.take (k+1)).map f=(l.take k).map f++[f (l.getD k d)]:=by
 rw [xu h,uK];simp [uY,tF h]
theorem PW{α:Type}(f:α→Value)(l:List α)(k:Nat)(d:α)(h:k<l.length):(l.map f).toArray[k]?=some (f (l.getD k d)):=by
 simp [tF h,uY]
theorem Hr(x:UInt32)(l:List Nat)(g cap:Nat)(T:TypeId)(z:Nat×Nat)(hl:∀n∈l,0<n∧n<32)(hn:l.length≤100):
 Aw Tryz.prog 282 #[.int .u32 x.toNat,I6 g l.length cap] [[(g,.cells (l.map qm).toArray T z)]] (.int .u32 (OQ x (l.map UInt32.ofNat)).toNat):=by
 refine Se func282 ntmps282 [0,1] ?_;intro u R;refine Zq<|Zg<|Za Y<|Z0<|Zx<|Zq<|Zg<|Za Y<|Z0<|Zx<|Zq<|Zq<|Zg<|Zm Y<|Zv (AU underlying210 Y)<|Zm Y<|Z0<|Zx<|AQ<|Zb [5,10,0,8,9] ?_;refine Az (e0:=[(5,_),(10,_)]) (fun m e H=>∃k:Nat,m=l.length -k∧(k≤l.length)∧e=[(5,.int .u32 ((OQ x ((l.take k).map UInt32.ofNat)).toNat:Int)),(10,I4 (k:Int))]∧H=[]) (by exact ⟨0,rfl,tY _,rfl,rfl⟩) Wp ?_;rintro _ _ _ ⟨k,rfl,hk,rfl,rfl⟩;refine Zq<|Zg<|Zv (Aq Y Y)<|Z0<|Zx<|Zq ?_;refine Ao Y (fun hc1=>?_) (fun hc1=>?_)
 ·
  refine AB<|Zx<|Zq<|AQ<|Zq<|Zg ?_;refine BM (BB underlying210 sizeOf3 Y Y (by omega)) ?_;refine Zl isAgg3 Y (hv:=by exact PW qm l k 0 (by omega)) ?_;refine Za Y<|Z0<|Zx ?_;have hlk:=hl (l.getD k 0) (by rw [uY,tF (by omega)];exact zx _)
  refine Zg<|Zm Y<|Zm Y<|Zm Y<|JZ (TP (c:=-(l.getD k 0:Int)) Y (by rw [Int.zero_sub];exact IntWalk.i64_in _ (by omega))) rfl rfl ?_;refine Xr [_,_] Y call302 Y rfl (bJ _ _ hlk.1 hlk.2) ?_;refine Zv (Cn Y Y)<|Za Y<|Z0<|A8<|Zx<|Zg<|Ya (n:=1) Y Y<|Zm Y<|Z0<|Zn [5,10,0,8,9] ?_;refine Ab (e':=[(5,_),(10,_)]) (by exact ⟨k+1,rfl,by omega,by rw [La _ _ _ 0 (by omega),jI],rfl⟩)
 refine Au<|Zt<|Zt<|AO<|Zx<|Zq<|Zg<|Zm Y<|Za Y<|Z0<|Zx<|A9 ?_;refine AC rfl results282 Y (by
  have e:k=l.length:=by omega
  exact ⟨by rw [e,uQ],rfl⟩)
def EY(l:List UInt32):List Value:=l.map Bn++List.replicate (64 -l.length) (.int .u32 0)
theorem Ca(l:List UInt32)(h:l.length≤64):(EY l).length=64:=by simp [EY];omega
theorem XQ(l:List UInt32)(i:Nat)(h:i<l.length):(EY l).toArray[i]?=some (Bn (l.getD i 0)):=by
 simp [EY,zD,h,uY]
theorem XO(l:List UInt32)(x:UInt32)(h:l.length<64):(EY l).toArray.setIfInBounds l.length (Bn x)=(EY (l++[x])).toArray:=by
 rw [yH];congr 1;unfold EY;rw [yu _ _ (by simp)];simp only [tK,xM,tJ,tX,vF];obtain ⟨n,hn⟩:∃n,64 -l.length=n+1:=⟨63 -l.length,by omega⟩;rw [hn,show 64 -(l.length+(0+1))=n by omega];simp [List.replicate_succ]
theorem JA(b:List UInt8)(k:Nat)(x:UInt32)(h:k<64)(hx:Dl b (k+1)=Dl b k++[x]):(EY (Dl b k)).toArray.setIfInBounds k (.int .u32 (x.toNat:Int))=(EY (Dl b (k+1))).toArray:=by
 have:=XO (Dl b k) x (by rw [BL];exact h);rw [BL]at this;rw [hx];exact this
theorem XP(l:List UInt32):∀v∈(EY l).toArray.toList,v.oneCell'=true:=by
 intro v hv;simp only [EY,u7,uh,List.mem_replicate]at hv;rcases hv with⟨x,_,rfl⟩|⟨_,rfl⟩<;>rfl
theorem VA(l:List UInt32)(h:l.length=64):EY l=l.map Bn:=by simp [EY,h]
theorem V7(b:List UInt8)(k:Nat)(h:k<16):Dl b (k+1)=Dl b k++[XJ b k]:=by rw [Dl,if_pos h]
theorem Mq(b:List UInt8)(k:Nat)(h:16≤k):Dl b (k+1)=Dl b k++[Qk (Dl b k) k]:=by rw [Dl,if_neg (by omega)]
def Ka(c:Array Value)(o:Nat)(bs:List UInt8):Prop:=(c.toList.drop o).take bs.length=bs.map u8v
theorem Ka.get{c:Array Value}{o:Nat}{bs:List UInt8}(h:Ka c o bs)(j:Nat)(hj:j<bs.length):c[o+j]?=some (u8v (bs.getD j 0)):=by
 have h1:((c.toList.drop o).take bs.length)[j]?=(bs.map u8v)[j]?:=by rw [h]
 rw [uZ,if_pos hj,ut,uD,tF hj]at h1;rw [uP]at h1;rw [h1];simp [uY,tF hj]
theorem K6(b:List UInt8)(k i:Nat)(h:i<k):(EY (Dl b k)).toArray[i]?=some (Bn ((Dl b k).getD i 0)):=XQ _ _ (by rw [BL];exact h)
theorem XW(g o cap:Nat)(c:Array Value)(T:TypeId)(z:Nat×Nat)(bs:List UInt8)(hb:bs.length=64)(hc:Ka c o bs):
 Aw Tryz.prog 281 #[.slice (some ⟨g,o,none⟩) 64 cap] [[(g,.cells c T z)]] (.agg ((DT bs).map Bn).toArray):=by
 refine Se func281 ntmps281 [0] ?_;intro u R;refine Zq<|Zg<|Ze (LY zeroValue339 (cs:=(EY []).toArray) (by kernel_rfl)) ?_;rintro _ _ ⟨bw,rfl,rfl⟩;refine Z0<|Zx<|Zq<|Zq<|Zg<|Zm Y<|Z0<|Zx<|AQ<|Zb [7,0,2] ?_;refine Az (e0:=[(7,_)]) (fun m e H=>∃k:Nat,m=16 -k∧(k≤16)∧e=[(7,I4 (k:Int))]∧H=[[(bw,.cells (EY (Dl bs k)).toArray 339 (0,0))]]) (by exact ⟨0,rfl,tY _,rfl,rfl⟩) Wp ?_;rintro _ _ _ ⟨k,rfl,hk,rfl,rfl⟩;refine Zq<|Zg<|Zv (Aq (n:=16) Y Y)<|Z0<|Zx<|Zq ?_;refine Ao Y (fun hc1=>?_) (fun hc1=>?_)
 ·
  refine AB<|Zx<|Zq<|AQ<|Zq<|Zg<|Zm Y<|Za Y<|Z0<|Zx<|BJ (n:=36) (0::0::0::4::14::30::62::126::0::0::512::1536::3840::7936::16128::32512::65534::0::0::262144::786432::1966080::4063232::8257536::16646144::33554430::0::0::134217728::402653184::1006632960::2080374784::4227858432::8589934590::17179869183::34359738367::[]) 34359738368 (by kernel_rfl) (by kernel_rfl) rfl ?_;refine Zi 1 0 rfl (AJ Y)<|Zi 3 1 rfl (AJ Y)<|Zi 7 2 rfl (AJ Y) ?_;refine Zi 15 3 rfl (D6 (m:=4) Y Y (by omega)) ?_;refine Zi 31 4 rfl (BS underlying124 sizeOf5 Y Y (by first|omega|(rw [uO,Ca _ (by rw [BL];omega)];omega))) ?_;refine Zj 63 5 rfl isAgg5 Y (hv:=by exact hc.get _ (by omega)) ?_;refine Zi 127 6 rfl (EG underlying5 underlying227 Y) ?_;refine Zi 255 7 rfl (GG (n:=24) Y Y (by omega)) ?_;refine Zi 511 8 rfl (AJ Y)<|Zi 1023 9 rfl (AJ Y) ?_;refine Zi 2047 10 rfl (D6 (m:=4) Y Y (by omega)) ?_;refine Zi 4095 11 rfl (D9 (n:=1) Y Y (by omega)) ?_;refine Zi 8191 12 rfl (BS underlying124 sizeOf5 Y Y (by first|omega|(rw [uO,Ca _ (by rw [BL];omega)];omega))) ?_;refine Zj 16383 13 rfl isAgg5 Y (hv:=by exact hc.get _ (by omega)) ?_;refine Zi 32767 14 rfl (EG underlying5 underlying227 Y) ?_;refine Zi 65535 15 rfl (GG (n:=16) Y Y (by omega)) ?_;refine Zi 131071 16 rfl (Hl Y Y)<|Zi 262143 17 rfl (AJ Y)<|Zi 524287 18 rfl (AJ Y) ?_;refine Zi 1048575 19 rfl (D6 (m:=4) Y Y (by omega)) ?_;refine Zi 2097151 20 rfl (D9 (n:=2) Y Y (by omega)) ?_;refine Zi 4194303 21 rfl (BS underlying124 sizeOf5 Y Y (by first|omega|(rw [uO,Ca _ (by rw [BL];omega)];omega))) ?_;refine Zj 8388607 22 rfl isAgg5 Y (hv:=by exact hc.get _ (by omega)) ?_;refine Zi 16777215 23 rfl (EG underlying5 underlying227 Y) ?_;refine Zi 33554431 24 rfl (GG (n:=8) Y Y (by omega)) ?_;refine Zi 67108863 25 rfl (Hl Y Y)<|Zi 134217727 26 rfl (AJ Y)<|Zi 268435455 27 rfl (AJ Y) ?_;refine Zi 536870911 28 rfl (D6 (m:=4) Y Y (by omega)) ?_;refine Zi 1073741823 29 rfl (D9 (n:=3) Y Y (by omega)) ?_
  refine Zi 2147483647 30 rfl (BS underlying124 sizeOf5 Y Y (by first|omega|(rw [uO,Ca _ (by rw [BL];omega)];omega))) ?_;refine Zj 4294967295 31 rfl isAgg5 Y (hv:=by exact hc.get _ (by omega)) ?_;refine Zi 8589934591 32 rfl (EG underlying5 underlying227 Y)<|Zi 17179869183 33 rfl (Hl Y Y) ?_;refine Zi 34359738367 34 rfl (BG underlying339 sizeOf227 Y Y (by first|omega|(rw [uO,Ca _ (by rw [BL];omega)];omega))) ?_;refine Yw 35 68719476735 rfl (Zs sizeOf227 Y Y rfl (hc:=by exact JA bs k (XJ bs k) (by omega) (V7 bs k (by omega))) (hi:=by(rw [uO,Ca _ (by rw [BL];omega)];omega))) ?_;rintro _ _ ⟨rfl,rfl⟩;refine Am ?_;refine Zn [0,2,7] ?_;refine A8<|Zx<|Zg<|Ya (n:=1) Y Y<|Zm Y<|Z0<|Zn [7,0,2] ?_;refine Ab (e':=[(7,_)]) (by exact ⟨k+1,rfl,by omega,rfl,rfl⟩)
 refine Au<|Zt<|Zt<|AO<|Zx<|Zq<|Zq<|Zg<|Za Y<|Z0<|Zx<|AQ ?_;have hk16:k=16:=by omega
 subst hk16;refine Zb [4,2] ?_;refine Az (e0:=[(4,_)]) (fun m e H=>∃k:Nat,m=64 -k∧(16≤k∧k≤64)∧e=[(4,I4 (k:Int))]∧H=[[(bw,.cells (EY (Dl bs k)).toArray 339 (0,0))]]) (by exact ⟨16,rfl,by omega,rfl,rfl⟩) Wp ?_;rintro _ _ _ ⟨k,rfl,⟨hk0,hk⟩,rfl,rfl⟩;refine Zq<|Zq<|Zg<|Zm Y<|Zv (Aq (n:=64) Y Y)<|Z0<|Zx ?_;refine Ao Y (fun hc2=>?_) (fun hc2=>?_)
 ·
  refine AB<|Zx<|Zq<|AQ<|Zq<|BJ (n:=10) (0::1::3::7::0::16::48::112::15::511::[]) 0 (by kernel_rfl) (by kernel_rfl) rfl ?_;refine Zi 1 0 rfl (AJ Y) ?_
  (refine E8 (D':=3) 1 (Bh (n:=15) Y Y ?_ ?_) ?_;(focus (omega));(focus (omega)))
  refine Zi 7 2 rfl (BG underlying339 sizeOf227 Y Y (by omega)) ?_;refine Zj 15 3 rfl isAgg227 Y (hv:=by exact K6 bs k _ (by omega)) ?_;refine Zi 31 4 rfl (AJ Y) ?_
  (refine E8 (D':=63) 5 (Bh (n:=2) Y Y ?_ ?_) ?_;(focus (omega));(focus (omega)))
  refine Zi 127 6 rfl (BG underlying339 sizeOf227 Y Y (by omega)) ?_;refine Zj 255 7 rfl isAgg227 Y (hv:=by exact K6 bs k _ (by omega)) ?_;refine Zi 511 8 rfl (Ay Y)<|Zi 1023 9 rfl (Ay Y)<|Am ?_;refine Zx<|BJ (n:=26) (0::0::2::6::14::0::0::96::0::256::992::2046::0::4096::12288::28672::65534::0::0::393440::0::1048576::4063456::8388606::16777215::33554431::[]) 34341056 (by kernel_rfl) (by kernel_rfl) rfl ?_;refine Zi 1 0 rfl (AJ Y)<|Zi 3 1 rfl (AJ Y) ?_
  (refine E8 (D':=7) 2 (Bh (n:=16) Y Y ?_ ?_) ?_;(focus (omega));(focus (omega)))
  refine Zi 15 3 rfl (BG underlying339 sizeOf227 Y Y (by first|omega|(rw [uO,Ca _ (by rw [BL];omega)];omega))) ?_;refine Zj 31 4 rfl isAgg227 Y (hv:=by exact K6 bs k _ (by omega)) ?_;refine Zi 63 5 rfl (AJ Y)<|Zi 319 8 rfl (AJ Y) ?_;refine Zi 831 9 rfl (FB (n:=3) Y Y (by omega)) ?_;refine Zi 4927 12 rfl (AJ Y) ?_
  (refine E8 (D':=13119) 13 (Bh (n:=7) Y Y ?_ ?_) ?_;(focus (omega));(focus (omega)))
  refine Zi 29503 14 rfl (BG underlying339 sizeOf227 Y Y (by first|omega|(rw [uO,Ca _ (by rw [BL];omega)];omega))) ?_;refine Zj 62271 15 rfl isAgg227 Y (hv:=by exact K6 bs k _ (by omega)) ?_;refine Zi 193343 17 rfl (AJ Y)<|Zi 1241919 20 rfl (AJ Y) ?_;refine Zi 3339071 21 rfl (FB (n:=10) Y Y (by omega)) ?_;refine Zz (l:=[6,18]) ?_;refine Zy 0 3339135 [15,4] [true,true] [(15,(_,_)),(4,(_,_))] rfl Y rfl rfl rfl rfl (Ae (vs:=[_,_]) (cs:=[_,_]) underlying210 sizeOf3 zeroValue3 Y rfl rfl rfl rfl rfl) ?hk_5 (fun _ _ h=>h.elim) ?hl_5
  case hk_5=>
   rintro _ _ ⟨b2,rfl,rfl⟩;refine ⟨Zk (Zk (Ad)),?_⟩;refine Zz (l:=[7,18]) ?_;refine Zy 96 3339263 [15,4] [true,true] [(15,(_,_)),(4,(_,_))] rfl Y rfl rfl rfl rfl (Zu [_,_] Y call282 Y rfl (Hr _ [7,18] _ _ _ _ (by decide) (by decide))) ?hk_6 (fun _ _ h=>h.elim) ?hl_6
   case hk_6=>
    rintro _ _ ⟨rfl,rfl⟩;refine ⟨Zk (Zk (Ad)),?_⟩;refine Zi 3340287 10 rfl (Cn Y Y)<|Zi 3342335 11 rfl (CK Y Y)<|Zi 3407871 16 rfl (CK Y Y)<|Zz (l:=[18]) ?_;refine Zy 0 3670015 [15,4] [true,true] [(15,(_,_)),(4,(_,_))] rfl Y rfl rfl rfl rfl (Ae (vs:=[_,_]) (cs:=[_,_]) underlying210 sizeOf3 zeroValue3 Y rfl rfl rfl rfl rfl) ?hk_7 (fun _ _ h=>h.elim) ?hl_7
    case hk_7=>
     rintro _ _ ⟨b3,rfl,rfl⟩;refine ⟨Zk (Zk (Ad)),?_⟩;refine Yz 19 393440 4194303 [15,4] [true,true] [(15,(_,_)),(4,(_,_))] rfl Y rfl rfl rfl rfl (Zu [_,_] Y call282 Y rfl (Hr _ [17,19] _ _ _ _ (by decide) (by decide))) ?_;rintro _ _ ⟨rfl,rfl⟩;refine ⟨Zk (Zk (Ad)),?_⟩;refine Zi 8388607 22 rfl (Cn Y Y)<|Zi 16777215 23 rfl (CK Y Y) ?_;refine Zi 33554431 24 rfl (BG underlying339 sizeOf227 Y Y (by first|omega|(rw [uO,Ca _ (by rw [BL];omega)];omega))) ?_;refine Yw 25 67108863 rfl (Zs sizeOf227 Y Y rfl (hc:=by exact JA bs k (Qk (Dl bs k) k) (by omega) (Mq bs k (by omega))) (hi:=by(rw [uO,Ca _ (by rw [BL];omega)];omega))) ?_;rintro _ _ ⟨rfl,rfl⟩;refine Am ?_;refine Zn [2,4] ?_;refine A8<|Zx<|Zg<|Zm Y<|Ya (n:=1) Y Y<|Za Y<|Z0<|Zn [4,2] ?_;refine Ab (e':=[(4,_)]) (by exact ⟨k+1,rfl,by omega,rfl,rfl⟩)
    exact Ar
   refine Zy 0 3601279 [15,4] [true,true] [(15,(_,_)),(4,(_,_))] rfl Y rfl rfl rfl rfl (Ae (vs:=[_,_]) (cs:=[_,_]) underlying210 sizeOf3 zeroValue3 Y rfl rfl rfl rfl rfl) ?hk_11 (fun _ _ h=>h.elim) ?hl_11
   case hk_11=>
    rintro _ _ ⟨b4,rfl,rfl⟩;refine ⟨Zk (Zk (Ad)),?_⟩;refine Yz 7 96 3601407 [15,4] [true,true] [(15,(_,_)),(4,(_,_))] rfl Y rfl rfl rfl rfl (Zu [_,_] Y call282 Y rfl (Hr _ [7,18] _ _ _ _ (by decide) (by decide))) ?_;rintro _ _ ⟨rfl,rfl⟩;refine ⟨Zk (Zk (Ad)),?_⟩;refine Zi 3602431 10 rfl (Cn Y Y)<|Zi 3604479 11 rfl (CK Y Y)<|Zi 3670015 16 rfl (CK Y Y)<|Zz (l:=[19]) ?_;refine Zy 393440 4194303 [15,4] [true,true] [(15,(_,_)),(4,(_,_))] rfl Y rfl rfl rfl rfl (Zu [_,_] Y call282 Y rfl (Hr _ [17,19] _ _ _ _ (by decide) (by decide))) ?hk_13 (fun _ _ h=>h.elim) ?hl_13
    case hk_13=>
     rintro _ _ ⟨rfl,rfl⟩;refine ⟨Zk (Zk (Ad)),?_⟩;refine Zi 8388607 22 rfl (Cn Y Y)<|Zi 16777215 23 rfl (CK Y Y) ?_;refine Zi 33554431 24 rfl (BG underlying339 sizeOf227 Y Y (by first|omega|(rw [uO,Ca _ (by rw [BL];omega)];omega))) ?_;refine Yw 25 67108863 rfl (Zs sizeOf227 Y Y rfl (hc:=by exact JA bs k (Qk (Dl bs k) k) (by omega) (Mq bs k (by omega))) (hi:=by(rw [uO,Ca _ (by rw [BL];omega)];omega))) ?_;rintro _ _ ⟨rfl,rfl⟩;refine Am ?_;refine Zn [2,4] ?_;refine A8<|Zx<|Zg<|Zm Y<|Ya (n:=1) Y Y<|Za Y<|Z0<|Zn [4,2] ?_;refine Ab (e':=[(4,_)]) (by exact ⟨k+1,rfl,by omega,rfl,rfl⟩)
    exact Ar
   exact Ar
  refine Zy 0 3601215 [15,4] [true,true] [(15,(_,_)),(4,(_,_))] rfl Y rfl rfl rfl rfl (Ae (vs:=[_,_]) (cs:=[_,_]) underlying210 sizeOf3 zeroValue3 Y rfl rfl rfl rfl rfl) ?hk_16 (fun _ _ h=>h.elim) ?hl_16
  case hk_16=>
   rintro _ _ ⟨b5,rfl,rfl⟩;refine ⟨Zk (Zk (Ad)),?_⟩;refine Yz 6 0 3601279 [15,4] [true,true] [(15,(_,_)),(4,(_,_))] rfl Y rfl rfl rfl rfl (Ae (vs:=[_,_]) (cs:=[_,_]) underlying210 sizeOf3 zeroValue3 Y rfl rfl rfl rfl rfl) ?_;rintro _ _ ⟨b6,rfl,rfl⟩;refine ⟨Zk (Zk (Ad)),?_⟩;refine Yz 7 96 3601407 [15,4] [true,true] [(15,(_,_)),(4,(_,_))] rfl Y rfl rfl rfl rfl (Zu [_,_] Y call282 Y rfl (Hr _ [7,18] _ _ _ _ (by decide) (by decide))) ?_;rintro _ _ ⟨rfl,rfl⟩;refine ⟨Zk (Zk (Ad)),?_⟩;refine Zi 3602431 10 rfl (Cn Y Y)<|Zi 3604479 11 rfl (CK Y Y)<|Zi 3670015 16 rfl (CK Y Y)<|Zz (l:=[19]) ?_;refine Zy 393440 4194303 [15,4] [true,true] [(15,(_,_)),(4,(_,_))] rfl Y rfl rfl rfl rfl (Zu [_,_] Y call282 Y rfl (Hr _ [17,19] _ _ _ _ (by decide) (by decide))) ?hk_19 (fun _ _ h=>h.elim) ?hl_19
   case hk_19=>
    rintro _ _ ⟨rfl,rfl⟩;refine ⟨Zk (Zk (Ad)),?_⟩;refine Zi 8388607 22 rfl (Cn Y Y)<|Zi 16777215 23 rfl (CK Y Y) ?_;refine Zi 33554431 24 rfl (BG underlying339 sizeOf227 Y Y (by first|omega|(rw [uO,Ca _ (by rw [BL];omega)];omega))) ?_;refine Yw 25 67108863 rfl (Zs sizeOf227 Y Y rfl (hc:=by exact JA bs k (Qk (Dl bs k) k) (by omega) (Mq bs k (by omega))) (hi:=by(rw [uO,Ca _ (by rw [BL];omega)];omega))) ?_;rintro _ _ ⟨rfl,rfl⟩;refine Am ?_;refine Zn [2,4] ?_;refine A8<|Zx<|Zg<|Zm Y<|Ya (n:=1) Y Y<|Za Y<|Z0<|Zn [4,2] ?_;refine Ab (e':=[(4,_)]) (by exact ⟨k+1,rfl,by omega,rfl,rfl⟩)
   exact Ar
  exact Ar
 refine Au<|Zt<|Zt<|AO<|Zx<|Zq<|Zg<|Zo Wh (AY isAgg339 sizeOf339 Y (by(rw [uO,Ca _ (by rw [BL];omega)];omega)) (by exact Hz _ _ (by rw [uO,Ca _ (by rw [BL];omega)]))) ?_;refine Xe (BP sizeOf339 Y Y (by exact XP _) Wu (by exact iy _) (by rw [uO,Ca _ (by rw [BL];omega)]) (by(rw [uO,Ca _ (by rw [BL];omega)];omega)) (by exact BR _)) ?_;refine Z0<|Zx<|A9 ?_;refine DD rfl results281 Y Wh (Ah isAgg339 sizeOf339 (by(rw [uO,Ca _ (by rw [BL];omega)];omega)) (Hz _ _ (by rw [uO,Ca _ (by rw [BL];omega)]))) (by
  have e:k=64:=by omega
  exact ⟨by rw [e,VA _ (BL _ _)];rfl,rfl⟩)
def v8c(v:V8):Array Value:=#[Bn v.a,Bn v.b,Bn v.c,Bn v.d,Bn v.e,Bn v.f,Bn v.g,Bn v.h]
theorem fq(v:V8):v8c v=(v.list.map Bn).toArray:=rfl
theorem rA(k:Nat)(h:k<64):(Cw.map Bn).toArray[k*1]?=some (Bn (Cw.getD k 0)):=by rw [wR];exact PW Bn Cw k 0 (by rw [WJ];exact h)
def Tj(x y:V8)(i:Nat):List UInt32:=(lC x y).list.take i++x.list.drop i
theorem Lp(x y:V8)(i:Nat)(h:i≤8):(Tj x y i).length=8:=by
 have:(lC x y).list.length=8:=rfl;have h2:x.list.length=8:=rfl
 simp [Tj,this,h2];omega
theorem dz(x y:V8)(i:Nat)(h:i<8):((Tj x y i).map Bn).toArray[i]?=some (Bn (x.list.getD i 0)):=by
 have:i=0∨i=1∨i=2∨i=3∨i=4∨i=5∨i=6∨i=7:=by omega
 rcases this with rfl|rfl|rfl|rfl|rfl|rfl|rfl|rfl<;>rfl
theorem fw(y:V8)(i:Nat)(h:i<8):(v8c y)[i]?=some (Bn (y.list.getD i 0)):=by
 have:i=0∨i=1∨i=2∨i=3∨i=4∨i=5∨i=6∨i=7:=by omega
 rcases this with rfl|rfl|rfl|rfl|rfl|rfl|rfl|rfl<;>rfl
theorem dx(x y:V8)(i:Nat)(h:i<8):((Tj x y i).map Bn).toArray.setIfInBounds i (.int .u32 ((x.list.getD i 0+y.list.getD i 0).toNat:Int))=((Tj x y (i+1)).map Bn).toArray:=by
 have:i=0∨i=1∨i=2∨i=3∨i=4∨i=5∨i=6∨i=7:=by omega
 rcases this with rfl|rfl|rfl|rfl|rfl|rfl|rfl|rfl<;>rfl
theorem XU(x:V8)(k:Nat)(ws:List UInt32)(v:V8)(hx:x=CS ws v k):
 ((#[Bn x.a,Bn x.a,Bn x.b,Bn x.c,Bn x.d,Bn x.e,Bn x.f,Bn x.g]:Array Value).setIfInBounds 0 (.int .u32 ((Gw.Ct x (Cw.getD k 0) (ws.getD k 0)+gN x).toNat:Int))).setIfInBounds 4 (.int .u32 ((x.d+Gw.Ct x (Cw.getD k 0) (ws.getD k 0)).toNat:Int))=v8c (CS ws v (k+1)):=by
 subst hx;rfl
theorem bA(bs:List UInt8):(DT bs).length=64:=BL bs 64
theorem iD(ws:List UInt32)(h:ws.length=64):((ws.map Bn).toArray).size=64:=by rw [uO,tK,h]
theorem iE(ws:List UInt32)(h:ws.length=64):Eg (EY []).toArray 0 ((ws.map Bn).toArray).toList=(ws.map Bn).toArray:=
 Vv (EY []).toArray (ws.map Bn) (by rw [tK,h];rfl)
theorem lQ:0+64≤((EY []).toArray).size:=by rw [uO,Ca _ (tY _)];exact tQ _
theorem ZB(v:V8):∀x∈(v8c v).toList,x.oneCell'=true:=by
 intro x hx;rw [fq]at hx;simp only [uh]at hx;obtain ⟨y,_,rfl⟩:=hx;rfl
theorem gD(l:List UInt32):∀x∈(l.map Bn).toArray.toList,x.oneCell'=true:=by
 intro x hx;simp only [uh]at hx;obtain ⟨y,_,rfl⟩:=hx;rfl
theorem l6(hp g o cap:Nat)(c:Array Value)(T:TypeId)(z:Nat×Nat)(bs:List UInt8)(hb:bs.length=64)(hc:Ka c o bs)(Th Tg:TypeId)(zg:Nat×Nat)(v:V8):
 CF Tryz.prog 245 #[I5 hp,.slice (some ⟨g,o,none⟩) 64 cap] [[(hp,.cells (v8c v) Th (0,0))],[(g,.cells c T z)],[(1,.cells (Cw.map Bn).toArray Tg zg)]]
  (fun r H'=>r= .tuple #[]∧H'=[[(hp,.cells (v8c (KZ v bs)) Th (0,0))],[(g,.cells c T z)],[(1,.cells (Cw.map Bn).toArray Tg zg)]]):=by
 refine Io func245 rfl ntmps245 rfl ?_;intro u R;obtain ⟨ws,hws⟩:∃ws,ws=DT bs:=⟨_,rfl⟩;have hw:ws.length=64:=by rw [hws];exact bA bs
 have hss:=XW g o cap c T z bs hb hc;rw [←hws]at hss;have hbl:KZ v bs=lC v (CS ws v 64):=by rw [hws];rfl
 clear hws;rw [hbl];refine Zb [0,1] ?_;refine Zq<|Zg<|Zm Y<|Xr [_] Y call281 Y rfl (hss) ?_;refine Ze (LY zeroValue339 (cs:=(EY []).toArray) (by kernel_rfl)) ?_;rintro _ _ ⟨bw,rfl,rfl⟩;refine Xe (BP sizeOf339 Y Y (by exact gD _) Wu (by exact iE ws hw) (by exact iD ws hw) (by exact lQ) (by exact BR _)) ?_;refine Z0<|Zx<|Zq<|Zg<|Zm Y<|Zp Y rfl<|Zo Wh (AY (cs:=v8c v) isAgg298 sizeOf298 Y Wn (by rfl)) ?_;refine Ze (Al zeroValue298 #[_,_,_,_,_,_,_,_]) ?_;rintro _ _ ⟨bv,rfl,rfl⟩;refine Xe (BP sizeOf298 Y Y (by exact ZB v) Wu (by exact (rfl:_=v8c (CS ws v 0))) (by first|rfl|(simp;done)) Wn (by exact BR _)) ?_;refine Z0<|Zx<|Zq<|Zq<|Zg<|Zo Wh (AY (cs:=(Cw.map Bn).toArray) isAgg339 sizeOf339 Y (by first|omega|exact tQ _) (by exact Hz _ _ rfl)) ?_;refine Zm Y<|Z0<|Zx<|AQ<|Zb [19,0,4,5,18] ?_;refine Az (e0:=[(19,_)]) (fun m e H=>∃k:Nat,m=64 -k∧(k≤64)∧e=[(19,I4 (k:Int))]∧H=[[(bv,.cells (v8c (CS ws v k)) 298 (0,0))]]) (by exact ⟨0,rfl,tY _,rfl,rfl⟩) Wp ?_;rintro _ _ _ ⟨k,rfl,hk,rfl,rfl⟩;obtain ⟨x,hx⟩:∃x,x=CS ws v k:=⟨_,rfl⟩;rw [←hx];refine Zq<|Zg<|Zv (Aq (n:=64) Y Y)<|Z0<|Zx<|Zq ?_;refine Ao Y (fun hc1=>?_) (fun hc1=>?_)
 ·
  refine AB<|Zx<|Zq<|AQ<|Zq<|Zg<|Zm Y<|Zv (Ow underlying339 isAgg227 sizeOf227 Y Y (by first|omega|exact tQ _) (by exact rA k (by omega))) ?_;refine Za Y<|Za Y<|Z0<|Zx<|Zq<|BJ (n:=6) (0::1::0::4::3::31::[]) 0 (by kernel_rfl) (by kernel_rfl) rfl ?_;refine Zi 1 0 rfl (BG (j:=0) underlying298 sizeOf227 Y Y (by omega)) ?_;refine Zj 3 1 rfl isAgg227 Y ?_;refine Zi 7 2 rfl (BG (j:=4) underlying298 sizeOf227 Y Y (by omega)) ?_;refine Zj 15 3 rfl isAgg227 Y ?_;refine Zi 31 4 rfl (Ay Y)<|Zi 63 5 rfl (Ay Y)<|Am ?_;refine Zx<|Zq<|BJ (n:=24) (0::1::0::0::12::31::0::0::128::448::0::1024::0::4096::15360::32704::65535::0::262143::0::524288::1572864::4194303::8388607::[]) 24 (by kernel_rfl) (by kernel_rfl) rfl ?_;refine Zi 1 0 rfl (BG (j:=7) underlying298 sizeOf227 Y Y (by omega)) ?_;refine Zj 3 1 rfl isAgg227 Y ?_;refine Zi 7 2 rfl (AJ Y)<|Zi 71 6 rfl (AJ Y) ?_;refine Zi 199 7 rfl (BG (j:=5) underlying298 sizeOf227 Y Y (by omega)) ?_;refine Zj 455 8 rfl isAgg227 Y ?_;refine Zi 967 9 rfl (FC Y Y)<|Zi 1991 10 rfl (AJ Y)<|Zi 4039 11 rfl (TQ Y) ?_;refine Zi 8135 12 rfl (BG (j:=6) underlying298 sizeOf227 Y Y (by omega)) ?_;refine Zj 16327 13 rfl isAgg227 Y ?_;refine Zi 32711 14 rfl (FC Y Y)<|Zi 65479 15 rfl (Cn Y Y)<|Zi 196551 17 rfl (AJ Y)<|Zi 720839 19 rfl (AJ Y) ?_;refine Zi 1769415 20 rfl (BG underlying339 sizeOf227 Y Y (by omega)) ?_;refine Zj 3866567 21 rfl isAgg227 Y (hv:=by exact PW Bn ws k 0 (by omega)) ?_;refine Yz 3 0 3866575 [21,13,8,1] [true,true,true,true] [(21,(_,_)),(13,(_,_)),(8,(_,_)),(1,(_,_))] rfl Y rfl rfl rfl rfl (Ae (vs:=[_,_,_]) (cs:=[_,_,_]) underlying210 sizeOf3 zeroValue3 Y rfl rfl rfl rfl rfl) ?_;rintro _ _ ⟨b3,rfl,rfl⟩;refine ⟨Zk (Zk (Zk (Zk (Ad)))),?_⟩;refine Yz 4 12 3866591 [21,13,8,1] [true,true,true,true] [(21,(_,_)),(13,(_,_)),(8,(_,_)),(1,(_,_))] rfl Y rfl rfl rfl rfl (Zu [_,_] Y call282 Y rfl (Hr _ [6,11,25] _ _ _ _ (by decide) (by decide))) ?_;rintro _ _ ⟨rfl,rfl⟩;refine ⟨Zk (Zk (Zk (Zk (Ad)))),?_⟩
  refine Zi 3866623 5 rfl (CK Y Y)<|Zi 3932159 16 rfl (CK Y Y)<|Zi 4194303 18 rfl (CK Y Y)<|Zi 8388607 22 rfl (CK Y Y)<|Zi 16777215 23 rfl (Ay Y)<|Am ?_;refine Zn [0,4,5,8,10,18,19] ?_;refine Zx<|Zq<|BJ (n:=20) (0::0::3::0::0::16::56::0::0::256::896::2040::0::4096::0::16384::61440::131064::262143::524287::[]) 6 (by kernel_rfl) (by kernel_rfl) rfl ?_;refine Zi 1 0 rfl (AJ Y)<|Zi 9 3 rfl (AJ Y) ?_;refine Zi 25 4 rfl (BG (j:=1) underlying298 sizeOf227 Y Y (by omega)) ?_;refine Zj 57 5 rfl isAgg227 Y ?_;refine Zi 121 6 rfl (FC Y Y)<|Zi 249 7 rfl (AJ Y) ?_;refine Zi 505 8 rfl (BG (j:=2) underlying298 sizeOf227 Y Y (by omega)) ?_;refine Zj 1017 9 rfl isAgg227 Y ?_;refine Zi 2041 10 rfl (FC Y Y)<|Zi 4089 11 rfl (Cn Y Y) ?_;refine Zi 8185 12 rfl (BG (j:=1) underlying298 sizeOf227 Y Y (by omega)) ?_;refine Zj 16377 13 rfl isAgg227 Y ?_;refine Zi 32761 14 rfl (BG (j:=2) underlying298 sizeOf227 Y Y (by omega)) ?_;refine Zj 65529 15 rfl isAgg227 Y ?_;refine Zi 131065 16 rfl (FC Y Y)<|Zi 262137 17 rfl (Cn Y Y)<|Zz (l:=[1]) ?_;refine Zy 0 262139 [15,13,9,5] [true,true,true,true] [(15,(_,_)),(13,(_,_)),(9,(_,_)),(5,(_,_))] rfl Y rfl rfl rfl rfl (Ae (vs:=[_,_,_]) (cs:=[_,_,_]) underlying210 sizeOf3 zeroValue3 Y rfl rfl rfl rfl rfl) ?hk_4 (fun _ _ h=>h.elim) ?hl_4
  case hk_4=>
   rintro _ _ ⟨b4,rfl,rfl⟩;refine ⟨Zk (Zk (Zk (Zk (Ad)))),?_⟩;refine Yz 2 3 262143 [15,13,9,5] [true,true,true,true] [(15,(_,_)),(13,(_,_)),(9,(_,_)),(5,(_,_))] rfl Y rfl rfl rfl rfl (Zu [_,_] Y call282 Y rfl (Hr _ [2,13,22] _ _ _ _ (by decide) (by decide))) ?_;rintro _ _ ⟨rfl,rfl⟩;refine ⟨Zk (Zk (Zk (Zk (Ad)))),?_⟩;refine Zi 524287 18 rfl (CK Y Y)<|Zi 1048575 19 rfl (Ay Y)<|Am ?_;refine Zn [0,4,5,10,11,18,19] ?_;refine Zx<|Zq<|BJ (n:=3) (0::0::3::[]) 4 (by kernel_rfl) (by kernel_rfl) rfl ?_;refine Zi 1 0 rfl (OE (l:=1) underlying298 sizeOf227 Y Y (by omega)) ?_;refine Zi 3 1 rfl (QY (h:=7) underlying298 sizeOf227 Y Y (by omega)) ?_;refine Yw 2 7 rfl (oW (cs:=[_,_,_,_,_,_,_]) (c':=#[_,_,_,_,_,_,_,_]) underlying228 sizeOf227 Y Y Wh Wu (by rfl) (by rfl) (by rfl) (by exact tQ 8) (BR _) (by simp [Value.oneCell',Bn])) ?_;rintro _ _ ⟨rfl,rfl⟩;refine Am ?_;refine Zx<|Zg<|Zm Y<|Zm Y<|Zv (CK Y Y) ?_;refine BM (BG (j:=4) underlying298 sizeOf227 Y Y (by omega)) ?_;refine Zl isAgg227 Y ?_;refine Zm Y<|Zv (CK Y Y) ?_;refine BM (BG (j:=0) underlying298 sizeOf227 Y Y (by omega)) ?_;refine Xe (Zs sizeOf227 Y Y rfl) ?_;refine BM (BG (j:=4) underlying298 sizeOf227 Y Y (by omega)) ?_;refine Xe (Zs sizeOf227 Y Y rfl (hc:=by exact (XU x k ws v hx))) ?_;refine Z0<|Zn [0,4,5,18,19] ?_;refine A8<|Zx<|Zg<|Ya (n:=1) Y Y<|Zm Y<|Z0<|Zn [19,0,4,5,18] ?_;refine Ab (e':=[(19,_)]) (by exact ⟨k+1,rfl,by omega,rfl,rfl⟩)
  exact Ar
 refine Au<|Zt<|Zt<|AO<|Zx<|Zq<|Zg<|Zm Y<|Z0<|Zx<|AQ ?_;have ek:k=64:=by omega
 subst ek;refine Zb [82,0,5] ?_;refine Az (e0:=[(82,_)]) (fun m e H=>∃i:Nat,m=8 -i∧(i≤8)∧e=[(82,I4 (i:Int))]∧H=[[(hp,.cells ((Tj v x i).map Bn).toArray Th (0,0))]]) (by exact ⟨0,rfl,tY _,rfl,rfl⟩) Wp ?_;rintro _ _ _ ⟨i,rfl,hi,rfl,rfl⟩;refine Zq<|Zg<|Zv (Aq (n:=8) Y Y)<|Z0<|Zx<|Zq ?_;refine Ao Y (fun hc2=>?_) (fun hc2=>?_)
 ·
  refine AB<|Zx<|Zq<|AQ<|Zq<|Zg<|Zm Y<|Za Y<|Z0<|Zx<|BJ (n:=12) (0::0::1::7::15::0::32::96::255::1::1023::2047::[]) 2048 (by kernel_rfl) (by kernel_rfl) rfl ?_;refine Zi 1 0 rfl (AJ Y)<|Zi 3 1 rfl (AJ Y)<|Zi 7 2 rfl (E5 Y rfl) ?_;refine Zi 15 3 rfl (BG underlying298 sizeOf227 Y Y (by first|omega|(rw [uO,tK,Lp _ _ _ (by omega)];omega))) ?_;refine Zj 31 4 rfl isAgg227 Y (hv:=by exact dz _ _ i (by omega)) ?_;refine Zi 63 5 rfl (AJ Y) ?_;refine Zi 127 6 rfl (BG underlying298 sizeOf227 Y Y (by first|omega|(rw [uO,tK,Lp _ _ _ (by omega)];omega))) ?_;refine Zj 255 7 rfl isAgg227 Y (hv:=by exact fw _ i (by omega)) ?_;refine Zi 511 8 rfl (CK Y Y)<|Zi 1023 9 rfl (E5 Y rfl) ?_;refine Zi 2047 10 rfl (BG underlying298 sizeOf227 Y Y (by first|omega|(rw [uO,tK,Lp _ _ _ (by omega)];omega))) ?_;refine Yw 11 4095 rfl (Zs sizeOf227 Y Y rfl (hc:=by exact dx _ _ i (by omega)) (hi:=by(rw [uO,tK,Lp _ _ _ (by omega)];omega))) ?_;rintro _ _ ⟨rfl,rfl⟩;refine Am ?_;refine Zn [0,5,82] ?_;refine A8<|Zx<|Zg<|Ya (n:=1) Y Y<|Zm Y<|Z0<|Zn [82,0,5] ?_;refine Ab (e':=[(82,_)]) (by exact ⟨i+1,rfl,by omega,rfl,rfl⟩)
 have ei:i=8:=by omega
 subst ei;rw [←hx];refine Au<|Zt<|Zt<|AO ?_;refine Gz rfl results245 (by exact ⟨rfl,rfl⟩)
end Go.Proofs.YtkdgffcfmgmemaaGreatDoor
