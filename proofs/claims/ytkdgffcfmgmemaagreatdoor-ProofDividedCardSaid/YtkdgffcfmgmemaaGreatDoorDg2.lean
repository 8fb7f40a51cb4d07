/- Contracts: bits.RotateLeft32 at the counts of the program, digest.mixed, digest.schedule. -/
/- Contracts: digest.add, digest.digest. -/
import Derived.Test.YtkdgffcfmgmemaaGreatDoorEz
import Derived.Test.YtkdgffcfmgmemaaGreatDoorEx4
import Derived.Test.YtkdgffcfmgmemaaGreatDoorEx5
import Derived.Test.YtkdgffcfmgmemaaGreatDoorSha
import Derived.Test.YtkdgffcfmgmemaaGreatDoorBits
import Derived.Test.YtkdgffcfmgmemaaGreatDoorProg
import Derived.Laws.Bits64
import Derived.WalkKit
set_option linter.unusedVariables false
set_option linter.unusedSimpArgs false
namespace Go.Proofs.YtkdgffcfmgmemaaGreatDoor
open Go.Proofs.Tryz
open Go Go.RowKit Gw
set_option maxRecDepth 100000
attribute [local irreducible] Gw.At Gw.Nx Gw.Ops
theorem TA(x:UInt32)(n m:Nat)(h0:0<n)(h1:n<32)(hm:n+m=32):(x<<<UInt32.ofNat m)|||(x>>>UInt32.ofNat n)=IL x (UInt32.ofNat n):=by
 unfold IL;have:(32:UInt32) -UInt32.ofNat n=UInt32.ofNat m:=by
  apply UInt32.toNat_inj.1;rw [UInt32.toNat_sub,yg,yg];simp only [UInt32.reduceToNat];omega
 rw [this]
theorem mW(n m:Nat)(h0:0<n)(h1:n<32)(hm:n+m=32):bits .and .u64 (IntKind.u64.wrap (-(n:Int))) 31=(m:Int):=by
 have h:IntKind.u64.wrap (-(n:Int))=((18446744073709551616 -n:Nat):Int):=by rw [IntKind.wrap_u64];omega
 have h31:(31:Int)=((31:Nat):Int):=rfl;rw [h,h31,u64_and_nat _ _ (by omega) (by omega),nat_mask5];omega
theorem bS(x:UInt32)(n:Nat)(h0:0<n)(h1:n<32):Az Tryz.prog 302 #[.int .u32 x.toNat,I4 (-(n:Int))] [] (.int .u32 (IL x (UInt32.ofNat n)).toNat):=by
 refine J5 func302 rfl ntmps302 rfl ?_;intro u R;obtain ⟨m,hm⟩:∃m,n+m=32:=⟨32 -n,by omega⟩;refine Zb [0,1] ?_;refine Zq<|Zg<|Za Y<|Z0<|Zx<|Zq<|Zg<|Zm Y<|Jk (Ef underlying3 underlying231 Y rfl) rfl rfl ?_;refine Jk (jG Y Y (mW n m h0 h1 hm)) rfl rfl ?_;refine Za Y<|Z0<|Zx<|Zq<|Zg<|Zm Y<|Zm Y ?_;refine BO (GN Y Y (by omega)) ?_;refine Zm Y<|Zm Y ?_
 (refine BO (MG (m:=32) Y Y ?_ ?_) ?_;(focus (omega));(focus (omega)))
 refine BO (FE Y Y (by omega)) ?_;refine Zv (Hz Y Y)<|Za Y<|Z0<|Zn [4] ?_;refine Zx<|AA ?_;refine AJ rfl results302 Y (by
  have e:32 -m=n:=by omega
  exact ⟨by rw [e,TA x n m h0 h1 hm],rfl⟩)
theorem jU(x:UInt32)(l:List UInt32)(n:UInt32):Ob x (l++[n])=Ob x l^^^IL x n:=by simp [Ob]
def rQ(n:Nat):Value:=I4 (n:Int)
theorem Lh{α β:Type}(f:α→β)(l:List α)(k:Nat)(d:α)(h:k<l.length):(l.take (k+1)).map f=(l.take k).map f++[f (l.getD k d)]:=by
 rw [yI h,uW];simp [uy,tq h]
theorem Pk{α:Type}(f:α→Value)(l:List α)(k:Nat)(d:α)(h:k<l.length):(l.map f).toArray[k]?=some (f (l.getD k d)):=by
 simp [tq h,uy]
theorem I9(x:UInt32)(l:List Nat)(g cap:Nat)(T:TypeId)(z:Nat×Nat)(hl:∀n∈l,0<n∧n<32)(hn:l.length≤100):
 Az Tryz.prog 282 #[.int .u32 x.toNat,I6 g l.length cap] [[(g,.cells (l.map rQ).toArray T z)]] (.int .u32 (Ob x (l.map UInt32.ofNat)).toNat):=by
 refine Se func282 ntmps282 [0,1] ?_;intro u R;refine Zq<|Zg<|Za Y<|Z0<|Zx<|Zq<|Zg<|Za Y<|Z0<|Zx<|Zq<|Zq<|Zg<|Zm Y<|Zv (AV underlying210 Y)<|Zm Y<|Z0<|Zx<|AR<|Zb [5,10,0,8,9] ?_;refine BB (e0:=[(5,_),(10,_)]) (fun m e H=>∃k:Nat,m=l.length -k∧(k≤l.length)∧e=[(5,.int .u32 ((Ob x ((l.take k).map UInt32.ofNat)).toNat:Int)),(10,I4 (k:Int))]∧H=[]) (by exact ⟨0,rfl,uK _,rfl,rfl⟩) Wp ?_;rintro _ _ _ ⟨k,rfl,hk,rfl,rfl⟩;refine Zq<|Zg<|Zv (Av Y Y)<|Z0<|Zx<|Zq ?_;refine Aq Y (fun hc1=>?_) (fun hc1=>?_)
 ·
  refine AB<|Zx<|Zq<|AR<|Zq<|Zg ?_;refine BO (BC underlying210 sizeOf3 Y Y (by omega)) ?_;refine Zl isAgg3 Y (hv:=by exact Pk rQ l k 0 (by omega)) ?_;refine Za Y<|Z0<|Zx ?_;have hlk:=hl (l.getD k 0) (by rw [uy,tq (by omega)];exact AA8 _)
  refine Zg<|Zm Y<|Zm Y<|Zm Y<|Jk (Tc (c:=-(l.getD k 0:Int)) Y (by rw [Int.zero_sub];exact IntWalk.i64_in _ (by omega))) rfl rfl ?_;refine Xr [_,_] Y call302 Y rfl (bS _ _ hlk.1 hlk.2) ?_;refine Zv (Ct Y Y)<|Za Y<|Z0<|A8<|Zx<|Zg<|Ya (n:=1) Y Y<|Zm Y<|Z0<|Zn [5,10,0,8,9] ?_;refine Aa (e':=[(5,_),(10,_)]) (by exact ⟨k+1,rfl,by omega,by rw [Lh _ _ _ 0 (by omega),jU],rfl⟩)
 refine Aw<|Zt<|Zt<|AP<|Zx<|Zq<|Zg<|Zm Y<|Za Y<|Z0<|Zx<|AA ?_;refine AJ rfl results282 Y (by
  have e:k=l.length:=by omega
  exact ⟨by rw [e,ug],rfl⟩)
def Ea(l:List UInt32):List Value:=l.map Bp++List.replicate (64 -l.length) (.int .u32 0)
theorem Ch(l:List UInt32)(h:l.length≤64):(Ea l).length=64:=by simp [Ea];omega
theorem Xc(l:List UInt32)(i:Nat)(h:i<l.length):(Ea l).toArray[i]?=some (Bp (l.getD i 0)):=by
 simp [Ea,zT,h,uy]
theorem Xa(l:List UInt32)(x:UInt32)(h:l.length<64):(Ea l).toArray.setIfInBounds l.length (Bp x)=(Ea (l++[x])).toArray:=by
 rw [yU];congr 1;unfold Ea;rw [zK _ _ (by simp)];simp only [u7,y8,u6,uJ,vT];obtain ⟨n,hn⟩:∃n,64 -l.length=n+1:=⟨63 -l.length,by omega⟩;rw [hn,show 64 -(l.length+(0+1))=n by omega];simp [List.replicate_succ]
theorem JN(b:List UInt8)(k:Nat)(x:UInt32)(h:k<64)(hx:Dp b (k+1)=Dp b k++[x]):(Ea (Dp b k)).toArray.setIfInBounds k (.int .u32 (x.toNat:Int))=(Ea (Dp b (k+1))).toArray:=by
 have:=Xa (Dp b k) x (by rw [BM];exact h);rw [BM]at this;rw [hx];exact this
theorem Xb(l:List UInt32):∀v∈(Ea l).toArray.toList,v.oneCell'=true:=by
 intro v hv;simp only [Ea,uQ,vD,List.mem_replicate]at hv;rcases hv with⟨x,_,rfl⟩|⟨_,rfl⟩<;>rfl
theorem VO(l:List UInt32)(h:l.length=64):Ea l=l.map Bp:=by simp [Ea,h]
theorem VM(b:List UInt8)(k:Nat)(h:k<16):Dp b (k+1)=Dp b k++[XV b k]:=by rw [Dp,if_pos h]
theorem N7(b:List UInt8)(k:Nat)(h:16≤k):Dp b (k+1)=Dp b k++[Qv (Dp b k) k]:=by rw [Dp,if_neg (by omega)]
def Kj(c:Array Value)(o:Nat)(bs:List UInt8):Prop:=(c.toList.drop o).take bs.length=bs.map u8v
theorem Kj.get{c:Array Value}{o:Nat}{bs:List UInt8}(h:Kj c o bs)(j:Nat)(hj:j<bs.length):c[o+j]?=some (u8v (bs.getD j 0)):=by
 have h1:((c.toList.drop o).take bs.length)[j]?=(bs.map u8v)[j]?:=by rw [h]
 rw [uz,if_pos hj,vK,uO,tq hj]at h1;rw [ui]at h1;rw [h1];simp [uy,tq hj]
theorem KF(b:List UInt8)(k i:Nat)(h:i<k):(Ea (Dp b k)).toArray[i]?=some (Bp ((Dp b k).getD i 0)):=Xc _ _ (by rw [BM];exact h)
theorem Xj(g o cap:Nat)(c:Array Value)(T:TypeId)(z:Nat×Nat)(bs:List UInt8)(hb:bs.length=64)(hc:Kj c o bs):
 Az Tryz.prog 281 #[.slice (some ⟨g,o,none⟩) 64 cap] [[(g,.cells c T z)]] (.agg ((DX bs).map Bp).toArray):=by
 refine Se func281 ntmps281 [0] ?_;intro u R;refine Zq<|Zg<|Ze (Lf zeroValue339 (cs:=(Ea []).toArray) (by kernel_rfl)) ?_;rintro _ _ ⟨bw,rfl,rfl⟩;refine Z0<|Zx<|Zq<|Zq<|Zg<|Zm Y<|Z0<|Zx<|AR<|Zb [7,0,2] ?_;refine BB (e0:=[(7,_)]) (fun m e H=>∃k:Nat,m=16 -k∧(k≤16)∧e=[(7,I4 (k:Int))]∧H=[[(bw,.cells (Ea (Dp bs k)).toArray 339 (0,0))]]) (by exact ⟨0,rfl,uK _,rfl,rfl⟩) Wp ?_;rintro _ _ _ ⟨k,rfl,hk,rfl,rfl⟩;refine Zq<|Zg<|Zv (Av (n:=16) Y Y)<|Z0<|Zx<|Zq ?_;refine Aq Y (fun hc1=>?_) (fun hc1=>?_)
 ·
  refine AB<|Zx<|Zq<|AR<|Zq<|Zg<|Zm Y<|Za Y<|Z0<|Zx<|BK (n:=36) (0::0::0::4::14::30::62::126::0::0::512::1536::3840::7936::16128::32512::65534::0::0::262144::786432::1966080::4063232::8257536::16646144::33554430::0::0::134217728::402653184::1006632960::2080374784::4227858432::8589934590::17179869183::34359738367::[]) 34359738368 (by kernel_rfl) (by kernel_rfl) rfl ?_;refine Zi 1 0 rfl (AL Y)<|Zi 3 1 rfl (AL Y)<|Zi 7 2 rfl (AL Y) ?_;refine Zi 15 3 rfl (DF (m:=4) Y Y (by omega)) ?_;refine Zi 31 4 rfl (BV underlying124 sizeOf5 Y Y (by first|omega|(rw [uh,Ch _ (by rw [BM];omega)];omega))) ?_;refine Zj 63 5 rfl isAgg5 Y (hv:=by exact hc.get _ (by omega)) ?_;refine Zi 127 6 rfl (EJ underlying5 underlying227 Y) ?_;refine Zi 255 7 rfl (GN (n:=24) Y Y (by omega)) ?_;refine Zi 511 8 rfl (AL Y)<|Zi 1023 9 rfl (AL Y) ?_;refine Zi 2047 10 rfl (DF (m:=4) Y Y (by omega)) ?_;refine Zi 4095 11 rfl (DJ (n:=1) Y Y (by omega)) ?_;refine Zi 8191 12 rfl (BV underlying124 sizeOf5 Y Y (by first|omega|(rw [uh,Ch _ (by rw [BM];omega)];omega))) ?_;refine Zj 16383 13 rfl isAgg5 Y (hv:=by exact hc.get _ (by omega)) ?_;refine Zi 32767 14 rfl (EJ underlying5 underlying227 Y) ?_;refine Zi 65535 15 rfl (GN (n:=16) Y Y (by omega)) ?_;refine Zi 131071 16 rfl (Hz Y Y)<|Zi 262143 17 rfl (AL Y)<|Zi 524287 18 rfl (AL Y) ?_;refine Zi 1048575 19 rfl (DF (m:=4) Y Y (by omega)) ?_;refine Zi 2097151 20 rfl (DJ (n:=2) Y Y (by omega)) ?_;refine Zi 4194303 21 rfl (BV underlying124 sizeOf5 Y Y (by first|omega|(rw [uh,Ch _ (by rw [BM];omega)];omega))) ?_;refine Zj 8388607 22 rfl isAgg5 Y (hv:=by exact hc.get _ (by omega)) ?_;refine Zi 16777215 23 rfl (EJ underlying5 underlying227 Y) ?_;refine Zi 33554431 24 rfl (GN (n:=8) Y Y (by omega)) ?_;refine Zi 67108863 25 rfl (Hz Y Y)<|Zi 134217727 26 rfl (AL Y)<|Zi 268435455 27 rfl (AL Y) ?_;refine Zi 536870911 28 rfl (DF (m:=4) Y Y (by omega)) ?_;refine Zi 1073741823 29 rfl (DJ (n:=3) Y Y (by omega)) ?_
  refine Zi 2147483647 30 rfl (BV underlying124 sizeOf5 Y Y (by first|omega|(rw [uh,Ch _ (by rw [BM];omega)];omega))) ?_;refine Zj 4294967295 31 rfl isAgg5 Y (hv:=by exact hc.get _ (by omega)) ?_;refine Zi 8589934591 32 rfl (EJ underlying5 underlying227 Y)<|Zi 17179869183 33 rfl (Hz Y Y) ?_;refine Zi 34359738367 34 rfl (BH underlying339 sizeOf227 Y Y (by first|omega|(rw [uh,Ch _ (by rw [BM];omega)];omega))) ?_;refine Yw 35 68719476735 rfl (Zs sizeOf227 Y Y rfl (hc:=by exact JN bs k (XV bs k) (by omega) (VM bs k (by omega))) (hi:=by(rw [uh,Ch _ (by rw [BM];omega)];omega))) ?_;rintro _ _ ⟨rfl,rfl⟩;refine Ao ?_;refine Zn [0,2,7] ?_;refine A8<|Zx<|Zg<|Ya (n:=1) Y Y<|Zm Y<|Z0<|Zn [7,0,2] ?_;refine Aa (e':=[(7,_)]) (by exact ⟨k+1,rfl,by omega,rfl,rfl⟩)
 refine Aw<|Zt<|Zt<|AP<|Zx<|Zq<|Zq<|Zg<|Za Y<|Z0<|Zx<|AR ?_;have hk16:k=16:=by omega
 subst hk16;refine Zb [4,2] ?_;refine BB (e0:=[(4,_)]) (fun m e H=>∃k:Nat,m=64 -k∧(16≤k∧k≤64)∧e=[(4,I4 (k:Int))]∧H=[[(bw,.cells (Ea (Dp bs k)).toArray 339 (0,0))]]) (by exact ⟨16,rfl,by omega,rfl,rfl⟩) Wp ?_;rintro _ _ _ ⟨k,rfl,⟨hk0,hk⟩,rfl,rfl⟩;refine Zq<|Zq<|Zg<|Zm Y<|Zv (Av (n:=64) Y Y)<|Z0<|Zx ?_;refine Aq Y (fun hc2=>?_) (fun hc2=>?_)
 ·
  refine AB<|Zx<|Zq<|AR<|Zq<|BK (n:=10) (0::1::3::7::0::16::48::112::15::511::[]) 0 (by kernel_rfl) (by kernel_rfl) rfl ?_;refine Zi 1 0 rfl (AL Y) ?_
  (refine Dz (D':=3) 1 (Bi (n:=15) Y Y ?_ ?_) ?_;(focus (omega));(focus (omega)))
  refine Zi 7 2 rfl (BH underlying339 sizeOf227 Y Y (by omega)) ?_;refine Zj 15 3 rfl isAgg227 Y (hv:=by exact KF bs k _ (by omega)) ?_;refine Zi 31 4 rfl (AL Y) ?_
  (refine Dz (D':=63) 5 (Bi (n:=2) Y Y ?_ ?_) ?_;(focus (omega));(focus (omega)))
  refine Zi 127 6 rfl (BH underlying339 sizeOf227 Y Y (by omega)) ?_;refine Zj 255 7 rfl isAgg227 Y (hv:=by exact KF bs k _ (by omega)) ?_;refine Zi 511 8 rfl (Au Y)<|Zi 1023 9 rfl (Au Y)<|Ao ?_;refine Zx<|BK (n:=26) (0::0::2::6::14::0::0::96::0::256::992::2046::0::4096::12288::28672::65534::0::0::393440::0::1048576::4063456::8388606::16777215::33554431::[]) 34341056 (by kernel_rfl) (by kernel_rfl) rfl ?_;refine Zi 1 0 rfl (AL Y)<|Zi 3 1 rfl (AL Y) ?_
  (refine Dz (D':=7) 2 (Bi (n:=16) Y Y ?_ ?_) ?_;(focus (omega));(focus (omega)))
  refine Zi 15 3 rfl (BH underlying339 sizeOf227 Y Y (by first|omega|(rw [uh,Ch _ (by rw [BM];omega)];omega))) ?_;refine Zj 31 4 rfl isAgg227 Y (hv:=by exact KF bs k _ (by omega)) ?_;refine Zi 63 5 rfl (AL Y)<|Zi 319 8 rfl (AL Y) ?_;refine Zi 831 9 rfl (FE (n:=3) Y Y (by omega)) ?_;refine Zi 4927 12 rfl (AL Y) ?_
  (refine Dz (D':=13119) 13 (Bi (n:=7) Y Y ?_ ?_) ?_;(focus (omega));(focus (omega)))
  refine Zi 29503 14 rfl (BH underlying339 sizeOf227 Y Y (by first|omega|(rw [uh,Ch _ (by rw [BM];omega)];omega))) ?_;refine Zj 62271 15 rfl isAgg227 Y (hv:=by exact KF bs k _ (by omega)) ?_;refine Zi 193343 17 rfl (AL Y)<|Zi 1241919 20 rfl (AL Y) ?_;refine Zi 3339071 21 rfl (FE (n:=10) Y Y (by omega)) ?_;refine Zz (l:=[6,18]) ?_;refine Zy 0 3339135 [15,4] [true,true] [(15,(_,_)),(4,(_,_))] rfl Y rfl rfl rfl rfl (Af (vs:=[_,_]) (cs:=[_,_]) underlying210 sizeOf3 zeroValue3 Y rfl rfl rfl rfl rfl) ?hk_5 (fun _ _ h=>h.elim) ?hl_5
  case hk_5=>
   rintro _ _ ⟨b2,rfl,rfl⟩;refine ⟨Zk (Zk (Ad)),?_⟩;refine Zz (l:=[7,18]) ?_;refine Zy 96 3339263 [15,4] [true,true] [(15,(_,_)),(4,(_,_))] rfl Y rfl rfl rfl rfl (Zu [_,_] Y call282 Y rfl (I9 _ [7,18] _ _ _ _ (by decide) (by decide))) ?hk_6 (fun _ _ h=>h.elim) ?hl_6
   case hk_6=>
    rintro _ _ ⟨rfl,rfl⟩;refine ⟨Zk (Zk (Ad)),?_⟩;refine Zi 3340287 10 rfl (Ct Y Y)<|Zi 3342335 11 rfl (CR Y Y)<|Zi 3407871 16 rfl (CR Y Y)<|Zz (l:=[18]) ?_;refine Zy 0 3670015 [15,4] [true,true] [(15,(_,_)),(4,(_,_))] rfl Y rfl rfl rfl rfl (Af (vs:=[_,_]) (cs:=[_,_]) underlying210 sizeOf3 zeroValue3 Y rfl rfl rfl rfl rfl) ?hk_7 (fun _ _ h=>h.elim) ?hl_7
    case hk_7=>
     rintro _ _ ⟨b3,rfl,rfl⟩;refine ⟨Zk (Zk (Ad)),?_⟩;refine Yz 19 393440 4194303 [15,4] [true,true] [(15,(_,_)),(4,(_,_))] rfl Y rfl rfl rfl rfl (Zu [_,_] Y call282 Y rfl (I9 _ [17,19] _ _ _ _ (by decide) (by decide))) ?_;rintro _ _ ⟨rfl,rfl⟩;refine ⟨Zk (Zk (Ad)),?_⟩;refine Zi 8388607 22 rfl (Ct Y Y)<|Zi 16777215 23 rfl (CR Y Y) ?_;refine Zi 33554431 24 rfl (BH underlying339 sizeOf227 Y Y (by first|omega|(rw [uh,Ch _ (by rw [BM];omega)];omega))) ?_;refine Yw 25 67108863 rfl (Zs sizeOf227 Y Y rfl (hc:=by exact JN bs k (Qv (Dp bs k) k) (by omega) (N7 bs k (by omega))) (hi:=by(rw [uh,Ch _ (by rw [BM];omega)];omega))) ?_;rintro _ _ ⟨rfl,rfl⟩;refine Ao ?_;refine Zn [2,4] ?_;refine A8<|Zx<|Zg<|Zm Y<|Ya (n:=1) Y Y<|Za Y<|Z0<|Zn [4,2] ?_;refine Aa (e':=[(4,_)]) (by exact ⟨k+1,rfl,by omega,rfl,rfl⟩)
    exact Ap
   refine Zy 0 3601279 [15,4] [true,true] [(15,(_,_)),(4,(_,_))] rfl Y rfl rfl rfl rfl (Af (vs:=[_,_]) (cs:=[_,_]) underlying210 sizeOf3 zeroValue3 Y rfl rfl rfl rfl rfl) ?hk_11 (fun _ _ h=>h.elim) ?hl_11
   case hk_11=>
    rintro _ _ ⟨b4,rfl,rfl⟩;refine ⟨Zk (Zk (Ad)),?_⟩;refine Yz 7 96 3601407 [15,4] [true,true] [(15,(_,_)),(4,(_,_))] rfl Y rfl rfl rfl rfl (Zu [_,_] Y call282 Y rfl (I9 _ [7,18] _ _ _ _ (by decide) (by decide))) ?_;rintro _ _ ⟨rfl,rfl⟩;refine ⟨Zk (Zk (Ad)),?_⟩;refine Zi 3602431 10 rfl (Ct Y Y)<|Zi 3604479 11 rfl (CR Y Y)<|Zi 3670015 16 rfl (CR Y Y)<|Zz (l:=[19]) ?_;refine Zy 393440 4194303 [15,4] [true,true] [(15,(_,_)),(4,(_,_))] rfl Y rfl rfl rfl rfl (Zu [_,_] Y call282 Y rfl (I9 _ [17,19] _ _ _ _ (by decide) (by decide))) ?hk_13 (fun _ _ h=>h.elim) ?hl_13
    case hk_13=>
     rintro _ _ ⟨rfl,rfl⟩;refine ⟨Zk (Zk (Ad)),?_⟩;refine Zi 8388607 22 rfl (Ct Y Y)<|Zi 16777215 23 rfl (CR Y Y) ?_;refine Zi 33554431 24 rfl (BH underlying339 sizeOf227 Y Y (by first|omega|(rw [uh,Ch _ (by rw [BM];omega)];omega))) ?_;refine Yw 25 67108863 rfl (Zs sizeOf227 Y Y rfl (hc:=by exact JN bs k (Qv (Dp bs k) k) (by omega) (N7 bs k (by omega))) (hi:=by(rw [uh,Ch _ (by rw [BM];omega)];omega))) ?_;rintro _ _ ⟨rfl,rfl⟩;refine Ao ?_;refine Zn [2,4] ?_;refine A8<|Zx<|Zg<|Zm Y<|Ya (n:=1) Y Y<|Za Y<|Z0<|Zn [4,2] ?_;refine Aa (e':=[(4,_)]) (by exact ⟨k+1,rfl,by omega,rfl,rfl⟩)
    exact Ap
   exact Ap
  refine Zy 0 3601215 [15,4] [true,true] [(15,(_,_)),(4,(_,_))] rfl Y rfl rfl rfl rfl (Af (vs:=[_,_]) (cs:=[_,_]) underlying210 sizeOf3 zeroValue3 Y rfl rfl rfl rfl rfl) ?hk_16 (fun _ _ h=>h.elim) ?hl_16
  case hk_16=>
   rintro _ _ ⟨b5,rfl,rfl⟩;refine ⟨Zk (Zk (Ad)),?_⟩;refine Yz 6 0 3601279 [15,4] [true,true] [(15,(_,_)),(4,(_,_))] rfl Y rfl rfl rfl rfl (Af (vs:=[_,_]) (cs:=[_,_]) underlying210 sizeOf3 zeroValue3 Y rfl rfl rfl rfl rfl) ?_;rintro _ _ ⟨b6,rfl,rfl⟩;refine ⟨Zk (Zk (Ad)),?_⟩;refine Yz 7 96 3601407 [15,4] [true,true] [(15,(_,_)),(4,(_,_))] rfl Y rfl rfl rfl rfl (Zu [_,_] Y call282 Y rfl (I9 _ [7,18] _ _ _ _ (by decide) (by decide))) ?_;rintro _ _ ⟨rfl,rfl⟩;refine ⟨Zk (Zk (Ad)),?_⟩;refine Zi 3602431 10 rfl (Ct Y Y)<|Zi 3604479 11 rfl (CR Y Y)<|Zi 3670015 16 rfl (CR Y Y)<|Zz (l:=[19]) ?_;refine Zy 393440 4194303 [15,4] [true,true] [(15,(_,_)),(4,(_,_))] rfl Y rfl rfl rfl rfl (Zu [_,_] Y call282 Y rfl (I9 _ [17,19] _ _ _ _ (by decide) (by decide))) ?hk_19 (fun _ _ h=>h.elim) ?hl_19
   case hk_19=>
    rintro _ _ ⟨rfl,rfl⟩;refine ⟨Zk (Zk (Ad)),?_⟩;refine Zi 8388607 22 rfl (Ct Y Y)<|Zi 16777215 23 rfl (CR Y Y) ?_;refine Zi 33554431 24 rfl (BH underlying339 sizeOf227 Y Y (by first|omega|(rw [uh,Ch _ (by rw [BM];omega)];omega))) ?_;refine Yw 25 67108863 rfl (Zs sizeOf227 Y Y rfl (hc:=by exact JN bs k (Qv (Dp bs k) k) (by omega) (N7 bs k (by omega))) (hi:=by(rw [uh,Ch _ (by rw [BM];omega)];omega))) ?_;rintro _ _ ⟨rfl,rfl⟩;refine Ao ?_;refine Zn [2,4] ?_;refine A8<|Zx<|Zg<|Zm Y<|Ya (n:=1) Y Y<|Za Y<|Z0<|Zn [4,2] ?_;refine Aa (e':=[(4,_)]) (by exact ⟨k+1,rfl,by omega,rfl,rfl⟩)
   exact Ap
  exact Ap
 refine Aw<|Zt<|Zt<|AP<|Zx<|Zq<|Zg<|Zo Wh (AZ isAgg339 sizeOf339 Y (by(rw [uh,Ch _ (by rw [BM];omega)];omega)) (by exact IG _ _ (by rw [uh,Ch _ (by rw [BM];omega)]))) ?_;refine Xe (BQ sizeOf339 Y Y (by exact Xb _) Wu (by exact jI _) (by rw [uh,Ch _ (by rw [BM];omega)]) (by(rw [uh,Ch _ (by rw [BM];omega)];omega)) (by exact BS _)) ?_;refine Z0<|Zx<|AA ?_;refine DK rfl results281 Y Wh (Ah isAgg339 sizeOf339 (by(rw [uh,Ch _ (by rw [BM];omega)];omega)) (IG _ _ (by rw [uh,Ch _ (by rw [BM];omega)]))) (by
  have e:k=64:=by omega
  exact ⟨by rw [e,VO _ (BM _ _)];rfl,rfl⟩)
def v8c(v:V8):Array Value:=#[Bp v.a,Bp v.b,Bp v.c,Bp v.d,Bp v.e,Bp v.f,Bp v.g,Bp v.h]
theorem gK(v:V8):v8c v=(v.list.map Bp).toArray:=rfl
theorem rT(k:Nat)(h:k<64):(DC.map Bp).toArray[k*1]?=some (Bp (DC.getD k 0)):=by rw [xB];exact Pk Bp DC k 0 (by rw [WW];exact h)
def Ty(x y:V8)(i:Nat):List UInt32:=(lQ x y).list.take i++x.list.drop i
theorem M3(x y:V8)(i:Nat)(h:i≤8):(Ty x y i).length=8:=by
 have:(lQ x y).list.length=8:=rfl;have h2:x.list.length=8:=rfl
 simp [Ty,this,h2];omega
theorem eU(x y:V8)(i:Nat)(h:i<8):((Ty x y i).map Bp).toArray[i]?=some (Bp (x.list.getD i 0)):=by
 have:i=0∨i=1∨i=2∨i=3∨i=4∨i=5∨i=6∨i=7:=by omega
 rcases this with rfl|rfl|rfl|rfl|rfl|rfl|rfl|rfl<;>rfl
theorem gM(y:V8)(i:Nat)(h:i<8):(v8c y)[i]?=some (Bp (y.list.getD i 0)):=by
 have:i=0∨i=1∨i=2∨i=3∨i=4∨i=5∨i=6∨i=7:=by omega
 rcases this with rfl|rfl|rfl|rfl|rfl|rfl|rfl|rfl<;>rfl
theorem eT(x y:V8)(i:Nat)(h:i<8):((Ty x y i).map Bp).toArray.setIfInBounds i (.int .u32 ((x.list.getD i 0+y.list.getD i 0).toNat:Int))=((Ty x y (i+1)).map Bp).toArray:=by
 have:i=0∨i=1∨i=2∨i=3∨i=4∨i=5∨i=6∨i=7:=by omega
 rcases this with rfl|rfl|rfl|rfl|rfl|rfl|rfl|rfl<;>rfl
theorem Xg(x:V8)(k:Nat)(ws:List UInt32)(v:V8)(hx:x=CW ws v k):
 ((#[Bp x.a,Bp x.a,Bp x.b,Bp x.c,Bp x.d,Bp x.e,Bp x.f,Bp x.g]:Array Value).setIfInBounds 0 (.int .u32 ((Gw.D5 x (DC.getD k 0) (ws.getD k 0)+gu x).toNat:Int))).setIfInBounds 4 (.int .u32 ((x.d+Gw.D5 x (DC.getD k 0) (ws.getD k 0)).toNat:Int))=v8c (CW ws v (k+1)):=by
 subst hx;rfl
theorem bI(bs:List UInt8):(DX bs).length=64:=BM bs 64
theorem iN(ws:List UInt32)(h:ws.length=64):((ws.map Bp).toArray).size=64:=by rw [uh,u7,h]
theorem iO(ws:List UInt32)(h:ws.length=64):Eh (Ea []).toArray 0 ((ws.map Bp).toArray).toList=(ws.map Bp).toArray:=
 WI (Ea []).toArray (ws.map Bp) (by rw [u7,h];rfl)
theorem lg:0+64≤((Ea []).toArray).size:=by rw [uh,Ch _ (uK _)];exact uG _
theorem ZO(v:V8):∀x∈(v8c v).toList,x.oneCell'=true:=by
 intro x hx;rw [gK]at hx;simp only [vD]at hx;obtain ⟨y,_,rfl⟩:=hx;rfl
theorem gP(l:List UInt32):∀x∈(l.map Bp).toArray.toList,x.oneCell'=true:=by
 intro x hx;simp only [vD]at hx;obtain ⟨y,_,rfl⟩:=hx;rfl
theorem lM(hp g o cap:Nat)(c:Array Value)(T:TypeId)(z:Nat×Nat)(bs:List UInt8)(hb:bs.length=64)(hc:Kj c o bs)(Th Tg:TypeId)(zg:Nat×Nat)(v:V8):
 CQ Tryz.prog 245 #[I5 hp,.slice (some ⟨g,o,none⟩) 64 cap] [[(hp,.cells (v8c v) Th (0,0))],[(g,.cells c T z)],[(1,.cells (DC.map Bp).toArray Tg zg)]]
  (fun r H'=>r= .tuple #[]∧H'=[[(hp,.cells (v8c (Kh v bs)) Th (0,0))],[(g,.cells c T z)],[(1,.cells (DC.map Bp).toArray Tg zg)]]):=by
 refine J5 func245 rfl ntmps245 rfl ?_;intro u R;obtain ⟨ws,hws⟩:∃ws,ws=DX bs:=⟨_,rfl⟩;have hw:ws.length=64:=by rw [hws];exact bI bs
 have hss:=Xj g o cap c T z bs hb hc;rw [←hws]at hss;have hbl:Kh v bs=lQ v (CW ws v 64):=by rw [hws];rfl
 clear hws;rw [hbl];refine Zb [0,1] ?_;refine Zq<|Zg<|Zm Y<|Xr [_] Y call281 Y rfl (hss) ?_;refine Ze (Lf zeroValue339 (cs:=(Ea []).toArray) (by kernel_rfl)) ?_;rintro _ _ ⟨bw,rfl,rfl⟩;refine Xe (BQ sizeOf339 Y Y (by exact gP _) Wu (by exact iO ws hw) (by exact iN ws hw) (by exact lg) (by exact BS _)) ?_;refine Z0<|Zx<|Zq<|Zg<|Zm Y<|Zp Y rfl<|Zo Wh (AZ (cs:=v8c v) isAgg298 sizeOf298 Y Wn (by rfl)) ?_;refine Ze (Al zeroValue298 #[_,_,_,_,_,_,_,_]) ?_;rintro _ _ ⟨bv,rfl,rfl⟩;refine Xe (BQ sizeOf298 Y Y (by exact ZO v) Wu (by exact (rfl:_=v8c (CW ws v 0))) (by first|rfl|(simp;done)) Wn (by exact BS _)) ?_;refine Z0<|Zx<|Zq<|Zq<|Zg<|Zo Wh (AZ (cs:=(DC.map Bp).toArray) isAgg339 sizeOf339 Y (by first|omega|exact uG _) (by exact IG _ _ rfl)) ?_;refine Zm Y<|Z0<|Zx<|AR<|Zb [19,0,4,5,18] ?_;refine BB (e0:=[(19,_)]) (fun m e H=>∃k:Nat,m=64 -k∧(k≤64)∧e=[(19,I4 (k:Int))]∧H=[[(bv,.cells (v8c (CW ws v k)) 298 (0,0))]]) (by exact ⟨0,rfl,uK _,rfl,rfl⟩) Wp ?_;rintro _ _ _ ⟨k,rfl,hk,rfl,rfl⟩;obtain ⟨x,hx⟩:∃x,x=CW ws v k:=⟨_,rfl⟩;rw [←hx];refine Zq<|Zg<|Zv (Av (n:=64) Y Y)<|Z0<|Zx<|Zq ?_;refine Aq Y (fun hc1=>?_) (fun hc1=>?_)
 ·
  refine AB<|Zx<|Zq<|AR<|Zq<|Zg<|Zm Y<|Zv (PK underlying339 isAgg227 sizeOf227 Y Y (by first|omega|exact uG _) (by exact rT k (by omega))) ?_;refine Za Y<|Za Y<|Z0<|Zx<|Zq<|BK (n:=6) (0::1::0::4::3::31::[]) 0 (by kernel_rfl) (by kernel_rfl) rfl ?_;refine Zi 1 0 rfl (BH (j:=0) underlying298 sizeOf227 Y Y (by omega)) ?_;refine Zj 3 1 rfl isAgg227 Y ?_;refine Zi 7 2 rfl (BH (j:=4) underlying298 sizeOf227 Y Y (by omega)) ?_;refine Zj 15 3 rfl isAgg227 Y ?_;refine Zi 31 4 rfl (Au Y)<|Zi 63 5 rfl (Au Y)<|Ao ?_;refine Zx<|Zq<|BK (n:=24) (0::1::0::0::12::31::0::0::128::448::0::1024::0::4096::15360::32704::65535::0::262143::0::524288::1572864::4194303::8388607::[]) 24 (by kernel_rfl) (by kernel_rfl) rfl ?_;refine Zi 1 0 rfl (BH (j:=7) underlying298 sizeOf227 Y Y (by omega)) ?_;refine Zj 3 1 rfl isAgg227 Y ?_;refine Zi 7 2 rfl (AL Y)<|Zi 71 6 rfl (AL Y) ?_;refine Zi 199 7 rfl (BH (j:=5) underlying298 sizeOf227 Y Y (by omega)) ?_;refine Zj 455 8 rfl isAgg227 Y ?_;refine Zi 967 9 rfl (FH Y Y)<|Zi 1991 10 rfl (AL Y)<|Zi 4039 11 rfl (Td Y) ?_;refine Zi 8135 12 rfl (BH (j:=6) underlying298 sizeOf227 Y Y (by omega)) ?_;refine Zj 16327 13 rfl isAgg227 Y ?_;refine Zi 32711 14 rfl (FH Y Y)<|Zi 65479 15 rfl (Ct Y Y)<|Zi 196551 17 rfl (AL Y)<|Zi 720839 19 rfl (AL Y) ?_;refine Zi 1769415 20 rfl (BH underlying339 sizeOf227 Y Y (by omega)) ?_;refine Zj 3866567 21 rfl isAgg227 Y (hv:=by exact Pk Bp ws k 0 (by omega)) ?_;refine Yz 3 0 3866575 [21,13,8,1] [true,true,true,true] [(21,(_,_)),(13,(_,_)),(8,(_,_)),(1,(_,_))] rfl Y rfl rfl rfl rfl (Af (vs:=[_,_,_]) (cs:=[_,_,_]) underlying210 sizeOf3 zeroValue3 Y rfl rfl rfl rfl rfl) ?_;rintro _ _ ⟨b3,rfl,rfl⟩;refine ⟨Zk (Zk (Zk (Zk (Ad)))),?_⟩;refine Yz 4 12 3866591 [21,13,8,1] [true,true,true,true] [(21,(_,_)),(13,(_,_)),(8,(_,_)),(1,(_,_))] rfl Y rfl rfl rfl rfl (Zu [_,_] Y call282 Y rfl (I9 _ [6,11,25] _ _ _ _ (by decide) (by decide))) ?_;rintro _ _ ⟨rfl,rfl⟩;refine ⟨Zk (Zk (Zk (Zk (Ad)))),?_⟩
  refine Zi 3866623 5 rfl (CR Y Y)<|Zi 3932159 16 rfl (CR Y Y)<|Zi 4194303 18 rfl (CR Y Y)<|Zi 8388607 22 rfl (CR Y Y)<|Zi 16777215 23 rfl (Au Y)<|Ao ?_;refine Zn [0,4,5,8,10,18,19] ?_;refine Zx<|Zq<|BK (n:=20) (0::0::3::0::0::16::56::0::0::256::896::2040::0::4096::0::16384::61440::131064::262143::524287::[]) 6 (by kernel_rfl) (by kernel_rfl) rfl ?_;refine Zi 1 0 rfl (AL Y)<|Zi 9 3 rfl (AL Y) ?_;refine Zi 25 4 rfl (BH (j:=1) underlying298 sizeOf227 Y Y (by omega)) ?_;refine Zj 57 5 rfl isAgg227 Y ?_;refine Zi 121 6 rfl (FH Y Y)<|Zi 249 7 rfl (AL Y) ?_;refine Zi 505 8 rfl (BH (j:=2) underlying298 sizeOf227 Y Y (by omega)) ?_;refine Zj 1017 9 rfl isAgg227 Y ?_;refine Zi 2041 10 rfl (FH Y Y)<|Zi 4089 11 rfl (Ct Y Y) ?_;refine Zi 8185 12 rfl (BH (j:=1) underlying298 sizeOf227 Y Y (by omega)) ?_;refine Zj 16377 13 rfl isAgg227 Y ?_;refine Zi 32761 14 rfl (BH (j:=2) underlying298 sizeOf227 Y Y (by omega)) ?_;refine Zj 65529 15 rfl isAgg227 Y ?_;refine Zi 131065 16 rfl (FH Y Y)<|Zi 262137 17 rfl (Ct Y Y)<|Zz (l:=[1]) ?_;refine Zy 0 262139 [15,13,9,5] [true,true,true,true] [(15,(_,_)),(13,(_,_)),(9,(_,_)),(5,(_,_))] rfl Y rfl rfl rfl rfl (Af (vs:=[_,_,_]) (cs:=[_,_,_]) underlying210 sizeOf3 zeroValue3 Y rfl rfl rfl rfl rfl) ?hk_4 (fun _ _ h=>h.elim) ?hl_4
  case hk_4=>
   rintro _ _ ⟨b4,rfl,rfl⟩;refine ⟨Zk (Zk (Zk (Zk (Ad)))),?_⟩;refine Yz 2 3 262143 [15,13,9,5] [true,true,true,true] [(15,(_,_)),(13,(_,_)),(9,(_,_)),(5,(_,_))] rfl Y rfl rfl rfl rfl (Zu [_,_] Y call282 Y rfl (I9 _ [2,13,22] _ _ _ _ (by decide) (by decide))) ?_;rintro _ _ ⟨rfl,rfl⟩;refine ⟨Zk (Zk (Zk (Zk (Ad)))),?_⟩;refine Zi 524287 18 rfl (CR Y Y)<|Zi 1048575 19 rfl (Au Y)<|Ao ?_;refine Zn [0,4,5,10,11,18,19] ?_;refine Zx<|Zq<|BK (n:=3) (0::0::3::[]) 4 (by kernel_rfl) (by kernel_rfl) rfl ?_;refine Zi 1 0 rfl (OQ (l:=1) underlying298 sizeOf227 Y Y (by omega)) ?_;refine Zi 3 1 rfl (Ql (h:=7) underlying298 sizeOf227 Y Y (by omega)) ?_;refine Yw 2 7 rfl (pF (cs:=[_,_,_,_,_,_,_]) (c':=#[_,_,_,_,_,_,_,_]) underlying228 sizeOf227 Y Y Wh Wu (by rfl) (by rfl) (by rfl) (by exact uG 8) (BS _) (by simp [Value.oneCell',Bp])) ?_;rintro _ _ ⟨rfl,rfl⟩;refine Ao ?_;refine Zx<|Zg<|Zm Y<|Zm Y<|Zv (CR Y Y) ?_;refine BO (BH (j:=4) underlying298 sizeOf227 Y Y (by omega)) ?_;refine Zl isAgg227 Y ?_;refine Zm Y<|Zv (CR Y Y) ?_;refine BO (BH (j:=0) underlying298 sizeOf227 Y Y (by omega)) ?_;refine Xe (Zs sizeOf227 Y Y rfl) ?_;refine BO (BH (j:=4) underlying298 sizeOf227 Y Y (by omega)) ?_;refine Xe (Zs sizeOf227 Y Y rfl (hc:=by exact (Xg x k ws v hx))) ?_;refine Z0<|Zn [0,4,5,18,19] ?_;refine A8<|Zx<|Zg<|Ya (n:=1) Y Y<|Zm Y<|Z0<|Zn [19,0,4,5,18] ?_;refine Aa (e':=[(19,_)]) (by exact ⟨k+1,rfl,by omega,rfl,rfl⟩)
  exact Ap
 refine Aw<|Zt<|Zt<|AP<|Zx<|Zq<|Zg<|Zm Y<|Z0<|Zx<|AR ?_;have ek:k=64:=by omega
 subst ek;refine Zb [82,0,5] ?_;refine BB (e0:=[(82,_)]) (fun m e H=>∃i:Nat,m=8 -i∧(i≤8)∧e=[(82,I4 (i:Int))]∧H=[[(hp,.cells ((Ty v x i).map Bp).toArray Th (0,0))]]) (by exact ⟨0,rfl,uK _,rfl,rfl⟩) Wp ?_;rintro _ _ _ ⟨i,rfl,hi,rfl,rfl⟩;refine Zq<|Zg<|Zv (Av (n:=8) Y Y)<|Z0<|Zx<|Zq ?_;refine Aq Y (fun hc2=>?_) (fun hc2=>?_)
 ·
  refine AB<|Zx<|Zq<|AR<|Zq<|Zg<|Zm Y<|Za Y<|Z0<|Zx<|BK (n:=12) (0::0::1::7::15::0::32::96::255::1::1023::2047::[]) 2048 (by kernel_rfl) (by kernel_rfl) rfl ?_;refine Zi 1 0 rfl (AL Y)<|Zi 3 1 rfl (AL Y)<|Zi 7 2 rfl (EB Y rfl) ?_;refine Zi 15 3 rfl (BH underlying298 sizeOf227 Y Y (by first|omega|(rw [uh,u7,M3 _ _ _ (by omega)];omega))) ?_;refine Zj 31 4 rfl isAgg227 Y (hv:=by exact eU _ _ i (by omega)) ?_;refine Zi 63 5 rfl (AL Y) ?_;refine Zi 127 6 rfl (BH underlying298 sizeOf227 Y Y (by first|omega|(rw [uh,u7,M3 _ _ _ (by omega)];omega))) ?_;refine Zj 255 7 rfl isAgg227 Y (hv:=by exact gM _ i (by omega)) ?_;refine Zi 511 8 rfl (CR Y Y)<|Zi 1023 9 rfl (EB Y rfl) ?_;refine Zi 2047 10 rfl (BH underlying298 sizeOf227 Y Y (by first|omega|(rw [uh,u7,M3 _ _ _ (by omega)];omega))) ?_;refine Yw 11 4095 rfl (Zs sizeOf227 Y Y rfl (hc:=by exact eT _ _ i (by omega)) (hi:=by(rw [uh,u7,M3 _ _ _ (by omega)];omega))) ?_;rintro _ _ ⟨rfl,rfl⟩;refine Ao ?_;refine Zn [0,5,82] ?_;refine A8<|Zx<|Zg<|Ya (n:=1) Y Y<|Zm Y<|Z0<|Zn [82,0,5] ?_;refine Aa (e':=[(82,_)]) (by exact ⟨i+1,rfl,by omega,rfl,rfl⟩)
 have ei:i=8:=by omega
 subst ei;rw [←hx];refine Aw<|Zt<|Zt<|AP ?_;refine He rfl results245 (by exact ⟨rfl,rfl⟩)
end Go.Proofs.YtkdgffcfmgmemaaGreatDoor
