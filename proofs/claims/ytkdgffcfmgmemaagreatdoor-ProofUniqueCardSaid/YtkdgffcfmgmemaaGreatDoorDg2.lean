/- Contracts: bits.RotateLeft32 at the counts of the program, digest.mixed, digest.schedule. -/
/- Contracts: digest.add, digest.digest. -/
import Derived.Test.YtkdgffcfmgmemaaGreatDoorEz
import Derived.Test.YtkdgffcfmgmemaaGreatDoorEx4
import Derived.Test.YtkdgffcfmgmemaaGreatDoorEx5
import Derived.Test.YtkdgffcfmgmemaaGreatDoorSha
import Derived.Test.YtkdgffcfmgmemaaGreatDoorBits
import Derived.Test.YtkdgffcfmgmemaaGreatDoorProg
import Derived.Laws.Bits64
import Derived.WalkKit
set_option linter.unusedVariables false
set_option linter.unusedSimpArgs false
namespace Go.Proofs.YtkdgffcfmgmemaaGreatDoor
open Go.Proofs.Tryz
open Go Go.RowKit Gw
set_option maxRecDepth 100000
attribute [local irreducible] Gw.At Gw.Nx Gw.Ops
theorem Sc(x:UInt32)(n m:Nat)(h0:0<n)(h1:n<32)(hm:n+m=32):(x<<<UInt32.ofNat m)|||(x>>>UInt32.ofNat n)=IB x (UInt32.ofNat n):=by
 unfold IB;have:(32:UInt32) -UInt32.ofNat n=UInt32.ofNat m:=by
  apply UInt32.toNat_inj.1;rw [UInt32.toNat_sub,yN,yN];simp only [UInt32.reduceToNat];omega
 rw [this]
theorem lu(n m:Nat)(h0:0<n)(h1:n<32)(hm:n+m=32):bits .and .u64 (IntKind.u64.wrap (-(n:Int))) 31=(m:Int):=by
 have h:IntKind.u64.wrap (-(n:Int))=((18446744073709551616 -n:Nat):Int):=by rw [IntKind.wrap_u64];omega
 have h31:(31:Int)=((31:Nat):Int):=rfl;rw [h,h31,u64_and_nat _ _ (by omega) (by omega),nat_mask5];omega
theorem bF(x:UInt32)(n:Nat)(h0:0<n)(h1:n<32):Av Tryz.prog 302 #[.int .u32 x.toNat,I4 (-(n:Int))] [] (.int .u32 (IB x (UInt32.ofNat n)).toNat):=by
 refine Io func302 rfl ntmps302 rfl ?_;intro u R;obtain ⟨m,hm⟩:∃m,n+m=32:=⟨32 -n,by omega⟩;refine Zb [0,1] ?_;refine Zq<|Zg<|Za Y<|Z0<|Zx<|Zq<|Zg<|Zm Y<|JX (Ea underlying3 underlying231 Y rfl) rfl rfl ?_;refine JX (il Y Y (lu n m h0 h1 hm)) rfl rfl ?_;refine Za Y<|Z0<|Zx<|Zq<|Zg<|Zm Y<|Zm Y ?_;refine BM (G9 Y Y (by omega)) ?_;refine Zm Y<|Zm Y ?_
 (refine BM (Lv (m:=32) Y Y ?_ ?_) ?_;(focus (omega));(focus (omega)))
 refine BM (F6 Y Y (by omega)) ?_;refine Zv (Hl Y Y)<|Za Y<|Z0<|Zn [4] ?_;refine Zx<|A9 ?_;refine AB rfl results302 Y (by
  have e:32 -m=n:=by omega
  exact ⟨by rw [e,Sc x n m h0 h1 hm],rfl⟩)
theorem jG(x:UInt32)(l:List UInt32)(n:UInt32):OM x (l++[n])=OM x l^^^IB x n:=by simp [OM]
def qj(n:Nat):Value:=I4 (n:Int)
theorem LP{α β:Type}(f:α→β)(l:List α)(k:Nat)(d:α)(h:k<l.length):(l.take (k+1)).map f=(l.take k).map f++[f (l.getD k d)]:=by
 rw [xu h,uK];simp [uZ,tF h]
theorem PS{α:Type}(f:α→Value)(l:List α)(k:Nat)(d:α)(h:k<l.length):(l.map f).toArray[k]?=some (f (l.getD k d)):=by
 simp [tF h,uZ]
theorem Hr(x:UInt32)(l:List Nat)(g cap:Nat)(T:TypeId)(z:Nat×Nat)(hl:∀n∈l,0<n∧n<32)(hn:l.length≤100):
 Av Tryz.prog 282 #[.int .u32 x.toNat,I6 g l.length cap] [[(g,.cells (l.map qj).toArray T z)]] (.int .u32 (OM x (l.map UInt32.ofNat)).toNat):=by
 refine Se func282 ntmps282 [0,1] ?_;intro u R;refine Zq<|Zg<|Za Y<|Z0<|Zx<|Zq<|Zg<|Za Y<|Z0<|Zx<|Zq<|Zq<|Zg<|Zm Y<|Zv (AV underlying210 Y)<|Zm Y<|Z0<|Zx<|AQ<|Zb [5,10,0,8,9] ?_;refine Az (e0:=[(5,_),(10,_)]) (fun m e H=>∃k:Nat,m=l.length -k∧(k≤l.length)∧e=[(5,.int .u32 ((OM x ((l.take k).map UInt32.ofNat)).toNat:Int)),(10,I4 (k:Int))]∧H=[]) (by exact ⟨0,rfl,tX _,rfl,rfl⟩) Wp ?_;rintro _ _ _ ⟨k,rfl,hk,rfl,rfl⟩;refine Zq<|Zg<|Zv (Aq Y Y)<|Z0<|Zx<|Zq ?_;refine Ao Y (fun hc1=>?_) (fun hc1=>?_)
 ·
  refine AC<|Zx<|Zq<|AQ<|Zq<|Zg ?_;refine BM (BA underlying210 sizeOf3 Y Y (by omega)) ?_;refine Zl isAgg3 Y (hv:=by exact PS qj l k 0 (by omega)) ?_;refine Za Y<|Z0<|Zx ?_;have hlk:=hl (l.getD k 0) (by rw [uZ,tF (by omega)];exact zx _)
  refine Zg<|Zm Y<|Zm Y<|Zm Y<|JX (TJ (c:=-(l.getD k 0:Int)) Y (by rw [Int.zero_sub];exact IntWalk.i64_in _ (by omega))) rfl rfl ?_;refine Xr [_,_] Y call302 Y rfl (bF _ _ hlk.1 hlk.2) ?_;refine Zv (Cn Y Y)<|Za Y<|Z0<|A8<|Zx<|Zg<|Ya (n:=1) Y Y<|Zm Y<|Z0<|Zn [5,10,0,8,9] ?_;refine Ab (e':=[(5,_),(10,_)]) (by exact ⟨k+1,rfl,by omega,by rw [LP _ _ _ 0 (by omega),jG],rfl⟩)
 refine Ar<|Zt<|Zt<|AO<|Zx<|Zq<|Zg<|Zm Y<|Za Y<|Z0<|Zx<|A9 ?_;refine AB rfl results282 Y (by
  have e:k=l.length:=by omega
  exact ⟨by rw [e,uQ],rfl⟩)
def EU(l:List UInt32):List Value:=l.map Bj++List.replicate (64 -l.length) (.int .u32 0)
theorem CX(l:List UInt32)(h:l.length≤64):(EU l).length=64:=by simp [EU];omega
theorem XO(l:List UInt32)(i:Nat)(h:i<l.length):(EU l).toArray[i]?=some (Bj (l.getD i 0)):=by
 simp [EU,zD,h,uZ]
theorem XM(l:List UInt32)(x:UInt32)(h:l.length<64):(EU l).toArray.setIfInBounds l.length (Bj x)=(EU (l++[x])).toArray:=by
 rw [yI];congr 1;unfold EU;rw [yu _ _ (by simp)];simp only [tJ,xU,tK,tY,vG];obtain ⟨n,hn⟩:∃n,64 -l.length=n+1:=⟨63 -l.length,by omega⟩;rw [hn,show 64 -(l.length+(0+1))=n by omega];simp [List.replicate_succ]
theorem J9(b:List UInt8)(k:Nat)(x:UInt32)(h:k<64)(hx:Dj b (k+1)=Dj b k++[x]):(EU (Dj b k)).toArray.setIfInBounds k (.int .u32 (x.toNat:Int))=(EU (Dj b (k+1))).toArray:=by
 have:=XM (Dj b k) x (by rw [BL];exact h);rw [BL]at this;rw [hx];exact this
theorem XN(l:List UInt32):∀v∈(EU l).toArray.toList,v.oneCell'=true:=by
 intro v hv;simp only [EU,uF,uh,List.mem_replicate]at hv;rcases hv with⟨x,_,rfl⟩|⟨_,rfl⟩<;>rfl
theorem V5(l:List UInt32)(h:l.length=64):EU l=l.map Bj:=by simp [EU,h]
theorem Uz(b:List UInt8)(k:Nat)(h:k<16):Dj b (k+1)=Dj b k++[XG b k]:=by rw [Dj,if_pos h]
theorem Mi(b:List UInt8)(k:Nat)(h:16≤k):Dj b (k+1)=Dj b k++[Qh (Dj b k) k]:=by rw [Dj,if_neg (by omega)]
def KU(c:Array Value)(o:Nat)(bs:List UInt8):Prop:=(c.toList.drop o).take bs.length=bs.map u8v
theorem KU.get{c:Array Value}{o:Nat}{bs:List UInt8}(h:KU c o bs)(j:Nat)(hj:j<bs.length):c[o+j]?=some (u8v (bs.getD j 0)):=by
 have h1:((c.toList.drop o).take bs.length)[j]?=(bs.map u8v)[j]?:=by rw [h]
 rw [uX,if_pos hj,uw,uD,tF hj]at h1;rw [uO]at h1;rw [h1];simp [uZ,tF hj]
theorem Jy(b:List UInt8)(k i:Nat)(h:i<k):(EU (Dj b k)).toArray[i]?=some (Bj ((Dj b k).getD i 0)):=XO _ _ (by rw [BL];exact h)
theorem XU(g o cap:Nat)(c:Array Value)(T:TypeId)(z:Nat×Nat)(bs:List UInt8)(hb:bs.length=64)(hc:KU c o bs):
 Av Tryz.prog 281 #[.slice (some ⟨g,o,none⟩) 64 cap] [[(g,.cells c T z)]] (.agg ((DN bs).map Bj).toArray):=by
 refine Se func281 ntmps281 [0] ?_;intro u R;refine Zq<|Zg<|Ze (LK zeroValue339 (cs:=(EU []).toArray) (by kernel_rfl)) ?_;rintro _ _ ⟨bw,rfl,rfl⟩;refine Z0<|Zx<|Zq<|Zq<|Zg<|Zm Y<|Z0<|Zx<|AQ<|Zb [7,0,2] ?_;refine Az (e0:=[(7,_)]) (fun m e H=>∃k:Nat,m=16 -k∧(k≤16)∧e=[(7,I4 (k:Int))]∧H=[[(bw,.cells (EU (Dj bs k)).toArray 339 (0,0))]]) (by exact ⟨0,rfl,tX _,rfl,rfl⟩) Wp ?_;rintro _ _ _ ⟨k,rfl,hk,rfl,rfl⟩;refine Zq<|Zg<|Zv (Aq (n:=16) Y Y)<|Z0<|Zx<|Zq ?_;refine Ao Y (fun hc1=>?_) (fun hc1=>?_)
 ·
  refine AC<|Zx<|Zq<|AQ<|Zq<|Zg<|Zm Y<|Za Y<|Z0<|Zx<|BI (n:=36) (0::0::0::4::14::30::62::126::0::0::512::1536::3840::7936::16128::32512::65534::0::0::262144::786432::1966080::4063232::8257536::16646144::33554430::0::0::134217728::402653184::1006632960::2080374784::4227858432::8589934590::17179869183::34359738367::[]) 34359738368 (by kernel_rfl) (by kernel_rfl) rfl ?_;refine Zi 1 0 rfl (AJ Y)<|Zi 3 1 rfl (AJ Y)<|Zi 7 2 rfl (AJ Y) ?_;refine Zi 15 3 rfl (Cz (m:=4) Y Y (by omega)) ?_;refine Zi 31 4 rfl (BS underlying124 sizeOf5 Y Y (by first|omega|(rw [uP,CX _ (by rw [BL];omega)];omega))) ?_;refine Zj 63 5 rfl isAgg5 Y (hv:=by exact hc.get _ (by omega)) ?_;refine Zi 127 6 rfl (EE underlying5 underlying227 Y) ?_;refine Zi 255 7 rfl (G9 (n:=24) Y Y (by omega)) ?_;refine Zi 511 8 rfl (AJ Y)<|Zi 1023 9 rfl (AJ Y) ?_;refine Zi 2047 10 rfl (Cz (m:=4) Y Y (by omega)) ?_;refine Zi 4095 11 rfl (D6 (n:=1) Y Y (by omega)) ?_;refine Zi 8191 12 rfl (BS underlying124 sizeOf5 Y Y (by first|omega|(rw [uP,CX _ (by rw [BL];omega)];omega))) ?_;refine Zj 16383 13 rfl isAgg5 Y (hv:=by exact hc.get _ (by omega)) ?_;refine Zi 32767 14 rfl (EE underlying5 underlying227 Y) ?_;refine Zi 65535 15 rfl (G9 (n:=16) Y Y (by omega)) ?_;refine Zi 131071 16 rfl (Hl Y Y)<|Zi 262143 17 rfl (AJ Y)<|Zi 524287 18 rfl (AJ Y) ?_;refine Zi 1048575 19 rfl (Cz (m:=4) Y Y (by omega)) ?_;refine Zi 2097151 20 rfl (D6 (n:=2) Y Y (by omega)) ?_;refine Zi 4194303 21 rfl (BS underlying124 sizeOf5 Y Y (by first|omega|(rw [uP,CX _ (by rw [BL];omega)];omega))) ?_;refine Zj 8388607 22 rfl isAgg5 Y (hv:=by exact hc.get _ (by omega)) ?_;refine Zi 16777215 23 rfl (EE underlying5 underlying227 Y) ?_;refine Zi 33554431 24 rfl (G9 (n:=8) Y Y (by omega)) ?_;refine Zi 67108863 25 rfl (Hl Y Y)<|Zi 134217727 26 rfl (AJ Y)<|Zi 268435455 27 rfl (AJ Y) ?_;refine Zi 536870911 28 rfl (Cz (m:=4) Y Y (by omega)) ?_;refine Zi 1073741823 29 rfl (D6 (n:=3) Y Y (by omega)) ?_
  refine Zi 2147483647 30 rfl (BS underlying124 sizeOf5 Y Y (by first|omega|(rw [uP,CX _ (by rw [BL];omega)];omega))) ?_;refine Zj 4294967295 31 rfl isAgg5 Y (hv:=by exact hc.get _ (by omega)) ?_;refine Zi 8589934591 32 rfl (EE underlying5 underlying227 Y)<|Zi 17179869183 33 rfl (Hl Y Y) ?_;refine Zi 34359738367 34 rfl (BG underlying339 sizeOf227 Y Y (by first|omega|(rw [uP,CX _ (by rw [BL];omega)];omega))) ?_;refine Yw 35 68719476735 rfl (Zs sizeOf227 Y Y rfl (hc:=by exact J9 bs k (XG bs k) (by omega) (Uz bs k (by omega))) (hi:=by(rw [uP,CX _ (by rw [BL];omega)];omega))) ?_;rintro _ _ ⟨rfl,rfl⟩;refine Am ?_;refine Zn [0,2,7] ?_;refine A8<|Zx<|Zg<|Ya (n:=1) Y Y<|Zm Y<|Z0<|Zn [7,0,2] ?_;refine Ab (e':=[(7,_)]) (by exact ⟨k+1,rfl,by omega,rfl,rfl⟩)
 refine Ar<|Zt<|Zt<|AO<|Zx<|Zq<|Zq<|Zg<|Za Y<|Z0<|Zx<|AQ ?_;have hk16:k=16:=by omega
 subst hk16;refine Zb [4,2] ?_;refine Az (e0:=[(4,_)]) (fun m e H=>∃k:Nat,m=64 -k∧(16≤k∧k≤64)∧e=[(4,I4 (k:Int))]∧H=[[(bw,.cells (EU (Dj bs k)).toArray 339 (0,0))]]) (by exact ⟨16,rfl,by omega,rfl,rfl⟩) Wp ?_;rintro _ _ _ ⟨k,rfl,⟨hk0,hk⟩,rfl,rfl⟩;refine Zq<|Zq<|Zg<|Zm Y<|Zv (Aq (n:=64) Y Y)<|Z0<|Zx ?_;refine Ao Y (fun hc2=>?_) (fun hc2=>?_)
 ·
  refine AC<|Zx<|Zq<|AQ<|Zq<|BI (n:=10) (0::1::3::7::0::16::48::112::15::511::[]) 0 (by kernel_rfl) (by kernel_rfl) rfl ?_;refine Zi 1 0 rfl (AJ Y) ?_
  (refine EF (D':=3) 1 (Bg (n:=15) Y Y ?_ ?_) ?_;(focus (omega));(focus (omega)))
  refine Zi 7 2 rfl (BG underlying339 sizeOf227 Y Y (by omega)) ?_;refine Zj 15 3 rfl isAgg227 Y (hv:=by exact Jy bs k _ (by omega)) ?_;refine Zi 31 4 rfl (AJ Y) ?_
  (refine EF (D':=63) 5 (Bg (n:=2) Y Y ?_ ?_) ?_;(focus (omega));(focus (omega)))
  refine Zi 127 6 rfl (BG underlying339 sizeOf227 Y Y (by omega)) ?_;refine Zj 255 7 rfl isAgg227 Y (hv:=by exact Jy bs k _ (by omega)) ?_;refine Zi 511 8 rfl (Ay Y)<|Zi 1023 9 rfl (Ay Y)<|Am ?_;refine Zx<|BI (n:=26) (0::0::2::6::14::0::0::96::0::256::992::2046::0::4096::12288::28672::65534::0::0::393440::0::1048576::4063456::8388606::16777215::33554431::[]) 34341056 (by kernel_rfl) (by kernel_rfl) rfl ?_;refine Zi 1 0 rfl (AJ Y)<|Zi 3 1 rfl (AJ Y) ?_
  (refine EF (D':=7) 2 (Bg (n:=16) Y Y ?_ ?_) ?_;(focus (omega));(focus (omega)))
  refine Zi 15 3 rfl (BG underlying339 sizeOf227 Y Y (by first|omega|(rw [uP,CX _ (by rw [BL];omega)];omega))) ?_;refine Zj 31 4 rfl isAgg227 Y (hv:=by exact Jy bs k _ (by omega)) ?_;refine Zi 63 5 rfl (AJ Y)<|Zi 319 8 rfl (AJ Y) ?_;refine Zi 831 9 rfl (F6 (n:=3) Y Y (by omega)) ?_;refine Zi 4927 12 rfl (AJ Y) ?_
  (refine EF (D':=13119) 13 (Bg (n:=7) Y Y ?_ ?_) ?_;(focus (omega));(focus (omega)))
  refine Zi 29503 14 rfl (BG underlying339 sizeOf227 Y Y (by first|omega|(rw [uP,CX _ (by rw [BL];omega)];omega))) ?_;refine Zj 62271 15 rfl isAgg227 Y (hv:=by exact Jy bs k _ (by omega)) ?_;refine Zi 193343 17 rfl (AJ Y)<|Zi 1241919 20 rfl (AJ Y) ?_;refine Zi 3339071 21 rfl (F6 (n:=10) Y Y (by omega)) ?_;refine Zz (l:=[6,18]) ?_;refine Zy 0 3339135 [15,4] [true,true] [(15,(_,_)),(4,(_,_))] rfl Y rfl rfl rfl rfl (Ae (vs:=[_,_]) (cs:=[_,_]) underlying210 sizeOf3 zeroValue3 Y rfl rfl rfl rfl rfl) ?hk_5 (fun _ _ h=>h.elim) ?hl_5
  case hk_5=>
   rintro _ _ ⟨b2,rfl,rfl⟩;refine ⟨Zk (Zk (Ad)),?_⟩;refine Zz (l:=[7,18]) ?_;refine Zy 96 3339263 [15,4] [true,true] [(15,(_,_)),(4,(_,_))] rfl Y rfl rfl rfl rfl (Zu [_,_] Y call282 Y rfl (Hr _ [7,18] _ _ _ _ (by decide) (by decide))) ?hk_6 (fun _ _ h=>h.elim) ?hl_6
   case hk_6=>
    rintro _ _ ⟨rfl,rfl⟩;refine ⟨Zk (Zk (Ad)),?_⟩;refine Zi 3340287 10 rfl (Cn Y Y)<|Zi 3342335 11 rfl (CK Y Y)<|Zi 3407871 16 rfl (CK Y Y)<|Zz (l:=[18]) ?_;refine Zy 0 3670015 [15,4] [true,true] [(15,(_,_)),(4,(_,_))] rfl Y rfl rfl rfl rfl (Ae (vs:=[_,_]) (cs:=[_,_]) underlying210 sizeOf3 zeroValue3 Y rfl rfl rfl rfl rfl) ?hk_7 (fun _ _ h=>h.elim) ?hl_7
    case hk_7=>
     rintro _ _ ⟨b3,rfl,rfl⟩;refine ⟨Zk (Zk (Ad)),?_⟩;refine Yz 19 393440 4194303 [15,4] [true,true] [(15,(_,_)),(4,(_,_))] rfl Y rfl rfl rfl rfl (Zu [_,_] Y call282 Y rfl (Hr _ [17,19] _ _ _ _ (by decide) (by decide))) ?_;rintro _ _ ⟨rfl,rfl⟩;refine ⟨Zk (Zk (Ad)),?_⟩;refine Zi 8388607 22 rfl (Cn Y Y)<|Zi 16777215 23 rfl (CK Y Y) ?_;refine Zi 33554431 24 rfl (BG underlying339 sizeOf227 Y Y (by first|omega|(rw [uP,CX _ (by rw [BL];omega)];omega))) ?_;refine Yw 25 67108863 rfl (Zs sizeOf227 Y Y rfl (hc:=by exact J9 bs k (Qh (Dj bs k) k) (by omega) (Mi bs k (by omega))) (hi:=by(rw [uP,CX _ (by rw [BL];omega)];omega))) ?_;rintro _ _ ⟨rfl,rfl⟩;refine Am ?_;refine Zn [2,4] ?_;refine A8<|Zx<|Zg<|Zm Y<|Ya (n:=1) Y Y<|Za Y<|Z0<|Zn [4,2] ?_;refine Ab (e':=[(4,_)]) (by exact ⟨k+1,rfl,by omega,rfl,rfl⟩)
    exact Aw
   refine Zy 0 3601279 [15,4] [true,true] [(15,(_,_)),(4,(_,_))] rfl Y rfl rfl rfl rfl (Ae (vs:=[_,_]) (cs:=[_,_]) underlying210 sizeOf3 zeroValue3 Y rfl rfl rfl rfl rfl) ?hk_11 (fun _ _ h=>h.elim) ?hl_11
   case hk_11=>
    rintro _ _ ⟨b4,rfl,rfl⟩;refine ⟨Zk (Zk (Ad)),?_⟩;refine Yz 7 96 3601407 [15,4] [true,true] [(15,(_,_)),(4,(_,_))] rfl Y rfl rfl rfl rfl (Zu [_,_] Y call282 Y rfl (Hr _ [7,18] _ _ _ _ (by decide) (by decide))) ?_;rintro _ _ ⟨rfl,rfl⟩;refine ⟨Zk (Zk (Ad)),?_⟩;refine Zi 3602431 10 rfl (Cn Y Y)<|Zi 3604479 11 rfl (CK Y Y)<|Zi 3670015 16 rfl (CK Y Y)<|Zz (l:=[19]) ?_;refine Zy 393440 4194303 [15,4] [true,true] [(15,(_,_)),(4,(_,_))] rfl Y rfl rfl rfl rfl (Zu [_,_] Y call282 Y rfl (Hr _ [17,19] _ _ _ _ (by decide) (by decide))) ?hk_13 (fun _ _ h=>h.elim) ?hl_13
    case hk_13=>
     rintro _ _ ⟨rfl,rfl⟩;refine ⟨Zk (Zk (Ad)),?_⟩;refine Zi 8388607 22 rfl (Cn Y Y)<|Zi 16777215 23 rfl (CK Y Y) ?_;refine Zi 33554431 24 rfl (BG underlying339 sizeOf227 Y Y (by first|omega|(rw [uP,CX _ (by rw [BL];omega)];omega))) ?_;refine Yw 25 67108863 rfl (Zs sizeOf227 Y Y rfl (hc:=by exact J9 bs k (Qh (Dj bs k) k) (by omega) (Mi bs k (by omega))) (hi:=by(rw [uP,CX _ (by rw [BL];omega)];omega))) ?_;rintro _ _ ⟨rfl,rfl⟩;refine Am ?_;refine Zn [2,4] ?_;refine A8<|Zx<|Zg<|Zm Y<|Ya (n:=1) Y Y<|Za Y<|Z0<|Zn [4,2] ?_;refine Ab (e':=[(4,_)]) (by exact ⟨k+1,rfl,by omega,rfl,rfl⟩)
    exact Aw
   exact Aw
  refine Zy 0 3601215 [15,4] [true,true] [(15,(_,_)),(4,(_,_))] rfl Y rfl rfl rfl rfl (Ae (vs:=[_,_]) (cs:=[_,_]) underlying210 sizeOf3 zeroValue3 Y rfl rfl rfl rfl rfl) ?hk_16 (fun _ _ h=>h.elim) ?hl_16
  case hk_16=>
   rintro _ _ ⟨b5,rfl,rfl⟩;refine ⟨Zk (Zk (Ad)),?_⟩;refine Yz 6 0 3601279 [15,4] [true,true] [(15,(_,_)),(4,(_,_))] rfl Y rfl rfl rfl rfl (Ae (vs:=[_,_]) (cs:=[_,_]) underlying210 sizeOf3 zeroValue3 Y rfl rfl rfl rfl rfl) ?_;rintro _ _ ⟨b6,rfl,rfl⟩;refine ⟨Zk (Zk (Ad)),?_⟩;refine Yz 7 96 3601407 [15,4] [true,true] [(15,(_,_)),(4,(_,_))] rfl Y rfl rfl rfl rfl (Zu [_,_] Y call282 Y rfl (Hr _ [7,18] _ _ _ _ (by decide) (by decide))) ?_;rintro _ _ ⟨rfl,rfl⟩;refine ⟨Zk (Zk (Ad)),?_⟩;refine Zi 3602431 10 rfl (Cn Y Y)<|Zi 3604479 11 rfl (CK Y Y)<|Zi 3670015 16 rfl (CK Y Y)<|Zz (l:=[19]) ?_;refine Zy 393440 4194303 [15,4] [true,true] [(15,(_,_)),(4,(_,_))] rfl Y rfl rfl rfl rfl (Zu [_,_] Y call282 Y rfl (Hr _ [17,19] _ _ _ _ (by decide) (by decide))) ?hk_19 (fun _ _ h=>h.elim) ?hl_19
   case hk_19=>
    rintro _ _ ⟨rfl,rfl⟩;refine ⟨Zk (Zk (Ad)),?_⟩;refine Zi 8388607 22 rfl (Cn Y Y)<|Zi 16777215 23 rfl (CK Y Y) ?_;refine Zi 33554431 24 rfl (BG underlying339 sizeOf227 Y Y (by first|omega|(rw [uP,CX _ (by rw [BL];omega)];omega))) ?_;refine Yw 25 67108863 rfl (Zs sizeOf227 Y Y rfl (hc:=by exact J9 bs k (Qh (Dj bs k) k) (by omega) (Mi bs k (by omega))) (hi:=by(rw [uP,CX _ (by rw [BL];omega)];omega))) ?_;rintro _ _ ⟨rfl,rfl⟩;refine Am ?_;refine Zn [2,4] ?_;refine A8<|Zx<|Zg<|Zm Y<|Ya (n:=1) Y Y<|Za Y<|Z0<|Zn [4,2] ?_;refine Ab (e':=[(4,_)]) (by exact ⟨k+1,rfl,by omega,rfl,rfl⟩)
   exact Aw
  exact Aw
 refine Ar<|Zt<|Zt<|AO<|Zx<|Zq<|Zg<|Zo Wh (AX isAgg339 sizeOf339 Y (by(rw [uP,CX _ (by rw [BL];omega)];omega)) (by exact I1 _ _ (by rw [uP,CX _ (by rw [BL];omega)]))) ?_;refine Xe (BN sizeOf339 Y Y (by exact XN _) Wu (by exact iw _) (by rw [uP,CX _ (by rw [BL];omega)]) (by(rw [uP,CX _ (by rw [BL];omega)];omega)) (by exact BQ _)) ?_;refine Z0<|Zx<|A9 ?_;refine D7 rfl results281 Y Wh (Ah isAgg339 sizeOf339 (by(rw [uP,CX _ (by rw [BL];omega)];omega)) (I1 _ _ (by rw [uP,CX _ (by rw [BL];omega)]))) (by
  have e:k=64:=by omega
  exact ⟨by rw [e,V5 _ (BL _ _)];rfl,rfl⟩)
def v8c(v:V8):Array Value:=#[Bj v.a,Bj v.b,Bj v.c,Bj v.d,Bj v.e,Bj v.f,Bj v.g,Bj v.h]
theorem fo(v:V8):v8c v=(v.list.map Bj).toArray:=rfl
theorem qm(k:Nat)(h:k<64):(Cs.map Bj).toArray[k*1]?=some (Bj (Cs.getD k 0)):=by rw [wP];exact PS Bj Cs k 0 (by rw [WG];exact h)
def TZ(x y:V8)(i:Nat):List UInt32:=(ky x y).list.take i++x.list.drop i
theorem Lg(x y:V8)(i:Nat)(h:i≤8):(TZ x y i).length=8:=by
 have:(ky x y).list.length=8:=rfl;have h2:x.list.length=8:=rfl
 simp [TZ,this,h2];omega
theorem dx(x y:V8)(i:Nat)(h:i<8):((TZ x y i).map Bj).toArray[i]?=some (Bj (x.list.getD i 0)):=by
 have:i=0∨i=1∨i=2∨i=3∨i=4∨i=5∨i=6∨i=7:=by omega
 rcases this with rfl|rfl|rfl|rfl|rfl|rfl|rfl|rfl<;>rfl
theorem fu(y:V8)(i:Nat)(h:i<8):(v8c y)[i]?=some (Bj (y.list.getD i 0)):=by
 have:i=0∨i=1∨i=2∨i=3∨i=4∨i=5∨i=6∨i=7:=by omega
 rcases this with rfl|rfl|rfl|rfl|rfl|rfl|rfl|rfl<;>rfl
theorem dw(x y:V8)(i:Nat)(h:i<8):((TZ x y i).map Bj).toArray.setIfInBounds i (.int .u32 ((x.list.getD i 0+y.list.getD i 0).toNat:Int))=((TZ x y (i+1)).map Bj).toArray:=by
 have:i=0∨i=1∨i=2∨i=3∨i=4∨i=5∨i=6∨i=7:=by omega
 rcases this with rfl|rfl|rfl|rfl|rfl|rfl|rfl|rfl<;>rfl
theorem XR(x:V8)(k:Nat)(ws:List UInt32)(v:V8)(hx:x=CQ ws v k):
 ((#[Bj x.a,Bj x.a,Bj x.b,Bj x.c,Bj x.d,Bj x.e,Bj x.f,Bj x.g]:Array Value).setIfInBounds 0 (.int .u32 ((Gw.Cu x (Cs.getD k 0) (ws.getD k 0)+gN x).toNat:Int))).setIfInBounds 4 (.int .u32 ((x.d+Gw.Cu x (Cs.getD k 0) (ws.getD k 0)).toNat:Int))=v8c (CQ ws v (k+1)):=by
 subst hx;rfl
theorem au(bs:List UInt8):(DN bs).length=64:=BL bs 64
theorem iD(ws:List UInt32)(h:ws.length=64):((ws.map Bj).toArray).size=64:=by rw [uP,tJ,h]
theorem iE(ws:List UInt32)(h:ws.length=64):Ed (EU []).toArray 0 ((ws.map Bj).toArray).toList=(ws.map Bj).toArray:=
 Vr (EU []).toArray (ws.map Bj) (by rw [tJ,h];rfl)
theorem lK:0+64≤((EU []).toArray).size:=by rw [uP,CX _ (tX _)];exact tQ _
theorem Z8(v:V8):∀x∈(v8c v).toList,x.oneCell'=true:=by
 intro x hx;rw [fo]at hx;simp only [uh]at hx;obtain ⟨y,_,rfl⟩:=hx;rfl
theorem gD(l:List UInt32):∀x∈(l.map Bj).toArray.toList,x.oneCell'=true:=by
 intro x hx;simp only [uh]at hx;obtain ⟨y,_,rfl⟩:=hx;rfl
theorem ku(hp g o cap:Nat)(c:Array Value)(T:TypeId)(z:Nat×Nat)(bs:List UInt8)(hb:bs.length=64)(hc:KU c o bs)(Th Tg:TypeId)(zg:Nat×Nat)(v:V8):
 CO Tryz.prog 245 #[I5 hp,.slice (some ⟨g,o,none⟩) 64 cap] [[(hp,.cells (v8c v) Th (0,0))],[(g,.cells c T z)],[(1,.cells (Cs.map Bj).toArray Tg zg)]]
  (fun r H'=>r= .tuple #[]∧H'=[[(hp,.cells (v8c (KS v bs)) Th (0,0))],[(g,.cells c T z)],[(1,.cells (Cs.map Bj).toArray Tg zg)]]):=by
 refine Io func245 rfl ntmps245 rfl ?_;intro u R;obtain ⟨ws,hws⟩:∃ws,ws=DN bs:=⟨_,rfl⟩;have hw:ws.length=64:=by rw [hws];exact au bs
 have hss:=XU g o cap c T z bs hb hc;rw [←hws]at hss;have hbl:KS v bs=ky v (CQ ws v 64):=by rw [hws];rfl
 clear hws;rw [hbl];refine Zb [0,1] ?_;refine Zq<|Zg<|Zm Y<|Xr [_] Y call281 Y rfl (hss) ?_;refine Ze (LK zeroValue339 (cs:=(EU []).toArray) (by kernel_rfl)) ?_;rintro _ _ ⟨bw,rfl,rfl⟩;refine Xe (BN sizeOf339 Y Y (by exact gD _) Wu (by exact iE ws hw) (by exact iD ws hw) (by exact lK) (by exact BQ _)) ?_;refine Z0<|Zx<|Zq<|Zg<|Zm Y<|Zp Y rfl<|Zo Wh (AX (cs:=v8c v) isAgg298 sizeOf298 Y Wn (by rfl)) ?_;refine Ze (Al zeroValue298 #[_,_,_,_,_,_,_,_]) ?_;rintro _ _ ⟨bv,rfl,rfl⟩;refine Xe (BN sizeOf298 Y Y (by exact Z8 v) Wu (by exact (rfl:_=v8c (CQ ws v 0))) (by first|rfl|(simp;done)) Wn (by exact BQ _)) ?_;refine Z0<|Zx<|Zq<|Zq<|Zg<|Zo Wh (AX (cs:=(Cs.map Bj).toArray) isAgg339 sizeOf339 Y (by first|omega|exact tQ _) (by exact I1 _ _ rfl)) ?_;refine Zm Y<|Z0<|Zx<|AQ<|Zb [19,0,4,5,18] ?_;refine Az (e0:=[(19,_)]) (fun m e H=>∃k:Nat,m=64 -k∧(k≤64)∧e=[(19,I4 (k:Int))]∧H=[[(bv,.cells (v8c (CQ ws v k)) 298 (0,0))]]) (by exact ⟨0,rfl,tX _,rfl,rfl⟩) Wp ?_;rintro _ _ _ ⟨k,rfl,hk,rfl,rfl⟩;obtain ⟨x,hx⟩:∃x,x=CQ ws v k:=⟨_,rfl⟩;rw [←hx];refine Zq<|Zg<|Zv (Aq (n:=64) Y Y)<|Z0<|Zx<|Zq ?_;refine Ao Y (fun hc1=>?_) (fun hc1=>?_)
 ·
  refine AC<|Zx<|Zq<|AQ<|Zq<|Zg<|Zm Y<|Zv (Oq underlying339 isAgg227 sizeOf227 Y Y (by first|omega|exact tQ _) (by exact qm k (by omega))) ?_;refine Za Y<|Za Y<|Z0<|Zx<|Zq<|BI (n:=6) (0::1::0::4::3::31::[]) 0 (by kernel_rfl) (by kernel_rfl) rfl ?_;refine Zi 1 0 rfl (BG (j:=0) underlying298 sizeOf227 Y Y (by omega)) ?_;refine Zj 3 1 rfl isAgg227 Y ?_;refine Zi 7 2 rfl (BG (j:=4) underlying298 sizeOf227 Y Y (by omega)) ?_;refine Zj 15 3 rfl isAgg227 Y ?_;refine Zi 31 4 rfl (Ay Y)<|Zi 63 5 rfl (Ay Y)<|Am ?_;refine Zx<|Zq<|BI (n:=24) (0::1::0::0::12::31::0::0::128::448::0::1024::0::4096::15360::32704::65535::0::262143::0::524288::1572864::4194303::8388607::[]) 24 (by kernel_rfl) (by kernel_rfl) rfl ?_;refine Zi 1 0 rfl (BG (j:=7) underlying298 sizeOf227 Y Y (by omega)) ?_;refine Zj 3 1 rfl isAgg227 Y ?_;refine Zi 7 2 rfl (AJ Y)<|Zi 71 6 rfl (AJ Y) ?_;refine Zi 199 7 rfl (BG (j:=5) underlying298 sizeOf227 Y Y (by omega)) ?_;refine Zj 455 8 rfl isAgg227 Y ?_;refine Zi 967 9 rfl (F8 Y Y)<|Zi 1991 10 rfl (AJ Y)<|Zi 4039 11 rfl (TK Y) ?_;refine Zi 8135 12 rfl (BG (j:=6) underlying298 sizeOf227 Y Y (by omega)) ?_;refine Zj 16327 13 rfl isAgg227 Y ?_;refine Zi 32711 14 rfl (F8 Y Y)<|Zi 65479 15 rfl (Cn Y Y)<|Zi 196551 17 rfl (AJ Y)<|Zi 720839 19 rfl (AJ Y) ?_;refine Zi 1769415 20 rfl (BG underlying339 sizeOf227 Y Y (by omega)) ?_;refine Zj 3866567 21 rfl isAgg227 Y (hv:=by exact PS Bj ws k 0 (by omega)) ?_;refine Yz 3 0 3866575 [21,13,8,1] [true,true,true,true] [(21,(_,_)),(13,(_,_)),(8,(_,_)),(1,(_,_))] rfl Y rfl rfl rfl rfl (Ae (vs:=[_,_,_]) (cs:=[_,_,_]) underlying210 sizeOf3 zeroValue3 Y rfl rfl rfl rfl rfl) ?_;rintro _ _ ⟨b3,rfl,rfl⟩;refine ⟨Zk (Zk (Zk (Zk (Ad)))),?_⟩;refine Yz 4 12 3866591 [21,13,8,1] [true,true,true,true] [(21,(_,_)),(13,(_,_)),(8,(_,_)),(1,(_,_))] rfl Y rfl rfl rfl rfl (Zu [_,_] Y call282 Y rfl (Hr _ [6,11,25] _ _ _ _ (by decide) (by decide))) ?_;rintro _ _ ⟨rfl,rfl⟩;refine ⟨Zk (Zk (Zk (Zk (Ad)))),?_⟩
  refine Zi 3866623 5 rfl (CK Y Y)<|Zi 3932159 16 rfl (CK Y Y)<|Zi 4194303 18 rfl (CK Y Y)<|Zi 8388607 22 rfl (CK Y Y)<|Zi 16777215 23 rfl (Ay Y)<|Am ?_;refine Zn [0,4,5,8,10,18,19] ?_;refine Zx<|Zq<|BI (n:=20) (0::0::3::0::0::16::56::0::0::256::896::2040::0::4096::0::16384::61440::131064::262143::524287::[]) 6 (by kernel_rfl) (by kernel_rfl) rfl ?_;refine Zi 1 0 rfl (AJ Y)<|Zi 9 3 rfl (AJ Y) ?_;refine Zi 25 4 rfl (BG (j:=1) underlying298 sizeOf227 Y Y (by omega)) ?_;refine Zj 57 5 rfl isAgg227 Y ?_;refine Zi 121 6 rfl (F8 Y Y)<|Zi 249 7 rfl (AJ Y) ?_;refine Zi 505 8 rfl (BG (j:=2) underlying298 sizeOf227 Y Y (by omega)) ?_;refine Zj 1017 9 rfl isAgg227 Y ?_;refine Zi 2041 10 rfl (F8 Y Y)<|Zi 4089 11 rfl (Cn Y Y) ?_;refine Zi 8185 12 rfl (BG (j:=1) underlying298 sizeOf227 Y Y (by omega)) ?_;refine Zj 16377 13 rfl isAgg227 Y ?_;refine Zi 32761 14 rfl (BG (j:=2) underlying298 sizeOf227 Y Y (by omega)) ?_;refine Zj 65529 15 rfl isAgg227 Y ?_;refine Zi 131065 16 rfl (F8 Y Y)<|Zi 262137 17 rfl (Cn Y Y)<|Zz (l:=[1]) ?_;refine Zy 0 262139 [15,13,9,5] [true,true,true,true] [(15,(_,_)),(13,(_,_)),(9,(_,_)),(5,(_,_))] rfl Y rfl rfl rfl rfl (Ae (vs:=[_,_,_]) (cs:=[_,_,_]) underlying210 sizeOf3 zeroValue3 Y rfl rfl rfl rfl rfl) ?hk_4 (fun _ _ h=>h.elim) ?hl_4
  case hk_4=>
   rintro _ _ ⟨b4,rfl,rfl⟩;refine ⟨Zk (Zk (Zk (Zk (Ad)))),?_⟩;refine Yz 2 3 262143 [15,13,9,5] [true,true,true,true] [(15,(_,_)),(13,(_,_)),(9,(_,_)),(5,(_,_))] rfl Y rfl rfl rfl rfl (Zu [_,_] Y call282 Y rfl (Hr _ [2,13,22] _ _ _ _ (by decide) (by decide))) ?_;rintro _ _ ⟨rfl,rfl⟩;refine ⟨Zk (Zk (Zk (Zk (Ad)))),?_⟩;refine Zi 524287 18 rfl (CK Y Y)<|Zi 1048575 19 rfl (Ay Y)<|Am ?_;refine Zn [0,4,5,10,11,18,19] ?_;refine Zx<|Zq<|BI (n:=3) (0::0::3::[]) 4 (by kernel_rfl) (by kernel_rfl) rfl ?_;refine Zi 1 0 rfl (OB (l:=1) underlying298 sizeOf227 Y Y (by omega)) ?_;refine Zi 3 1 rfl (QV (h:=7) underlying298 sizeOf227 Y Y (by omega)) ?_;refine Yw 2 7 rfl (oP (cs:=[_,_,_,_,_,_,_]) (c':=#[_,_,_,_,_,_,_,_]) underlying228 sizeOf227 Y Y Wh Wu (by rfl) (by rfl) (by rfl) (by exact tQ 8) (BQ _) (by simp [Value.oneCell',Bj])) ?_;rintro _ _ ⟨rfl,rfl⟩;refine Am ?_;refine Zx<|Zg<|Zm Y<|Zm Y<|Zv (CK Y Y) ?_;refine BM (BG (j:=4) underlying298 sizeOf227 Y Y (by omega)) ?_;refine Zl isAgg227 Y ?_;refine Zm Y<|Zv (CK Y Y) ?_;refine BM (BG (j:=0) underlying298 sizeOf227 Y Y (by omega)) ?_;refine Xe (Zs sizeOf227 Y Y rfl) ?_;refine BM (BG (j:=4) underlying298 sizeOf227 Y Y (by omega)) ?_;refine Xe (Zs sizeOf227 Y Y rfl (hc:=by exact (XR x k ws v hx))) ?_;refine Z0<|Zn [0,4,5,18,19] ?_;refine A8<|Zx<|Zg<|Ya (n:=1) Y Y<|Zm Y<|Z0<|Zn [19,0,4,5,18] ?_;refine Ab (e':=[(19,_)]) (by exact ⟨k+1,rfl,by omega,rfl,rfl⟩)
  exact Aw
 refine Ar<|Zt<|Zt<|AO<|Zx<|Zq<|Zg<|Zm Y<|Z0<|Zx<|AQ ?_;have ek:k=64:=by omega
 subst ek;refine Zb [82,0,5] ?_;refine Az (e0:=[(82,_)]) (fun m e H=>∃i:Nat,m=8 -i∧(i≤8)∧e=[(82,I4 (i:Int))]∧H=[[(hp,.cells ((TZ v x i).map Bj).toArray Th (0,0))]]) (by exact ⟨0,rfl,tX _,rfl,rfl⟩) Wp ?_;rintro _ _ _ ⟨i,rfl,hi,rfl,rfl⟩;refine Zq<|Zg<|Zv (Aq (n:=8) Y Y)<|Z0<|Zx<|Zq ?_;refine Ao Y (fun hc2=>?_) (fun hc2=>?_)
 ·
  refine AC<|Zx<|Zq<|AQ<|Zq<|Zg<|Zm Y<|Za Y<|Z0<|Zx<|BI (n:=12) (0::0::1::7::15::0::32::96::255::1::1023::2047::[]) 2048 (by kernel_rfl) (by kernel_rfl) rfl ?_;refine Zi 1 0 rfl (AJ Y)<|Zi 3 1 rfl (AJ Y)<|Zi 7 2 rfl (Dz Y rfl) ?_;refine Zi 15 3 rfl (BG underlying298 sizeOf227 Y Y (by first|omega|(rw [uP,tJ,Lg _ _ _ (by omega)];omega))) ?_;refine Zj 31 4 rfl isAgg227 Y (hv:=by exact dx _ _ i (by omega)) ?_;refine Zi 63 5 rfl (AJ Y) ?_;refine Zi 127 6 rfl (BG underlying298 sizeOf227 Y Y (by first|omega|(rw [uP,tJ,Lg _ _ _ (by omega)];omega))) ?_;refine Zj 255 7 rfl isAgg227 Y (hv:=by exact fu _ i (by omega)) ?_;refine Zi 511 8 rfl (CK Y Y)<|Zi 1023 9 rfl (Dz Y rfl) ?_;refine Zi 2047 10 rfl (BG underlying298 sizeOf227 Y Y (by first|omega|(rw [uP,tJ,Lg _ _ _ (by omega)];omega))) ?_;refine Yw 11 4095 rfl (Zs sizeOf227 Y Y rfl (hc:=by exact dw _ _ i (by omega)) (hi:=by(rw [uP,tJ,Lg _ _ _ (by omega)];omega))) ?_;rintro _ _ ⟨rfl,rfl⟩;refine Am ?_;refine Zn [0,5,82] ?_;refine A8<|Zx<|Zg<|Ya (n:=1) Y Y<|Zm Y<|Z0<|Zn [82,0,5] ?_;refine Ab (e':=[(82,_)]) (by exact ⟨i+1,rfl,by omega,rfl,rfl⟩)
 have ei:i=8:=by omega
 subst ei;rw [←hx];refine Ar<|Zt<|Zt<|AO ?_;refine Gz rfl results245 (by exact ⟨rfl,rfl⟩)
end Go.Proofs.YtkdgffcfmgmemaaGreatDoor
