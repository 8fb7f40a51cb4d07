/- Contracts: bits.RotateLeft32 at the counts of the program, digest.mixed, digest.schedule. -/
/- Contracts: digest.add, digest.digest. -/
/- Contracts: digest.digest, slices.Chunk at 64 bytes. Contracts: slices.Chunk at 64 bytes, digest.Sum. -/
/-
  DERIVED: THE SHELF's CONTRACTS AT THIS DUMP, IN PLAIN WORDS (tools/lay-plain.mjs out of 'TryzShelf.lean', which tools/lay-shelf.mjs wrote): THE SAME DECLARATIONS UNDER THE SAME NAMES: 'import', 'namespace', 'open', 'def', 'theorem' AND NOTHING ELSE: no command of the shelf's: FOR A HAND-IN. Each laying: the table of numbers ('.._ren') and one theorem, a field a fact of the dump's own or the kernel's comparison; each contract: ONE APPLICATION.
-/
/- Contracts: digest.marked, Chain. -/
/- Contracts: wire.groups, PutInt, PutString. Contracts: wire.PutString, Int, String. -/
/- Rows and changes in plain words; the reference of layer 3. -/
/- Records in plain words; ValidRecord of the reference. -/
/- The reference of layer 4: place, Get. -/
/- The program's layer 3: within. -/
/- The program's layer 3: ValidChange. -/
import Derived.Test.YteaiajghbkenoaaGreatDoorA1
import Derived.Test.YteaiajghbkenoaaGreatDoorEz
import Derived.Test.YteaiajghbkenoaaGreatDoorEx4
import Derived.Test.YteaiajghbkenoaaGreatDoorEx5
import Derived.Test.YteaiajghbkenoaaGreatDoorSha
import Derived.Test.YteaiajghbkenoaaGreatDoorBits
import Derived.Test.YteaiajghbkenoaaGreatDoorProg
import Derived.Laws.Bits64
import Derived.WalkKit
import Derived.Test.YteaiajghbkenoaaGreatDoorEx36
import Derived.Shelf.Strings.Builder1
import Derived.Shelf.Strings.Builder2
import Derived.Shelf.Strings.OnBuilder
import Derived.Shelf.Small.Bits
import Derived.Shelf.Small.Wraps
import Derived.Shelf.Strings.BuilderF
import Derived.Shelf.Strings.BuilderK
import Derived.Shelf.Strings.Builder2Cap
import Derived.Shelf.Strconv.Itoa0
import Derived.Shelf.Strconv.Itoa1
import Derived.Shelf.LaysM
import Derived.Shelf.Strconv.Itoa2
import Derived.Shelf.Strconv.Itoa3
import Derived.Shelf.Sort.Plain
import Derived.Shelf.Strings.BuilderCap
import Derived.Shelf.Slices.Equal
import Derived.Ground.Names2Prog
import Derived.Shelf.Slices.ReverseS
import Derived.Shelf.Slices.Clone
import Derived.Shelf.Slices.SearchI
import Derived.Shelf.Slices.Cells
import Derived.Shelf.Slices.In.SortNone
import Derived.Shelf.Slices.Empties2
import Derived.Ground.SlgnProg
import Derived.Shelf.SlicesE.Clone
set_option linter.unusedVariables false
set_option linter.unusedSimpArgs false
namespace Go.Proofs.YteaiajghbkenoaaGreatDoor
open Go.Proofs.Tryz
open Go Go.RowKit Gw
set_option maxRecDepth 100000
attribute [local irreducible] Gw.At Gw.Nx Gw.Ops
theorem gu(x:UInt32)(n m:Nat)(h0:0<n)(h1:n<32)(hm:n+m=32):(x<<<UInt32.ofNat m)|||(x>>>UInt32.ofNat n)=lw x (UInt32.ofNat n):=by
 unfold lw;have:(32:UInt32) -UInt32.ofNat n=UInt32.ofNat m:=by
  apply UInt32.toNat_inj.1;rw [UInt32.toNat_sub,AN6,AN6];simp only [UInt32.reduceToNat];omega
 rw [this]
theorem sK(n m:Nat)(h0:0<n)(h1:n<32)(hm:n+m=32):bits .and .u64 (IntKind.u64.wrap (-(n:Int))) 31=(m:Int):=by
 have h:IntKind.u64.wrap (-(n:Int))=((18446744073709551616 -n:Nat):Int):=by rw [IntKind.wrap_u64];omega
 have h31:(31:Int)=((31:Nat):Int):=rfl;rw [h,h31,u64_and_nat _ _ Ao7 Ao7,nat_mask5];omega
theorem gZ(x:UInt32)(n:Nat)(h0:0<n)(h1:n<32):BJ Tryz.prog 345 #[.int .u32 x.toNat,I4 (-(n:Int))] [] (.int .u32 (lw x (UInt32.ofNat n)).toNat):=by
 refine K9 func345 V ntmps345 V ?_;intro u R;obtain ⟨m,hm⟩:∃m,n+m=32:=⟨32 -n,by omega⟩;refine Zb [0,1] ?_;refine Zq<|Zg<|Za Y<|Z0<|Zx<|Zq<|Zg<|Zm Y<|KH (EU AV3 Ac1 Y V) V rfl ?_;refine KH (nK Y Y (sK n m h0 h1 hm)) V rfl ?_;refine Za Y<|Z0<|Zx<|Zq<|Zg<|Zm Y<|Zm Y<|Bq (M3 Y Y Ao7)<|Zm Y<|Zm Y ?_
 (refine Bq (Te (m:=32) Y Y ?_ ?_) ?_;(focus (omega));(focus (omega)))
 refine Bq (M0 Y Y Ao7)<|Zv (OC Y Y)<|Za Y<|Z0<|Zn [4] ?_;refine Zx<|AC<|AL V results345 Y (by
  have e:32 -m=n:=by omega
  exact ⟨by rw [e,gu x n m h0 h1 hm],rfl⟩)
theorem nZ(x:UInt32)(l:List UInt32)(n:UInt32):Vl x (l++[n])=Vl x l^^^lw x n:=by simp [Vl]
def xc(n:Nat):Value:=I4 (n:Int)
theorem gI{α β:Type}(f:α->β)(l:List α)(k:Nat)(d:α)(h:k<l.length):(l.take (k+1)).map f=(l.take k).map f++[f (l.getD k d)]:=by
 rw [AL7 h,zK];simp [AB5,zD h]
theorem Vz{α:Type}(f:α->Value)(l:List α)(k:Nat)(d:α)(h:k<l.length):(l.map f).toArray[k]?=some (f (l.getD k d)):=by
 simp [zD h,AB5]
theorem I1(x:UInt32)(l:List Nat)(g cap:Nat)(T:TypeId)(z:Nat×Nat)(hl:∀n∈l,0<n/\n<32)(hn:l.length<=100):
 BJ Tryz.prog 334 #[.int .u32 x.toNat,I6 g l.length cap] [[(g,.cells (l.map xc).toArray T z)]] (.int .u32 (Vl x (l.map UInt32.ofNat)).toNat):=by
 refine Se func334 ntmps334 [0,1] ?_;intro u R;refine Zq<|Zg<|Za Y<|Z0<|Zx<|Zq<|Zg<|Za Y<|Z0<|Zx<|Zq<|Zq<|Zg<|Zm Y<|Zv (Aa AV0 Y)<|Zm Y<|Z0<|Zx<|AO<|Zb [5,10,0,8,9] ?_;refine BI (e0:=[(5,_),(10,_)]) (fun m e H=>∃k:Nat,m=l.length -k/\(k<=l.length)/\e=[(5,.int .u32 ((Vl x ((l.take k).map UInt32.ofNat)).toNat:Int)),(10,I4 (k:Int))]/\H=[]) (by exact ⟨0,V,zT _,V,V⟩) Wp ?_;rintro _ _ _ ⟨k,rfl,hk,rfl,rfl⟩;refine Zq<|Zg<|Zv (Au Y Y)<|Z0<|Zx<|Zq<|Aw Y (fun hc1=>?_) (fun hc1=>?_)
 ·
  refine AJ<|Zx<|Zq<|AO<|Zq<|Zg<|Bq (Ba AV0 AU1 Y Y Ao7)<|Zl AU2 Y (hv:=by exact Vz xc l k 0 Ao7) ?_;refine Za Y<|Z0<|Zx ?_;have hlk:=hl (l.getD k 0) (by rw [AB5,zD Ao7];exact AT1 _)
  refine Zg<|Zm Y<|Zm Y<|Zm Y<|KH (vH (c:=-(l.getD k 0:Int)) Y (by rw [Int.zero_sub];exact IntWalk.i64_in _ Ao7)) rfl rfl ?_;refine Xr [_,_] Y call345 Y V (gZ _ _ hlk.1 hlk.2) ?_;refine Zv (FB Y Y)<|Za Y<|Z0<|A9<|Zx<|Zg<|Ya (n:=1) Y Y<|Zm Y<|Z0<|Zn [5,10,0,8,9] ?_;refine Ad (e':=[(5,_),(10,_)]) (by exact ⟨k+1,rfl,by omega,by rw [gI _ _ _ 0 Ao7,nZ],rfl⟩)
 refine BG<|Zt<|Zt<|AX<|Zx<|Zq<|Zg<|Zm Y<|Za Y<|Z0<|Zx<|AC<|AL V results334 Y (by
  have e:k=l.length:=by omega
  exact ⟨by rw [e,AA4],rfl⟩)
def EO(l:List UInt32):List Value:=l.map Ch++List.replicate (64 -l.length) (.int .u32 0)
theorem CQ(l:List UInt32)(h:l.length<=64):(EO l).length=64:=by simp [EO];omega
theorem ZO(l:List UInt32)(i:Nat)(h:i<l.length):(EO l).toArray[i]?=some (Ch (l.getD i 0)):=by
 simp [EO,List.getElem?_append,h,AB5]
theorem ZM(l:List UInt32)(x:UInt32)(h:l.length<64):(EO l).toArray.setIfInBounds l.length (Ch x)=(EO (l++[x])).toArray:=by
 rw [AN1];congr 1;unfold EO;rw [AM9 _ _ Ap0];simp only [zH,AL5,zG,ze,AF4];obtain ⟨n,hn⟩:∃n,64 -l.length=n+1:=⟨63 -l.length,by omega⟩;rw [hn,show 64 -(l.length+(0+1))=n by omega];simp [List.replicate_succ]
theorem JD(b:List UInt8)(k:Nat)(x:UInt32)(h:k<64)(hx:FH b (k+1)=FH b k++[x]):(EO (FH b k)).toArray.setIfInBounds k (.int .u32 (x.toNat:Int))=(EO (FH b (k+1))).toArray:=by
 have:=ZM (FH b k) x (by rw [CG];exact h);rw [CG]at this;rw [hx];exact this
theorem ZN(l:List UInt32):∀v∈(EO l).toArray.toList,v.oneCell'=true:=by
 intro v hv;simp only [EO,zJ,zQ,List.mem_replicate]at hv;rcases hv with⟨x,_,rfl⟩|⟨_,rfl⟩<;>rfl
theorem Wt(l:List UInt32)(h:l.length=64):EO l=l.map Ch:=by simp [EO,h]
theorem ku(b:List UInt8)(k:Nat)(h:k<16):FH b (k+1)=FH b k++[ZI b k]:=by rw [FH,Am7 h]
theorem Qs(b:List UInt8)(k:Nat)(h:16<=k):FH b (k+1)=FH b k++[Xj (FH b k) k]:=by rw [FH,Am6 Ao7]
def MN(c:Array Value)(o:Nat)(bs:List UInt8):Prop:=(c.toList.drop o).take bs.length=bs.map u8v
theorem MN.get{c:Array Value}{o:Nat}{bs:List UInt8}(h:MN c o bs)(j:Nat)(hj:j<bs.length):c[o+j]?=some (u8v (bs.getD j 0)):=by
 have h1:((c.toList.drop o).take bs.length)[j]?=(bs.map u8v)[j]?:=by rw [h]
 rw [AA7,Am7 hj,AE1,zY,zD hj]at h1;rw [AA3]at h1;rw [h1];simp [AB5,zD hj]
theorem K5(b:List UInt8)(k i:Nat)(h:i<k):(EO (FH b k)).toArray[i]?=some (Ch ((FH b k).getD i 0)):=ZO _ _ (by rw [CG];exact h)
theorem aF(g o cap:Nat)(c:Array Value)(T:TypeId)(z:Nat×Nat)(bs:List UInt8)(hb:bs.length=64)(hc:MN c o bs):
 BJ Tryz.prog 333 #[.slice (some ⟨g,o,none⟩) 64 cap] [[(g,.cells c T z)]] (.agg ((eD bs).map Ch).toArray):=by
 refine Se func333 ntmps333 [0] ?_;intro u R;refine Zq<|Zg<|Ze (EB zeroValue431 (cs:=(EO []).toArray) Ao8) ?_;rintro _ _ ⟨bw,rfl,rfl⟩;refine Z0<|Zx<|Zq<|Zq<|Zg<|Zm Y<|Z0<|Zx<|AO<|Zb [7,0,2] ?_;refine BI (e0:=[(7,_)]) (fun m e H=>∃k:Nat,m=16 -k/\(k<=16)/\e=[(7,I4 (k:Int))]/\H=[[(bw,.cells (EO (FH bs k)).toArray 431 (0,0))]]) (by exact ⟨0,V,zT _,V,V⟩) Wp ?_;rintro _ _ _ ⟨k,rfl,hk,rfl,rfl⟩;refine Zq<|Zg<|Zv (Au (n:=16) Y Y)<|Z0<|Zx<|Zq<|Aw Y (fun hc1=>?_) (fun hc1=>?_)
 ·
  refine AJ<|Zx<|Zq<|AO<|Zq<|Zg<|Zm Y<|Za Y<|Z0<|Zx<|Az (n:=36) (0::0::0::4::14::30::62::126::0::0::512::1536::3840::7936::16128::32512::65534::0::0::262144::786432::1966080::4063232::8257536::16646144::33554430::0::0::134217728::402653184::1006632960::2080374784::4227858432::8589934590::17179869183::34359738367::[]) 34359738368 Ao8 Ao8 rfl<|An9 0 rfl (AP Y)<|An9 1 rfl (AP Y)<|An9 2 rfl (AP Y)<|An9 3 rfl (FZ (m:=4) Y Y Ao7)<|An9 4 rfl (CY AW9 Ad5 Y Y (by first|omega|(rw [AA6,CQ _ (by rw [CG];omega)];omega)))<|Ao0 5 rfl Am2 Y (hv:=by exact hc.get _ Ao7) ?_;refine An9 6 rfl (Hg Aa0 Aa6 Y)<|An9 7 rfl (M3 (n:=24) Y Y Ao7)<|An9 8 rfl (AP Y)<|An9 9 rfl (AP Y)<|An9 10 rfl (FZ (m:=4) Y Y Ao7)<|An9 11 rfl (Ei (n:=1) Y Y Ao7)<|An9 12 rfl (CY AW9 Ad5 Y Y (by first|omega|(rw [AA6,CQ _ (by rw [CG];omega)];omega)))<|Ao0 13 rfl Am2 Y (hv:=by exact hc.get _ Ao7) ?_;refine An9 14 rfl (Hg Aa0 Aa6 Y)<|An9 15 rfl (M3 (n:=16) Y Y Ao7)<|An9 16 rfl (OC Y Y)<|An9 17 rfl (AP Y)<|An9 18 rfl (AP Y)<|An9 19 rfl (FZ (m:=4) Y Y Ao7)<|An9 20 rfl (Ei (n:=2) Y Y Ao7)<|An9 21 rfl (CY AW9 Ad5 Y Y (by first|omega|(rw [AA6,CQ _ (by rw [CG];omega)];omega)))<|Ao0 22 rfl Am2 Y (hv:=by exact hc.get _ Ao7) ?_;refine An9 23 rfl (Hg Aa0 Aa6 Y)<|An9 24 rfl (M3 (n:=8) Y Y Ao7)<|An9 25 rfl (OC Y Y)<|An9 26 rfl (AP Y)<|An9 27 rfl (AP Y)<|An9 28 rfl (FZ (m:=4) Y Y Ao7)<|An9 29 rfl (Ei (n:=3) Y Y Ao7)<|An9 30 rfl (CY AW9 Ad5 Y Y (by first|omega|(rw [AA6,CQ _ (by rw [CG];omega)];omega)))<|Ao0 31 rfl Am2 Y (hv:=by exact hc.get _ Ao7) ?_;refine An9 32 rfl (Hg Aa0 Aa6 Y)<|An9 33 rfl (OC Y Y)<|An9 34 rfl (BP Ab3 AX2 Y Y (by first|omega|(rw [AA6,CQ _ (by rw [CG];omega)];omega)))<|Yw 35 68719476735 rfl (Zs AX2 Y Y rfl (hc:=by exact JD bs k (ZI bs k) Ao7 (ku bs k Ao7)) (hi:=by(rw [AA6,CQ _ (by rw [CG];omega)];omega))) ?_;rintro _ _ ⟨rfl,rfl⟩;refine Ag<|Zn [0,2,7] ?_;refine A9<|Zx<|Zg<|Ya (n:=1) Y Y<|Zm Y<|Z0<|Zn [7,0,2] ?_;refine Ad (e':=[(7,_)]) (by exact ⟨k+1,V,by omega,V,V⟩)
 refine BG<|Zt<|Zt<|AX<|Zx<|Zq<|Zq<|Zg<|Za Y<|Z0<|Zx<|AO ?_;have hk16:k=16:=by omega
 subst hk16;refine Zb [4,2] ?_;refine BI (e0:=[(4,_)]) (fun m e H=>∃k:Nat,m=64 -k/\(16<=k/\k<=64)/\e=[(4,I4 (k:Int))]/\H=[[(bw,.cells (EO (FH bs k)).toArray 431 (0,0))]]) (by exact ⟨16,V,by omega,V,V⟩) Wp ?_;rintro _ _ _ ⟨k,rfl,⟨hk0,hk⟩,rfl,rfl⟩;refine Zq<|Zq<|Zg<|Zm Y<|Zv (Au (n:=64) Y Y)<|Z0<|Zx<|Aw Y (fun hc2=>?_) (fun hc2=>?_)
 ·
  refine AJ<|Zx<|Zq<|AO<|Zq<|Az (n:=10) (0::1::3::7::0::16::48::112::15::511::[]) 0 Ao8 Ao8 V<|An9 0 V (AP Y) ?_
  (refine Ev (D':=3) 1 (CS (n:=15) Y Y ?_ ?_) ?_;(focus (omega));(focus (omega)))
  refine An9 2 V (BP Ab3 AX2 Y Y Ao7)<|Ao0 3 V Aa5 Y (hv:=by exact K5 bs k _ Ao7) ?_;refine An9 4 V (AP Y) ?_
  (refine Ev (D':=63) 5 (CS (n:=2) Y Y ?_ ?_) ?_;(focus (omega));(focus (omega)))
  refine An9 6 V (BP Ab3 AX2 Y Y Ao7)<|Ao0 7 V Aa5 Y (hv:=by exact K5 bs k _ Ao7) ?_;refine An9 8 V (Aq Y)<|An9 9 V (Aq Y)<|Ag<|Zx<|Az (n:=26) (0::0::2::6::14::0::0::96::0::256::992::2046::0::4096::12288::28672::65534::0::0::393440::0::1048576::4063456::8388606::16777215::33554431::[]) 34341056 Ao8 Ao8 V<|An9 0 V (AP Y)<|An9 1 V (AP Y) ?_
  (refine Ev (D':=7) 2 (CS (n:=16) Y Y ?_ ?_) ?_;(focus (omega));(focus (omega)))
  refine An9 3 rfl (BP Ab3 AX2 Y Y (by first|omega|(rw [AA6,CQ _ (by rw [CG];omega)];omega)))<|Ao0 4 rfl Aa5 Y (hv:=by exact K5 bs k _ Ao7) ?_;refine An9 5 V (AP Y)<|An9 8 V (AP Y)<|An9 9 V (M0 (n:=3) Y Y Ao7)<|An9 12 V (AP Y) ?_
  (refine Ev (D':=13119) 13 (CS (n:=7) Y Y ?_ ?_) ?_;(focus (omega));(focus (omega)))
  refine An9 14 rfl (BP Ab3 AX2 Y Y (by first|omega|(rw [AA6,CQ _ (by rw [CG];omega)];omega)))<|Ao0 15 rfl Aa5 Y (hv:=by exact K5 bs k _ Ao7) ?_;refine An9 17 V (AP Y)<|An9 20 V (AP Y)<|An9 21 V (M0 (n:=10) Y Y Ao7)<|Zz (l:=[6,18])<|Ao5 [true,true] [(15,(_,_)),(4,(_,_))] V rfl (Af (vs:=[_,_]) (cs:=[_,_]) AV0 AU1 AX6 Y V rfl V rfl V) ?hk_5 (fun _ _ h=>h.elim) ?hl_5
  case hk_5=>
   rintro _ _ ⟨b2,rfl,rfl⟩;refine ⟨Zk (Zk (AV)),?_⟩;refine Zz (l:=[7,18])<|Ao5 [true,true] [(15,(_,_)),(4,(_,_))] V rfl (Zu [_,_] Y Am3 Y V (I1 _ [7,18] _ _ _ _ Ao9 Ao9)) ?hk_6 (fun _ _ h=>h.elim) ?hl_6
   case hk_6=>
    rintro _ _ ⟨rfl,rfl⟩;refine ⟨Zk (Zk (AV)),?_⟩;refine An9 10 V (FB Y Y)<|An9 11 V (DN Y Y)<|An9 16 V (DN Y Y)<|Zz (l:=[18])<|Ao5 [true,true] [(15,(_,_)),(4,(_,_))] V rfl (Af (vs:=[_,_]) (cs:=[_,_]) AV0 AU1 AX6 Y V rfl V rfl V) ?hk_7 (fun _ _ h=>h.elim) ?hl_7
    case hk_7=>
     rintro _ _ ⟨b3,rfl,rfl⟩;refine ⟨Zk (Zk (AV)),?_⟩;refine Yz 19 393440 4194303 [15,4] [true,true] [(15,(_,_)),(4,(_,_))] V Y V rfl V rfl (Zu [_,_] Y Am3 Y V (I1 _ [17,19] _ _ _ _ Ao9 Ao9)) ?_;rintro _ _ ⟨rfl,rfl⟩;refine ⟨Zk (Zk (AV)),?_⟩;refine An9 22 rfl (FB Y Y)<|An9 23 rfl (DN Y Y)<|An9 24 rfl (BP Ab3 AX2 Y Y (by first|omega|(rw [AA6,CQ _ (by rw [CG];omega)];omega)))<|Yw 25 67108863 rfl (Zs AX2 Y Y rfl (hc:=by exact JD bs k (Xj (FH bs k) k) Ao7 (Qs bs k Ao7)) (hi:=by(rw [AA6,CQ _ (by rw [CG];omega)];omega))) ?_;rintro _ _ ⟨rfl,rfl⟩;refine Ag<|Zn [2,4] ?_;refine A9<|Zx<|Zg<|Zm Y<|Ya (n:=1) Y Y<|Za Y<|Z0<|Zn [4,2] ?_;refine Ad (e':=[(4,_)]) (by exact ⟨k+1,V,by omega,V,V⟩)
    exact Ae
   refine Ao5 [true,true] [(15,(_,_)),(4,(_,_))] V rfl (Af (vs:=[_,_]) (cs:=[_,_]) AV0 AU1 AX6 Y V rfl V rfl V) ?hk_11 (fun _ _ h=>h.elim) ?hl_11
   case hk_11=>
    rintro _ _ ⟨b4,rfl,rfl⟩;refine ⟨Zk (Zk (AV)),?_⟩;refine Yz 7 96 3601407 [15,4] [true,true] [(15,(_,_)),(4,(_,_))] V Y V rfl V rfl (Zu [_,_] Y Am3 Y V (I1 _ [7,18] _ _ _ _ Ao9 Ao9)) ?_;rintro _ _ ⟨rfl,rfl⟩;refine ⟨Zk (Zk (AV)),?_⟩;refine An9 10 V (FB Y Y)<|An9 11 V (DN Y Y)<|An9 16 V (DN Y Y)<|Zz (l:=[19])<|Ao5 [true,true] [(15,(_,_)),(4,(_,_))] V rfl (Zu [_,_] Y Am3 Y V (I1 _ [17,19] _ _ _ _ Ao9 Ao9)) ?hk_13 (fun _ _ h=>h.elim) ?hl_13
    case hk_13=>
     rintro _ _ ⟨rfl,rfl⟩;refine ⟨Zk (Zk (AV)),?_⟩;refine An9 22 rfl (FB Y Y)<|An9 23 rfl (DN Y Y)<|An9 24 rfl (BP Ab3 AX2 Y Y (by first|omega|(rw [AA6,CQ _ (by rw [CG];omega)];omega)))<|Yw 25 67108863 rfl (Zs AX2 Y Y rfl (hc:=by exact JD bs k (Xj (FH bs k) k) Ao7 (Qs bs k Ao7)) (hi:=by(rw [AA6,CQ _ (by rw [CG];omega)];omega))) ?_;rintro _ _ ⟨rfl,rfl⟩;refine Ag<|Zn [2,4] ?_;refine A9<|Zx<|Zg<|Zm Y<|Ya (n:=1) Y Y<|Za Y<|Z0<|Zn [4,2] ?_;refine Ad (e':=[(4,_)]) (by exact ⟨k+1,V,by omega,V,V⟩)
    exact Ae
   exact Ae
  refine Ao5 [true,true] [(15,(_,_)),(4,(_,_))] V rfl (Af (vs:=[_,_]) (cs:=[_,_]) AV0 AU1 AX6 Y V rfl V rfl V) ?hk_16 (fun _ _ h=>h.elim) ?hl_16
  case hk_16=>
   rintro _ _ ⟨b5,rfl,rfl⟩;refine ⟨Zk (Zk (AV)),?_⟩;refine Yz 6 0 3601279 [15,4] [true,true] [(15,(_,_)),(4,(_,_))] V Y V rfl V rfl (Af (vs:=[_,_]) (cs:=[_,_]) AV0 AU1 AX6 Y V rfl V rfl V) ?_;rintro _ _ ⟨b6,rfl,rfl⟩;refine ⟨Zk (Zk (AV)),?_⟩;refine Yz 7 96 3601407 [15,4] [true,true] [(15,(_,_)),(4,(_,_))] V Y V rfl V rfl (Zu [_,_] Y Am3 Y V (I1 _ [7,18] _ _ _ _ Ao9 Ao9)) ?_;rintro _ _ ⟨rfl,rfl⟩;refine ⟨Zk (Zk (AV)),?_⟩;refine An9 10 V (FB Y Y)<|An9 11 V (DN Y Y)<|An9 16 V (DN Y Y)<|Zz (l:=[19])<|Ao5 [true,true] [(15,(_,_)),(4,(_,_))] V rfl (Zu [_,_] Y Am3 Y V (I1 _ [17,19] _ _ _ _ Ao9 Ao9)) ?hk_19 (fun _ _ h=>h.elim) ?hl_19
   case hk_19=>
    rintro _ _ ⟨rfl,rfl⟩;refine ⟨Zk (Zk (AV)),?_⟩;refine An9 22 rfl (FB Y Y)<|An9 23 rfl (DN Y Y)<|An9 24 rfl (BP Ab3 AX2 Y Y (by first|omega|(rw [AA6,CQ _ (by rw [CG];omega)];omega)))<|Yw 25 67108863 rfl (Zs AX2 Y Y rfl (hc:=by exact JD bs k (Xj (FH bs k) k) Ao7 (Qs bs k Ao7)) (hi:=by(rw [AA6,CQ _ (by rw [CG];omega)];omega))) ?_;rintro _ _ ⟨rfl,rfl⟩;refine Ag<|Zn [2,4] ?_;refine A9<|Zx<|Zg<|Zm Y<|Ya (n:=1) Y Y<|Za Y<|Z0<|Zn [4,2] ?_;refine Ad (e':=[(4,_)]) (by exact ⟨k+1,V,by omega,V,V⟩)
   exact Ae
  exact Ae
 refine BG<|Zt<|Zt<|AX<|Zx<|Zq<|Zg<|Zo Wh (AA isAgg431 sizeOf431 Y (by(rw [AA6,CQ _ (by rw [CG];omega)];omega)) (by exact I8 _ _ (by rw [AA6,CQ _ (by rw [CG];omega)]))) ?_;refine Xe (BK sizeOf431 Y Y (by exact ZN _) Wu (by exact nM _) (by rw [AA6,CQ _ (by rw [CG];omega)]) (by(rw [AA6,CQ _ (by rw [CG];omega)];omega)) (by exact BF _)) ?_;refine Z0<|Zx<|AC<|Cy rfl results333 Y Wh (Ap isAgg431 sizeOf431 (by(rw [AA6,CQ _ (by rw [CG];omega)];omega)) (I8 _ _ (by rw [AA6,CQ _ (by rw [CG];omega)]))) (by
  have e:k=64:=by omega
  exact ⟨by rw [e,Wt _ (CG _ _)];rfl,rfl⟩)
def v8c(v:V8):Array Value:=#[Ch v.a,Ch v.b,Ch v.c,Ch v.d,Ch v.e,Ch v.f,Ch v.g,Ch v.h]
theorem kz(v:V8):v8c v=(v.list.map Ch).toArray:=rfl
theorem xk(k:Nat)(h:k<64):(EW.map Ch).toArray[k*1]?=some (Ch (EW.getD k 0)):=by rw [AK7];exact Vz Ch EW k 0 (by rw [oK];exact h)
def Ur(x y:V8)(i:Nat):List UInt32:=(ul x y).list.take i++x.list.drop i
theorem M7(x y:V8)(i:Nat)(h:i<=8):(Ur x y i).length=8:=by
 have:(ul x y).list.length=8:=rfl;have h2:x.list.length=8:=rfl
 simp [Ur,this,h2];omega
theorem jZ(x y:V8)(i:Nat)(h:i<8):((Ur x y i).map Ch).toArray[i]?=some (Ch (x.list.getD i 0)):=by
 have:i=0\/i=1\/i=2\/i=3\/i=4\/i=5\/i=6\/i=7:=by omega
 rcases this with rfl|rfl|rfl|rfl|rfl|rfl|rfl|rfl<;>rfl
theorem lC(y:V8)(i:Nat)(h:i<8):(v8c y)[i]?=some (Ch (y.list.getD i 0)):=by
 have:i=0\/i=1\/i=2\/i=3\/i=4\/i=5\/i=6\/i=7:=by omega
 rcases this with rfl|rfl|rfl|rfl|rfl|rfl|rfl|rfl<;>rfl
theorem jY(x y:V8)(i:Nat)(h:i<8):((Ur x y i).map Ch).toArray.setIfInBounds i (.int .u32 ((x.list.getD i 0+y.list.getD i 0).toNat:Int))=((Ur x y (i+1)).map Ch).toArray:=by
 have:i=0\/i=1\/i=2\/i=3\/i=4\/i=5\/i=6\/i=7:=by omega
 rcases this with rfl|rfl|rfl|rfl|rfl|rfl|rfl|rfl<;>rfl
theorem ZV(x:V8)(k:Nat)(ws:List UInt32)(v:V8)(hx:x=LB ws v k):
 ((#[Ch x.a,Ch x.a,Ch x.b,Ch x.c,Ch x.d,Ch x.e,Ch x.f,Ch x.g]:Array Value).setIfInBounds 0 (.int .u32 ((Gw.Co x (EW.getD k 0) (ws.getD k 0)+vC x).toNat:Int))).setIfInBounds 4 (.int .u32 ((x.d+Gw.Co x (EW.getD k 0) (ws.getD k 0)).toNat:Int))=v8c (LB ws v (k+1)):=by
 subst hx;rfl
theorem gT(bs:List UInt8):(eD bs).length=64:=CG bs 64
theorem lg(ws:List UInt32)(h:ws.length=64):((ws.map Ch).toArray).size=64:=by rw [AA6,zH,h]
theorem ll(ws:List UInt32)(h:ws.length=64):Dp (EO []).toArray 0 ((ws.map Ch).toArray).toList=(ws.map Ch).toArray:=
 Xc (EO []).toArray (ws.map Ch) (by rw [zH,h];rfl)
theorem rQ:0+64<=((EO []).toArray).size:=by rw [AA6,CQ _ (zT _)];exact zh _
theorem dn(v:V8):∀x∈(v8c v).toList,x.oneCell'=true:=by
 intro x hx;rw [kz]at hx;simp only [zQ]at hx;obtain ⟨y,_,rfl⟩:=hx;rfl
theorem lF(l:List UInt32):∀x∈(l.map Ch).toArray.toList,x.oneCell'=true:=by
 intro x hx;simp only [zQ]at hx;obtain ⟨y,_,rfl⟩:=hx;rfl
theorem qW(hp g o cap:Nat)(c:Array Value)(T:TypeId)(z:Nat×Nat)(bs:List UInt8)(hb:bs.length=64)(hc:MN c o bs)(Th Tg:TypeId)(zg:Nat×Nat)(v:V8):
 BR Tryz.prog 305 #[I5 hp,.slice (some ⟨g,o,none⟩) 64 cap] [[(hp,.cells (v8c v) Th (0,0))],[(g,.cells c T z)],[(4,.cells (EW.map Ch).toArray Tg zg)]]
  (fun r H'=>r= .tuple #[]/\H'=[[(hp,.cells (v8c (WO v bs)) Th (0,0))],[(g,.cells c T z)],[(4,.cells (EW.map Ch).toArray Tg zg)]]):=by
 refine K9 func305 V ntmps305 V ?_;intro u R;obtain ⟨ws,hws⟩:∃ws,ws=eD bs:=⟨_,rfl⟩;have hw:ws.length=64:=by rw [hws];exact gT bs
 have hss:=aF g o cap c T z bs hb hc;rw [<-hws]at hss;have hbl:WO v bs=ul v (LB ws v 64):=by rw [hws];rfl
 clear hws;rw [hbl];refine Zb [0,1] ?_;refine Zq<|Zg<|Zm Y<|Xr [_] Y call333 Y V (hss) ?_;refine Ze (EB zeroValue431 (cs:=(EO []).toArray) Ao8) ?_;rintro _ _ ⟨bw,rfl,rfl⟩;refine Xe (BK sizeOf431 Y Y (by exact lF _) Wu (by exact ll ws hw) (by exact lg ws hw) (by exact rQ) (by exact BF _)) ?_;refine Z0<|Zx<|Zq<|Zg<|Zm Y<|Zp Y V<|Zo Wh (AA (cs:=v8c v) isAgg406 sizeOf406 Y Wn Ap1) ?_;refine Ze (Al zeroValue406 #[_,_,_,_,_,_,_,_]) ?_;rintro _ _ ⟨bv,rfl,rfl⟩;refine Xe (BK sizeOf406 Y Y (by exact dn v) Wu (by exact (rfl:_=v8c (LB ws v 0))) Ap3 Wn (by exact BF _)) ?_;refine Z0<|Zx<|Zq<|Zq<|Zg<|Zo Wh (AA (cs:=(EW.map Ch).toArray) isAgg431 sizeOf431 Y (by exact zh _) (by exact I8 _ _ V)) ?_;refine Zm Y<|Z0<|Zx<|AO<|Zb [19,0,4,5,18] ?_;refine BI (e0:=[(19,_)]) (fun m e H=>∃k:Nat,m=64 -k/\(k<=64)/\e=[(19,I4 (k:Int))]/\H=[[(bv,.cells (v8c (LB ws v k)) 406 (0,0))]]) (by exact ⟨0,V,zT _,V,V⟩) Wp ?_;rintro _ _ _ ⟨k,rfl,hk,rfl,rfl⟩;obtain ⟨x,hx⟩:∃x,x=LB ws v k:=⟨_,rfl⟩;rw [<-hx];refine Zq<|Zg<|Zv (Au (n:=64) Y Y)<|Z0<|Zx<|Zq<|Aw Y (fun hc1=>?_) (fun hc1=>?_)
 ·
  refine AJ<|Zx<|Zq<|AO<|Zq<|Zg<|Zm Y<|Zv (Q5 Ab3 Aa5 AX2 Y Y Ao7 (by exact xk k Ao7))<|Za Y<|Za Y<|Z0<|Zx<|Zq<|Az (n:=6) (0::1::0::4::3::31::[]) 0 Ao8 Ao8 V<|An9 0 V (BP (j:=0) AY2 AX2 Y Y Ao7)<|Ao0 1 V Aa5 Y ?_;refine An9 2 V (BP (j:=4) AY2 AX2 Y Y Ao7)<|Ao0 3 V Aa5 Y ?_;refine An9 4 V (Aq Y)<|An9 5 V (Aq Y)<|Ag<|Zx<|Zq<|Az (n:=24) (0::1::0::0::12::31::0::0::128::448::0::1024::0::4096::15360::32704::65535::0::262143::0::524288::1572864::4194303::8388607::[]) 24 Ao8 Ao8 V<|An9 0 V (BP (j:=7) AY2 AX2 Y Y Ao7)<|Ao0 1 V Aa5 Y ?_;refine An9 2 V (AP Y)<|An9 6 V (AP Y)<|An9 7 V (BP (j:=5) AY2 AX2 Y Y Ao7)<|Ao0 8 V Aa5 Y ?_;refine An9 9 V (Jq Y Y)<|An9 10 V (AP Y)<|An9 11 V (iT Y)<|An9 12 V (BP (j:=6) AY2 AX2 Y Y Ao7)<|Ao0 13 V Aa5 Y ?_;refine An9 14 V (Jq Y Y)<|An9 15 V (FB Y Y)<|An9 17 V (AP Y)<|An9 19 V (AP Y)<|An9 20 V (BP Ab3 AX2 Y Y Ao7)<|Ao0 21 V Aa5 Y (hv:=by exact Vz Ch ws k 0 Ao7) ?_;refine Yz 3 0 3866575 [21,13,8,1] [true,true,true,true] [(21,(_,_)),(13,(_,_)),(8,(_,_)),(1,(_,_))] V Y V rfl V rfl (Af (vs:=[_,_,_]) (cs:=[_,_,_]) AV0 AU1 AX6 Y V rfl V rfl V) ?_;rintro _ _ ⟨b3,rfl,rfl⟩;refine ⟨Zk (Zk (Zk (Zk (AV)))),?_⟩;refine Yz 4 12 3866591 [21,13,8,1] [true,true,true,true] [(21,(_,_)),(13,(_,_)),(8,(_,_)),(1,(_,_))] V Y V rfl V rfl (Zu [_,_] Y Am3 Y V (I1 _ [6,11,25] _ _ _ _ Ao9 Ao9)) ?_;rintro _ _ ⟨rfl,rfl⟩;refine ⟨Zk (Zk (Zk (Zk (AV)))),?_⟩;refine An9 5 V (DN Y Y)<|An9 16 V (DN Y Y)<|An9 18 V (DN Y Y)<|An9 22 V (DN Y Y)<|An9 23 V (Aq Y)<|Ag<|Zn [0,4,5,8,10,18,19] ?_;refine Zx<|Zq<|Az (n:=20) (0::0::3::0::0::16::56::0::0::256::896::2040::0::4096::0::16384::61440::131064::262143::524287::[]) 6 Ao8 Ao8 V<|An9 0 V (AP Y)<|An9 3 V (AP Y)<|An9 4 V (BP (j:=1) AY2 AX2 Y Y Ao7)<|Ao0 5 V Aa5 Y ?_;refine An9 6 V (Jq Y Y)<|An9 7 V (AP Y)<|An9 8 V (BP (j:=2) AY2 AX2 Y Y Ao7)<|Ao0 9 V Aa5 Y ?_;refine An9 10 V (Jq Y Y)<|An9 11 V (FB Y Y)<|An9 12 V (BP (j:=1) AY2 AX2 Y Y Ao7)<|Ao0 13 V Aa5 Y ?_;refine An9 14 V (BP (j:=2) AY2 AX2 Y Y Ao7)<|Ao0 15 V Aa5 Y ?_
  refine An9 16 V (Jq Y Y)<|An9 17 V (FB Y Y)<|Zz (l:=[1])<|Ao5 [true,true,true,true] [(15,(_,_)),(13,(_,_)),(9,(_,_)),(5,(_,_))] V rfl (Af (vs:=[_,_,_]) (cs:=[_,_,_]) AV0 AU1 AX6 Y V rfl V rfl V) ?hk_4 (fun _ _ h=>h.elim) ?hl_4
  case hk_4=>
   rintro _ _ ⟨b4,rfl,rfl⟩;refine ⟨Zk (Zk (Zk (Zk (AV)))),?_⟩;refine Yz 2 3 262143 [15,13,9,5] [true,true,true,true] [(15,(_,_)),(13,(_,_)),(9,(_,_)),(5,(_,_))] V Y V rfl V rfl (Zu [_,_] Y Am3 Y V (I1 _ [2,13,22] _ _ _ _ Ao9 Ao9)) ?_;rintro _ _ ⟨rfl,rfl⟩;refine ⟨Zk (Zk (Zk (Zk (AV)))),?_⟩;refine An9 18 V (DN Y Y)<|An9 19 V (Aq Y)<|Ag<|Zn [0,4,5,10,11,18,19] ?_;refine Zx<|Zq<|Az (n:=3) (0::0::3::[]) 4 Ao8 Ao8 V<|An9 0 V (PR (l:=1) AY2 AX2 Y Y Ao7)<|An9 1 V (Rv (h:=7) AY2 AX2 Y Y Ao7)<|Yw 2 7 V (vU (cs:=[_,_,_,_,_,_,_]) (c':=#[_,_,_,_,_,_,_,_]) underlying434 AX2 Y Y Wh Wu Ap1 Ap1 Ap1 (by exact zh 8) (BF _) (by simp [Value.oneCell',Ch])) ?_;rintro _ _ ⟨rfl,rfl⟩;refine Ag<|Zx<|Zg<|Zm Y<|Zm Y<|Zv (DN Y Y)<|Bq (BP (j:=4) AY2 AX2 Y Y Ao7)<|Zl Aa5 Y ?_;refine Zm Y<|Zv (DN Y Y)<|Bq (BP (j:=0) AY2 AX2 Y Y Ao7)<|Xe (Zs AX2 Y Y V) ?_;refine Bq (BP (j:=4) AY2 AX2 Y Y Ao7)<|Xe (Zs AX2 Y Y V (hc:=by exact (ZV x k ws v hx))) ?_;refine Z0<|Zn [0,4,5,18,19] ?_;refine A9<|Zx<|Zg<|Ya (n:=1) Y Y<|Zm Y<|Z0<|Zn [19,0,4,5,18] ?_;refine Ad (e':=[(19,_)]) (by exact ⟨k+1,V,by omega,V,V⟩)
  exact Ae
 refine BG<|Zt<|Zt<|AX<|Zx<|Zq<|Zg<|Zm Y<|Z0<|Zx<|AO ?_;have ek:k=64:=by omega
 subst ek;refine Zb [82,0,5] ?_;refine BI (e0:=[(82,_)]) (fun m e H=>∃i:Nat,m=8 -i/\(i<=8)/\e=[(82,I4 (i:Int))]/\H=[[(hp,.cells ((Ur v x i).map Ch).toArray Th (0,0))]]) (by exact ⟨0,V,zT _,V,V⟩) Wp ?_;rintro _ _ _ ⟨i,rfl,hi,rfl,rfl⟩;refine Zq<|Zg<|Zv (Au (n:=8) Y Y)<|Z0<|Zx<|Zq<|Aw Y (fun hc2=>?_) (fun hc2=>?_)
 ·
  refine AJ<|Zx<|Zq<|AO<|Zq<|Zg<|Zm Y<|Za Y<|Z0<|Zx<|Az (n:=12) (0::0::1::7::15::0::32::96::255::1::1023::2047::[]) 2048 Ao8 Ao8 rfl<|An9 0 rfl (AP Y)<|An9 1 rfl (AP Y)<|An9 2 rfl (Am Y rfl)<|An9 3 rfl (BP AY2 AX2 Y Y (by first|omega|(rw [AA6,zH,M7 _ _ _ Ao7];omega)))<|Ao0 4 rfl Aa5 Y (hv:=by exact jZ _ _ i Ao7) ?_;refine An9 5 rfl (AP Y)<|An9 6 rfl (BP AY2 AX2 Y Y (by first|omega|(rw [AA6,zH,M7 _ _ _ Ao7];omega)))<|Ao0 7 rfl Aa5 Y (hv:=by exact lC _ i Ao7) ?_;refine An9 8 rfl (DN Y Y)<|An9 9 rfl (Am Y rfl)<|An9 10 rfl (BP AY2 AX2 Y Y (by first|omega|(rw [AA6,zH,M7 _ _ _ Ao7];omega)))<|Yw 11 4095 rfl (Zs AX2 Y Y rfl (hc:=by exact jY _ _ i Ao7) (hi:=by(rw [AA6,zH,M7 _ _ _ Ao7];omega))) ?_;rintro _ _ ⟨rfl,rfl⟩;refine Ag<|Zn [0,5,82] ?_;refine A9<|Zx<|Zg<|Ya (n:=1) Y Y<|Zm Y<|Z0<|Zn [82,0,5] ?_;refine Ad (e':=[(82,_)]) (by exact ⟨i+1,V,by omega,V,V⟩)
 have ei:i=8:=by omega
 subst ei;rw [<-hx];refine BG<|Zt<|Zt<|AX<|Cj V results305 (by exact ⟨V,V⟩)
def Rt(N:Nat)(l:List UInt8):Array Value:=(l.map u8v++List.replicate (N -l.length) (Value.int .u8 0)).toArray
theorem nA(N:Nat)(l:List UInt8)(x:UInt8)(k:Nat)(hk:k=l.length)(h:l.length<N):(Rt N l).setIfInBounds k (.int .u8 (x.toNat:Int))=Rt N (l++[x]):=by
 subst hk;unfold Rt;rw [AN1];congr 1;rw [AM9 _ _ Ap0];simp only [zH,AL5,zG,ze,AF4];obtain ⟨n,hn⟩:∃n,N -l.length=n+1:=⟨N -1 -l.length,by omega⟩;rw [hn,show N -(l.length+(0+1))=n by omega];simp [List.replicate_succ,u8v]
theorem Ud(N:Nat)(l:List UInt8)(h:l.length<=N):(Rt N l).size=N:=by simp [Rt];omega
theorem iP(N:Nat)(l:List UInt8)(h:l.length=N):(Rt N l).toList=l.map u8v:=by simp [Rt,h]
def QP(v:V8)(i k:Nat):List UInt8:=(v.list.take i).flatMap OG++(OG (v.list.getD i 0)).take k
theorem OE(v:V8)(i k:Nat)(hi:i<8)(hk:k<=4):(QP v i k).length=4*i+k:=by
 have:i=0\/i=1\/i=2\/i=3\/i=4\/i=5\/i=6\/i=7:=by omega
 rcases this with rfl|rfl|rfl|rfl|rfl|rfl|rfl|rfl<;>simp [QP,V8.list,OG]<;>omega
theorem iV(v:V8)(i:Nat)(hi:i<8):QP v (i+1) 0=QP v i 4:=by
 have:i=0\/i=1\/i=2\/i=3\/i=4\/i=5\/i=6\/i=7:=by omega
 rcases this with rfl|rfl|rfl|rfl|rfl|rfl|rfl|rfl<;>rfl
theorem iU(v:V8)(i k:Nat)(hk:k<4):QP v i (k+1)=QP v i k++[((v.list.getD i 0)>>>UInt32.ofNat (24 -8*k)).toUInt8]:=by
 have:k=0\/k=1\/k=2\/k=3:=by omega
 unfold QP;generalize v.list.getD i 0=x;rcases this with rfl|rfl|rfl|rfl
 · simp [OG]
 · simp [OG]
 · simp [OG]
 · have e:x>>>UInt32.ofNat (24 -8*3)=x:=by
    apply UInt32.toNat_inj.1;simp [UInt32.toNat_shiftRight]
   rw [e];simp [OG]
theorem eU(v:V8):QP v 8 0=nN v:=rfl
theorem l6(y:V8)(i:Nat)(h:i<8):(v8c y)[i*1]?=some (Ch (y.list.getD i 0)):=by rw [AK7];exact lC y i h
theorem Yj(v:V8):BJ Tryz.prog 306 #[.agg (v8c v)] [] (.string (str (nN v))):=by
 refine Se func306 ntmps306 [0] ?_;intro u R;refine Zq<|Zg<|Ze (EX Y (cs:=(v8c v)) Ao8) ?_;rintro _ _ ⟨b1,rfl,rfl⟩;refine Za Y<|Z0<|Zx<|Zq<|Zg<|Ze (EB zeroValue426 (cs:=(Rt 32 [])) Ao8) ?_;rintro _ _ ⟨bo,rfl,rfl⟩;refine Z0<|Zx<|Zq<|Zq<|Zg<|Zo Wh (AA (cs:=v8c v) isAgg406 sizeOf406 Y (by exact zh _) (by exact I8 _ _ V)) ?_;refine Zm Y<|Z0<|Zx<|AO<|Zb [8,3,7] ?_;refine BI (e0:=[(8,_)]) (fun m e H=>∃i:Nat,m=8 -i/\(i<=8)/\e=[(8,I4 (i:Int))]/\H=[[(bo,.cells (Rt 32 (QP v i 0)) 426 (0,0))]]) (by exact ⟨0,V,zT _,V,V⟩) Wp ?_;rintro _ _ _ ⟨i,rfl,hi,rfl,rfl⟩;refine Zq<|Zg<|Zv (Au (n:=8) Y Y)<|Z0<|Zx<|Zq<|Aw Y (fun hc1=>?_) (fun hc1=>?_)
 ·
  refine AJ<|Zx<|Zq<|AO<|Zq<|Zg<|Zm Y<|Zv (Q5 AY2 Aa5 AX2 Y Y Ao7 (by exact l6 v i Ao7))<|Za Y<|Za Y<|Z0<|Zx<|Zq<|Zg<|Zm Y<|Z0<|Zx<|AO<|Zb [12,3,4,5,7,8] ?_;refine BI (e0:=[(12,_)]) (fun m e H=>∃k:Nat,m=4 -k/\(k<=4)/\e=[(12,I4 (k:Int))]/\H=[[(bo,.cells (Rt 32 (QP v i k)) 426 (0,0))]]) (by exact ⟨0,V,zT _,V,V⟩) Wp ?_;rintro _ _ _ ⟨k,rfl,hk,rfl,rfl⟩;refine Zq<|Zg<|Zv (Au (n:=4) Y Y)<|Z0<|Zx<|Zq<|Aw Y (fun hc2=>?_) (fun hc2=>?_)
  ·
   refine AJ<|Zx<|Zq<|AO<|Zq<|Zg<|Zm Y<|Za Y<|Z0<|Zx<|Zg<|Zm Y<|Bq (FZ (m:=4) Y Y Ao7)<|Zm Y<|Ya Y Y<|Zm Y<|Zm Y<|Bq (FZ (m:=8) Y Y Ao7)<|Yb (m:=24) Y Y ?_;refine Bq (M0 Y Y Ao7)<|Zv (Tj Aa6 Aa0 Y)<|Bq (BP underlying426 Ad5 Y Y (by first|omega|(rw [Ud _ _ (by rw [OE _ _ _ Ao7 Ao7];omega)];omega)))<|Xe (Zs Ad5 Y Y rfl (hc:=by exact (nA 32 (QP v i k) _ _ (by rw [OE _ _ _ Ao7 Ao7]) (by rw [OE _ _ _ Ao7 Ao7];omega)).trans (congrArg (Rt 32) (iU v i k Ao7).symm)) (hi:=by(rw [Ud _ _ (by rw [OE _ _ _ Ao7 Ao7];omega)];omega))) ?_;refine Z0<|Zn [3,4,5,7,8,12] ?_;refine A9<|Zx<|Zg<|Ya (n:=1) Y Y<|Zm Y<|Z0<|Zn [12,3,4,5,7,8] ?_;refine Ad (e':=[(12,_)]) (by exact ⟨k+1,V,by omega,V,V⟩)
  have ek:k=4:=by omega
  subst ek;refine BG<|Zt<|Zt<|AX<|A9<|Zx<|Zg<|Ya (n:=1) Y Y<|Zm Y<|Z0<|Zn [8,3,7] ?_;refine Ad (e':=[(8,_)]) (by exact ⟨i+1,rfl,by omega,rfl,by rw [iV v i Ao7]⟩)
 have ei:i=8:=by omega
 subst ei;refine BG<|Zt<|Zt<|AX<|Zx<|Zq<|Zg<|Zv (IE underlying426 Ad5 Y)<|Zo Wh (Jp AW9 Aa0 AW6 Y (by exact ⟨(by rw [iP 32 (QP v 8 0) (by rw [eU];rfl)];exact AB6 (by rw [AI5,zH,eU];exact zh 32)),rfl⟩)) ?_;refine Za Y<|Z0<|Zx<|AC<|AL V results306 Y (by exact ⟨V,V⟩)
def Pk(g j:Nat):Value:= .slice (some ⟨g,64*j,none⟩) 64 64
theorem qE(g k M:Nat)(h:k<M):Value.slice (some ⟨g,0+64*k*1,none⟩) (64*k+min 64 (64*M -64*k) -64*k) (64*k+min 64 (64*M -64*k) -64*k)=Pk g k:=by
 have h1:64*k+min 64 (64*M -64*k) -64*k=64:=by omega
 have h2:0+64*k*1=64*k:=by omega
 rw [h1,h2];rfl
theorem XM(M k:Nat)(h:k<M):List.range M=List.range k++k::(List.range' (k+1) (M -k -1)):=by
 rw [AQ5,AQ5,<-AS8];rw [show M -k -1+1=M -k by omega];have:=List.range'_append_1 (s:=0) (m:=k) (n:=M -k)
 rw [show 0+k=k by omega,show k+(M -k)=M by omega]at this;exact this.symm
theorem dO(g cap M:Nat)(bs bn:Nat)(hM:64*M<=cap)(hc:cap<=maxLen):
 TQ Tryz.prog 332 #[I5 bs,I5 bn] [[(bs,.cells #[I6 g (64*M) cap] 97 (0,0))],[(bn,.cells #[I4 64] 3 (0,0))]] (fun j=>#[Pk g j]) (List.range M):=by
 have hml:=mL;intro l J hy s hJ;refine Se func332 ntmps332 [0,1,2] ?_;intro u R;refine Zq<|Zg<|Za Y<|Z0<|Zx<|AO<|Zb [4,0,1,2] ?_;refine BI (e0:=[(4,_)]) (fun m e H=>∃(k:Nat) (s:List A8),m=M -k/\(k<=M/\J (List.range k) s)/\e=[(4,I4 ((64*k:Nat):Int))]/\H=[s]) (by exact ⟨0,s,V,⟨zT _,hJ⟩,V,V⟩) Wp ?_;rintro _ _ _ ⟨k,s,rfl,⟨hk,hJ⟩,rfl,rfl⟩;refine Zq<|Zq<|Zg<|Zm Y<|Zl Ah2 Y ?_;refine Zv (Aa AW9 Y)<|Zv (Au Y Y)<|Z0<|Zx<|Aw Y (fun hc1=>?_) (fun hc1=>?_)
 ·
  refine AJ<|Zx<|Zq<|AO<|Zq<|Az (n:=7) (0::0::0::6::14::31::63::[]) 0 Ao8 Ao8 V<|Ao0 0 V AU2 Y ?_;refine Ao0 1 V Ah2 Y ?_;refine An9 2 V (AP Y)<|An9 3 V (CR AW9 Ad5 Y Y Ao7)<|An9 4 V (Aa AW9 Y)<|An9 5 V (PU Y Y)<|An9 6 V (Aq Y)<|Ag<|Zx<|Zq ?_;have hyk:=hy (List.range k) k _ s (XM M k Ao7) hJ
  rw [<-AO6]at hyk;rw [show(fun j=>#[Pk g j]) k=#[Pk g k] from rfl,<-qE g k M Ao7]at hyk;refine Zg<|Zm Y<|Zl Ah2 Y ?_;refine Zm Y<|Zm Y<|Zm Y<|Ya Y Y<|Zm Y<|Zm Y<|Ya Y Y ?_
  (refine Bq (Ru AW9 Ad5 Y Y Y Y ?_ ?_) ?_;(focus ((simp only [Nat.min_def];split<;>omega)));(focus (omega)))
  refine Ze (Fz (vs:=[_]) Y Y (hyk) Wp) ?_;rintro _ _ ⟨_,⟨s',rfl,rfl,hJ'⟩,rfl⟩;refine Zv (Br Y)<|Z0<|Zn [0,1,2,4,30] ?_;refine Zx<|AR Y (fun hb=>?_) (fun hb=>?_)
  ·
   cases hb
  refine AJ<|A9<|Zx<|Zg<|Zm Y<|Zl AU2 Y ?_;refine Yi Y Y<|Za Y<|Z0<|Zn [4,0,1,2] ?_;refine Ad (e':=[(4,_)]) (by exact ⟨k+1,s',V,⟨by omega,hJ'⟩,V,V⟩)
 have ek:k=M:=by omega
 subst ek;refine BG<|Zt<|Zt<|AX<|Cj V results332 (by exact ⟨s,V,hJ⟩)
theorem dN(p:Option Addr)(n cap:Nat):BR Tryz.prog 304 #[.slice p n cap,I4 64] [] (fun r H'=>∃bs bn,r= .func (.func 332) #[] #[I5 bs,I5 bn]/\H'=[[(bs,.cells #[.slice p n cap] 97 (0,0))],[(bn,.cells #[I4 64] 3 (0,0))]]):=by
 refine Se func304 ntmps304 [0,1] ?_;intro u R;refine Zq<|Zg<|Ze (Bx #[_]) ?_;rintro _ _ ⟨b1,rfl,rfl⟩;refine Ze (Bx #[_]) ?_;rintro _ _ ⟨b2,rfl,rfl⟩;refine Za Y<|Z0<|Zx<|Zq<|Zq<|Zg<|Zl AU2 Y ?_;refine Zv (Au (n:=1) Y Y)<|Z0<|Zx<|Aw Y (fun hc1=>?_) (fun hc1=>?_)
 ·
  exact absurd hc1 Ao9
 refine AJ<|Zx<|Zq<|Zg<|Zv (Bb (vs:=[]) (us:=[_,_]) Y Y)<|Za Y<|Z0<|Zx<|AC<|AL V results304 Y (by exact ⟨b1,b2,V,V⟩)
theorem QH:∀(n:Nat) (h:V8) (b:List UInt8),J4 (n+1) h b=WO (J4 n h b) ((b.drop (64*n)).take 64)
 |0,h,b=>by simp [J4]
 |n+1,h,b=>by
  rw [J4,QH n,J4,AL0];rw [show 64+64*n=64*(n+1) by omega]
def QO(l:List UInt8)(k:Nat):List UInt8:=l++[128]++List.replicate k 0
theorem LK(l:List UInt8)(k:Nat):(QO l k).length=l.length+1+k:=by simp [QO];omega
theorem iM(l:List UInt8)(k:Nat):(QO l k).map u8v++[.int .u8 0]=(QO l (k+1)).map u8v:=by
 unfold QO;rw [List.replicate_succ'];simp [u8v]
def Tc(l:List UInt8)(j:Nat):List UInt8:=QO l (Kj l.length)++(QR l.length).take j
theorem iN(l:List UInt8):Tc l 0=QO l (Kj l.length):=by simp [Tc]
theorem Uc(l:List UInt8):Tc l 8=GU l:=by
 have:(QR l.length).take 8=QR l.length:=AB6 (by simp [QR]);simp [Tc,QO,GU,this]
theorem oF(n j:Nat)(h:j<8):(QR n).take (j+1)=(QR n).take j++[UInt8.ofNat (8*n/2^(8*(7 -j)))]:=by
 rw [AL7 (by simp [QR];omega)];simp [QR]
theorem iO(l:List UInt8)(j q:Nat)(h:q+j=7):(Tc l j).map u8v++[.int .u8 ((UInt8.ofNat (8*l.length/2^(8*q))).toNat:Int)]=(Tc l (j+1)).map u8v:=by
 unfold Tc;rw [oF _ _ Ao7,show 7 -j=q by omega];simp [u8v]
theorem XZ(l:List UInt8)(j:Nat)(h:j<=8):(Tc l j).length=l.length+1+Kj l.length+j:=by
 have:(QR l.length).length=8:=by simp [QR]
 simp [Tc,LK,this];omega
theorem tN(m:Nat):IntKind.u8.wrap (m:Int)=((UInt8.ofNat m).toNat:Int):=by
 rw [IntKind.wrap_u8',UInt8.toNat_ofNat'];omega
theorem rF(n k:Nat)(hk:k<=Kj n)(h:(n+1+k)%64≠56):k<Kj n:=by
 have:=di n;rcases AB1 k (Kj n)with h1|h1
 · exact h1
 · have:k=Kj n:=by omega
   subst this;contradiction
theorem rG(n k:Nat)(hk:k<=Kj n)(h:(n+1+k)%64=56):k=Kj n:=by
 unfold Kj at hk⊢;omega
theorem iD{M x:Nat}{pre post:List Nat}(h:List.range M=pre++x::post):x=pre.length/\x<M:=by
 have h1:(List.range M)[pre.length]?=some x:=by rw [h];simp
 have hlt:pre.length<M:=by
  have:=(zF.1 h1).1;simpa using this
 rw [AH5 hlt]at h1;have:=AG5 h1
 omega
theorem Yt{cur:Array Value}{p:List UInt8}(h:cur.toList.take (p.map u8v).length=p.map u8v)(k:Nat)(hk:64*k+64<=p.length):MN cur (64*k) ((p.drop (64*k)).take 64):=by
 unfold MN;have hl:((p.drop (64*k)).take 64).length=64:=by simp;omega
 rw [hl,List.map_take,AQ3,<-h];rw [AP2,AJ5];congr 1;simp;omega
theorem sF(l:List UInt8)(M:Nat)(h:(GU l).length=64*M):sha l=nN (J4 M h0 (GU l)):=by
 unfold sha;rw [h,Nat.mul_div_cancel_left _ Ao7]
theorem lI(s:ByteArray)(hs:s.size<=140737488355000)(Tg:TypeId)(zg:Nat×Nat):
 BJ Tryz.prog 278 #[.string s] [[(4,.cells (EW.map Ch).toArray Tg zg)]] (.string (str (sha s.data.toList))):=by
 have hml:=mL;obtain ⟨l,hl⟩:∃l,l=s.data.toList:=⟨_,rfl⟩;have hn:l.length=s.size:=by rw [hl];rfl
 have hz:Kj s.size<64:=by unfold Kj;omega
 refine Cz func278 V ntmps278 V ?_;intro u R;refine Zb [0] ?_;refine Zq<|Zg<|Za Y<|Z0<|Zx<|Zq<|Zg<|Zv (BL (vs:=[(0,_),(1,_),(2,_),(3,_),(4,_),(5,_),(6,_),(7,_)]) (cs:=#[_,_,_,_,_,_,_,_]) Y (Dn zeroValue406 AY2 AX2 V))<|Ze (Al zeroValue406 #[_,_,_,_,_,_,_,_]) ?_;rintro _ _ ⟨bh,rfl,rfl⟩;refine Xe (BK sizeOf406 Y Y (by exact dn h0) Wu (by exact (rfl:_=v8c (J4 0 h0 (GU l)))) Ap3 Wn (by exact BF _)) ?_;refine Z0<|Zx<|Zq<|Zg<|Zm Y<|Ze (rV AW6 AW9 Aa0 Y Ao7) ?_;rintro _ _ ⟨sa,hra,rfl⟩;obtain ⟨ga,ca,rfl⟩:=hra.form;refine Ze (Af (vs:=[_]) (cs:=[_]) AW9 Ad5 Ac8 Y V rfl V rfl V) ?_;rintro _ _ ⟨b3,rfl,rfl⟩;refine Ze (EF (by_:=1) (news:=[_]) AW9 (V:Tryz.prog.info? 5=some Tryz.t5) V rfl V rfl Y hra Y Wo Wh Ap1 V Ap5 Ao9 (by(simp only [zH,<-hl,hn];omega)) (by(simp only [zH,<-hl,hn];omega))) ?_;rintro _ _ ⟨sb,hrb,rfl⟩;obtain ⟨gb,cb,rfl⟩:=hrb.form;refine Za Y<|Z0<|Zx<|Zq<|AO ?_;have hr0:Row 5 (.slice gb (List.map u8v s.data.toList++[Value.int IntKind.u8 128]).length cb) ((QO l 0).map u8v) sb:=by
  have e:(QO l 0).map u8v=List.map u8v s.data.toList++[Value.int IntKind.u8 128]:=by rw [<-hl];simp [QO,u8v]
  rw [e];exact hrb
 refine Zb [4,0,3] ?_;refine BI (e0:=[(4,_)]) (fun m e H=>∃(k:Nat) (v:Value) (sv:List A8),m=Kj s.size -k/\(k<=Kj s.size/\Row 5 v ((QO l k).map u8v) sv)/\e=[(4,v)]/\H=[sv]) (by exact ⟨0,_,_,V,⟨zT _,hr0⟩,V,V⟩) Wp ?_;rintro _ _ _ ⟨k,v,sv,rfl,⟨hk,hrv⟩,rfl,rfl⟩;obtain ⟨gv,cv,rfl⟩:=hrv.form;refine Zq<|Zq<|Zg<|Zm Y<|Zv (Aa AW9 Y)<|Bq (iQ (n:=64) Y Y Ao7)<|Zv (Eh (n:=56) Y Y)<|Z0<|Zx<|Aw Y (fun hlen=>?_) (fun hlen=>?_)
 ·
  rw [zH,LK,hn]at hlen;have hk2:=rF _ _ hk hlen
  refine AJ<|Zx<|AO<|Zg<|Zm Y<|Ze (Af (vs:=[_]) (cs:=[_]) AW9 Ad5 Ac8 Y V rfl V rfl V) ?_;rintro _ _ ⟨b5,rfl,rfl⟩;refine Ze (EF (by_:=1) (news:=[_]) AW9 (V:Tryz.prog.info? 5=some Tryz.t5) V rfl V rfl Y hrv Y Wo Wh Ap1 V Ap5 Ao9 (by(simp only [zH,LK,hn];omega)) (by(simp only [zH,LK,hn];omega))) ?_;rintro _ _ ⟨sc,hrc,rfl⟩;obtain ⟨gc,cc,rfl⟩:=hrc.form;refine Za Y<|Z0<|A9<|Zn [4,0,3] ?_;refine Ad (e':=[(4,_)]) (by exact ⟨k+1,_,_,rfl,⟨hk2,by rw [<-iM];exact hrc⟩,rfl,rfl⟩)
 rw [zH,LK,hn]at hlen;have ek:=rG _ _ hk Ao7
 subst ek;refine BG<|Zt<|Zt<|AX<|Zx<|Zq<|Zq<|Zg<|Za Y<|Z0<|Zx<|AO<|Zb [4,5,0,3] ?_;refine BI (e0:=[(4,_),(5,_)]) (fun m e H=>∃(j:Nat) (i:Int) (v:Value) (sv:List A8),m=8 -j/\(j<=8/\i=7 -(j:Int)/\Row 5 v ((Tc l j).map u8v) sv)/\e=[(4,v),(5,I4 i)]/\H=[sv]) (by exact ⟨0,_,_,_,rfl,⟨zT _,rfl,by rw [iN,hn];exact hrv⟩,rfl,rfl⟩) Wp ?_;rintro _ _ _ ⟨j,i,v,sv,rfl,⟨hj,hi,hrv⟩,rfl,rfl⟩;obtain ⟨gv,cv,rfl⟩:=hrv.form;refine Zq<|Zq<|Zg<|Zm Y<|Zv (Iq Y Y)<|Z0<|Zx<|Aw Y (fun hi0=>?_) (fun hi0=>?_)
 ·
  obtain ⟨q,rfl⟩:=Int.eq_ofNat_of_zero_le hi0;refine AJ<|Zx<|Zq<|AO<|Zg<|Zm Y<|Zm Y<|Zv (PW AW6 Y)<|Bq (FZ (m:=8) Y Y Ao7)<|Zm Y<|Bq (FZ (m:=8) Y Y Ao7)<|Bq (PS Y Y (by first|decide|(simp [IntKind.bits];done)|(simp [IntKind.bits];omega)))<|KH (EU AV3 Aa0 Y (tN _)) rfl rfl ?_;refine Ze (Af (vs:=[_]) (cs:=[_]) AW9 Ad5 Ac8 Y V rfl V rfl V) ?_;rintro _ _ ⟨b7,rfl,rfl⟩;refine Ze (EF (by_:=1) (news:=[_]) AW9 (V:Tryz.prog.info? 5=some Tryz.t5) V rfl V rfl Y hrv Y Wo Wh Ap1 V Ap5 Ao9 (by(simp only [zH,XZ l j hj,hn];omega)) (by(simp only [zH,XZ l j hj,hn];omega))) ?_;rintro _ _ ⟨sd,hrd,rfl⟩;obtain ⟨gd,cd,rfl⟩:=hrd.form;refine Za Y<|Z0<|Zn [0,3,4,5] ?_;refine A9<|Zx<|Zg<|Zm Y ?_
  (refine Bq (Hz Y Y (IntWalk.i64_in _ ?_)) ?_;(focus (omega)))
  refine Za Y<|Z0<|Zn [4,5,0,3] ?_;refine Ad (e':=[(4,_),(5,_)]) (by exact ⟨j+1,_,_,_,rfl,⟨by omega,by omega,by rw [<-iO l j q Ao7,hn];exact hrd⟩,rfl,rfl⟩)
 have ej:j=8:=by omega
 subst ej;refine BG<|Zt<|Zt<|AX<|Zx<|Zq<|Zq ?_;rw [Uc]at hrv;obtain ⟨M,hM⟩:∃M,(GU l).length=64*M:=⟨(GU l).length/64,by have:=av l;omega⟩;have hpl:=Rs l
 rw [hn]at hpl;rw [Uc];obtain ⟨g,cap,cur,z,hv,rfl,hle,hcm,hcs,htk,hfr⟩:=hrv.some (by rw [zH];omega);simp only [Value.slice.injEq]at hv;obtain ⟨rfl,_,rfl⟩:=hv;rw [zH]at hle;rw [zH,hM];refine Zg<|Zm Y<|Zc [_,_] Y call304 Y V (dN _ _ _) ?_;rintro _ _ ⟨_,⟨bs,bn,rfl,rfl⟩,rfl⟩;refine Z0<|Zx<|AO<|Zb [3,34] ?_;refine QK (H0:=_) (R:=_) (I:=(fun pre H=>H=[[(bh,.cells (v8c (J4 pre.length h0 (GU l))) 406 (0,0))],[(g,.cells cur 5 z)],[(4,.cells (EW.map Ch).toArray Tg zg)]])) (asg:=fun x=>[(6,Pk g x),(35,Pk g x)]) V Y call332 (dO g cv M bs bn Ao7 hcm) Y V Wp (V) ?ha_6 ?hbd_6 ?hk_6
 case ha_6=>
  intro _ x _ _;refine Zg<|Za Y<|Z0 ?_;exact nS
 case hbd_6=>
  intro l pre x post u H1 R1 hxs hI;subst hI;obtain ⟨hx1,hx2⟩:=iD hxs;subst hx1;refine AO<|Zg<|Zm Y<|Zc [_,_] Y call305 Y rfl (qW _ _ _ _ _ _ _ _ (by rw [zN,zO];omega) (Yt htk _ Ao7) _ _ _ _) ?_;rintro _ _ ⟨_,⟨rfl,rfl⟩,rfl⟩;refine Z0<|A9<|Ej rfl (by rw [zG,zU,QH])
 intro D1 H2 hI2;subst hI2;refine Zn [3] ?_;refine A9<|Zx<|Zq<|Zg<|Zo Wh (AA (cs:=v8c (J4 M h0 (GU l))) isAgg406 sizeOf406 Y Wn (by rw [AJ4];exact I8 _ _ rfl)) ?_;refine Xr [_] Y call306 Y V (Yj _) ?_;refine Za Y<|Z0<|Zx<|AC<|Fq rfl (aN results278 Y) Wo (by exact ⟨by rw [<-hl,sF l M hM],rfl⟩)
end Go.Proofs.YteaiajghbkenoaaGreatDoor
namespace Go.Proofs
open Go.Shelf
def Tryz.lays156_ren:Go.Shelf.Ren:=⟨fun|156=>331|165=>344|166=>36|169=>40|240=>86|241=>349|276=>155|277=>350|n=>n,fun|31=>45|9=>9|3=>3|4=>4|0=>0|20=>20|72=>99|76=>102|70=>96|37=>97|75=>101|127=>173|164=>236|5=>5|80=>111|n=>n,fun|n=>n⟩
theorem Tryz.lays156:Go.Proofs.Lays.n156 Tryz.prog Tryz.lays156_ren:={
 mixed:=by kernel_rfl
 f156:=func331.trans (congrArg some Ao8)
 f165:=func344.trans (congrArg some Ao8)
 f166:=func36.trans (congrArg some Ao8)
 f169:=func40.trans (congrArg some Ao8)
 f240:=func86.trans (congrArg some Ao8)
 f241:=func349.trans (congrArg some Ao8)
 f276:=func155.trans (congrArg some Ao8)
 f277:=func350.trans (congrArg some Ao8)
 t0:=Ag3
 a0:=isAgg0
 z0:=sizeOf0
 v0:=Ah9
 t3:=AV3
 a3:=AU2
 z3:=AU1
 v3:=AX6
 t4:=AZ3
 a4:=Ab8
 z4:=AX8
 v4:=Ae9
 t9:=AW6
 a9:=Af1
 z9:=AY6
 v9:=AY5
 t20:=underlying20
 a20:=isAgg20
 z20:=sizeOf20
 v20:=zeroValue20
 t31:=AV1
 a31:=Ae3
 z31:=Aa1
 v31:=Ad6
 t37:=AW9
 a37:=Ah2
 z37:=Af0
 v37:=zeroValue97
 t70:=Ag5
 a70:=isAgg96
 z70:=sizeOf96
 v70:=zeroValue96
 t72:=Aa8
 a72:=isAgg99
 z72:=sizeOf99
 v72:=zeroValue99
 t75:=underlying101
 a75:=isAgg101
 z75:=sizeOf101
 v75:=zeroValue101
 t76:=underlying102
 a76:=isAgg102
 z76:=sizeOf102
 v76:=zeroValue102
 t127:=underlying173
 a127:=isAgg173
 z127:=sizeOf173
 v127:=zeroValue173
 t164:=underlying236
 a164:=isAgg236
 z164:=sizeOf236
 v164:=zeroValue236}
theorem Tryz.Builder_Extra_156:Builder.Extra Tryz.prog Tryz.lays156_ren:={
 sizeBuilder:=by kernel_rfl
 liesBuilder:=by kernel_rfl
 t5:=Aa0
 a5:=Am2
 z5:=Ad5
 v5:=Ac8
 infoByte:=by kernel_rfl
 cellsByte:=by kernel_rfl
 sizeByte:=by kernel_rfl
 neB5:=by decide}
open Go.RowKit in
theorem Tryz.strings_Join(bk o c:Nat)(xs:List ByteArray)(sep:ByteArray)(w:World)(hcells:∀(j:Nat) x,xs[j]?=some x->w.cell? ⟨bk,o+j,none⟩=some (.string x))(hbk:bk<w.heap.size)(hN:xs.length<=140737488355328)(hcap:xs.length<=c)(hlen:(Lib.join (xs.map (·.data.toList)) sep.data.toList).length<=140737488355328):
 Calls Tryz.prog 331 #[.slice (some ⟨bk,o,none⟩) xs.length c,.string sep] w fun e w'=>e= .returned (.string ⟨(Lib.join (xs.map (·.data.toList)) sep.data.toList).toArray⟩)/\Below w.heap.size w w':=Any.strings_Join Tryz.lays156 Tryz.Builder_Extra_156 bk o c xs sep w hcells hbk hN hcap hlen
def Tryz.lays125_ren:Go.Shelf.Ren:=⟨fun|125=>117|128=>199|129=>200|n=>n,fun|46=>222|3=>3|51=>300|53=>302|4=>4|5=>5|9=>9|n=>n,fun|n=>n⟩
theorem Tryz.lays125:Go.Proofs.Lays.n125 Tryz.prog Tryz.lays125_ren:={
 mixed:=by kernel_rfl
 f125:=func117.trans (congrArg some Ao8)
 f128:=func199.trans (congrArg some Ao8)
 f129:=func200.trans (congrArg some Ao8)
 t3:=AV3
 a3:=AU2
 z3:=AU1
 v3:=AX6
 t4:=AZ3
 a4:=Ab8
 z4:=AX8
 v4:=Ae9
 t5:=Aa0
 a5:=Am2
 z5:=Ad5
 v5:=Ac8
 t9:=AW6
 a9:=Af1
 z9:=AY6
 v9:=AY5
 t46:=Ac1
 a46:=isAgg222
 z46:=Ak4
 v46:=Ag6
 t51:=Aa6
 a51:=Aa5
 z51:=AX2
 v51:=Ag7
 t53:=Ac2
 a53:=Ai3
 z53:=Ai7
 v53:=Ag8}
theorem Tryz.bits_Len(x:Int)(w:World)(h0:0<=x)(h1:x<=18446744073709551615):
 Calls Tryz.prog 117 #[.int .u64 x] w fun e w'=>e= .returned (I4 (Lib.bitLen x.toNat))/\w'=w:=Any.bits_Len Tryz.lays125 x w h0 h1
def Tryz.lays122_ren:Go.Shelf.Ren:=⟨fun|122=>238|215=>281|n=>n,fun|3=>3|4=>4|n=>n,fun|n=>n⟩
theorem Tryz.lays122:Go.Proofs.Lays.n122 Tryz.prog Tryz.lays122_ren:={
 mixed:=by kernel_rfl
 f122:=func238.trans (congrArg some Ao8)
 f215:=func281.trans (congrArg some Ao8)
 t3:=AV3
 a3:=AU2
 z3:=AU1
 v3:=AX6
 t4:=AZ3
 a4:=Ab8
 z4:=AX8
 v4:=Ae9}
open Go.RowKit in
theorem Tryz.cmp_Compare_int(x y:Int)(w:World):
 Calls Tryz.prog 238 #[I4 x,I4 y] w fun e w'=>e= .returned (I4 (Lib.compareInt x y))/\w'=w:=Any.cmp_Compare_int Tryz.lays122 x y w
def Tryz.laysM171_ren:Go.Shelf.Ren:=⟨fun|171=>39|243=>87|246=>156|283=>213|284=>214|285=>215|286=>216|129=>200|317=>265|318=>266|319=>267|320=>268|337=>299|338=>300|n=>n,fun|3=>3|9=>9|2=>2|4=>4|171=>313|0=>0|53=>302|37=>97|5=>5|173=>315|212=>359|51=>300|20=>20|213=>360|46=>222|232=>426|233=>427|n=>n,fun|17=>1|18=>2|19=>3|n=>n⟩
theorem Tryz.laysM171:Go.Proofs.LaysM.n171 Tryz.prog Tryz.laysM171_ren:={
 mixed:=by kernel_rfl
 f129:=func200.trans (congrArg some Ao8)
 f171:=func39.trans (congrArg some Ao8)
 f243:=func87.trans (congrArg some Ao8)
 f246:=func156.trans (congrArg some Ao8)
 f283:=func213.trans (congrArg some Ao8)
 f284:=func214.trans (congrArg some Ao8)
 f285:=func215.trans (congrArg some Ao8)
 f286:=func216.trans (congrArg some Ao8)
 f317:=func265.trans (congrArg some Ao8)
 f318:=func266.trans (congrArg some Ao8)
 f319:=func267.trans (congrArg some Ao8)
 f320:=func268.trans (congrArg some Ao8)
 f337:=func299.trans (congrArg some Ao8)
 f338:=func300.trans (congrArg some Ao8)
 t0:=Ag3
 a0:=isAgg0
 z0:=sizeOf0
 v0:=Ah9
 t2:=underlying2
 a2:=isAgg2
 z2:=sizeOf2
 v2:=zeroValue2
 t3:=AV3
 a3:=AU2
 z3:=AU1
 v3:=AX6
 t4:=AZ3
 a4:=Ab8
 z4:=AX8
 v4:=Ae9
 t5:=Aa0
 a5:=Am2
 z5:=Ad5
 v5:=Ac8
 t9:=AW6
 a9:=Af1
 z9:=AY6
 v9:=AY5
 t20:=underlying20
 a20:=isAgg20
 z20:=sizeOf20
 v20:=zeroValue20
 t37:=AW9
 a37:=Ah2
 z37:=Af0
 v37:=zeroValue97
 t46:=Ac1
 a46:=isAgg222
 z46:=Ak4
 v46:=Ag6
 t51:=Aa6
 a51:=Aa5
 z51:=AX2
 v51:=Ag7
 t53:=Ac2
 a53:=Ai3
 z53:=Ai7
 v53:=Ag8
 t171:=underlying313
 a171:=isAgg313
 z171:=sizeOf313
 v171:=zeroValue313
 t173:=underlying315
 a173:=isAgg315
 z173:=sizeOf315
 v173:=zeroValue315
 t212:=underlying359
 a212:=isAgg359
 z212:=sizeOf359
 v212:=zeroValue359
 t213:=underlying360
 a213:=isAgg360
 z213:=sizeOf360
 t232:=underlying426
 a232:=isAgg426
 z232:=sizeOf426
 v232:=zeroValue426
 t233:=underlying427
 a233:=isAgg427
 z233:=sizeOf427
 v233:=zeroValue427
 g17:=by kernel_rfl
 g18:=by kernel_rfl
 g19:=by kernel_rfl
 i0:=by kernel_rfl
 i2:=by kernel_rfl
 i3:=by kernel_rfl
 i4:=by kernel_rfl
 i5:=by kernel_rfl
 i9:=by kernel_rfl
 i20:=by kernel_rfl
 i37:=by kernel_rfl
 i46:=by kernel_rfl
 i51:=by kernel_rfl
 i53:=by kernel_rfl
 i171:=by kernel_rfl
 i173:=by kernel_rfl
 i212:=by kernel_rfl
 i232:=by kernel_rfl
 i233:=by kernel_rfl
 m17:=by kernel_rfl
 m18:=by kernel_rfl
 m19:=by kernel_rfl}
open Go.RowKit Go.Sort Go.Lib in
theorem Tryz.strconv_Itoa(n:Int)(h0:-9223372036854775808≤n)(h1:n≤9223372036854775807)(w:World)(htab:Lib.TabIs Tryz.prog w "internal/strconv.uint64pow10" .u64 Lib.pow10Tab):
 Calls Tryz.prog 39 #[I4 n] w fun e w'=>e= .returned (.string ⟨(Lib.itoa n).toArray⟩)/\∃k os,w'=grow (w.drewN k) os:=Any.strconv_Itoa Tryz.laysM171 n h0 h1 w htab
def Tryz.lays189_ren:Go.Shelf.Ren:=⟨fun|189=>188|125=>117|257=>248|128=>199|129=>200|294=>284|295=>285|296=>286|297=>287|298=>288|299=>289|216=>290|300=>291|301=>292|328=>324|329=>250|330=>251|331=>325|332=>326|215=>281|343=>341|n=>n,fun|28=>36|3=>3|46=>222|0=>0|51=>300|53=>302|4=>4|183=>292|182=>291|131=>297|5=>5|9=>9|218=>348|222=>108|228=>385|229=>386|n=>n,fun|n=>n⟩
theorem Tryz.lays189:Go.Proofs.Lays.n189 Tryz.prog Tryz.lays189_ren:={
 mixed:=by kernel_rfl
 f125:=func117.trans (congrArg some Ao8)
 f128:=func199.trans (congrArg some Ao8)
 f129:=func200.trans (congrArg some Ao8)
 f189:=func188.trans (congrArg some Ao8)
 f215:=func281.trans (congrArg some Ao8)
 f216:=func290.trans (congrArg some Ao8)
 f257:=func248.trans (congrArg some Ao8)
 f294:=func284.trans (congrArg some Ao8)
 f295:=func285.trans (congrArg some Ao8)
 f296:=func286.trans (congrArg some Ao8)
 f297:=func287.trans (congrArg some Ao8)
 f298:=func288.trans (congrArg some Ao8)
 f299:=func289.trans (congrArg some Ao8)
 f300:=func291.trans (congrArg some Ao8)
 f301:=func292.trans (congrArg some Ao8)
 f328:=func324.trans (congrArg some Ao8)
 f329:=func250.trans (congrArg some Ao8)
 f330:=func251.trans (congrArg some Ao8)
 f331:=func325.trans (congrArg some Ao8)
 f332:=func326.trans (congrArg some Ao8)
 f343:=func341.trans (congrArg some Ao8)
 t0:=Ag3
 a0:=isAgg0
 z0:=sizeOf0
 v0:=Ah9
 t3:=AV3
 a3:=AU2
 z3:=AU1
 v3:=AX6
 t4:=AZ3
 a4:=Ab8
 z4:=AX8
 v4:=Ae9
 t5:=Aa0
 a5:=Am2
 z5:=Ad5
 v5:=Ac8
 t9:=AW6
 a9:=Af1
 z9:=AY6
 v9:=AY5
 t28:=AV0
 a28:=Am4
 z28:=Al8
 v28:=zeroValue36
 t46:=Ac1
 a46:=isAgg222
 z46:=Ak4
 v46:=Ag6
 t51:=Aa6
 a51:=Aa5
 z51:=AX2
 v51:=Ag7
 t53:=Ac2
 a53:=Ai3
 z53:=Ai7
 v53:=Ag8
 t131:=Aj2
 a131:=isAgg297
 z131:=sizeOf297
 v131:=Ak5
 t182:=Aj3
 a182:=isAgg291
 z182:=sizeOf291
 v182:=Ak6
 t183:=Aj4
 a183:=isAgg292
 z183:=sizeOf292
 v183:=Ak7
 t218:=Aj5
 a218:=isAgg348
 z218:=sizeOf348
 v218:=Ak8
 t222:=Aj6
 a222:=isAgg108
 z222:=Af2
 v222:=Ac9
 t228:=Aj7
 a228:=isAgg385
 z228:=sizeOf385
 v228:=Ak9
 t229:=Aj8
 a229:=isAgg386
 z229:=sizeOf386
 v229:=Al0}
open Go.Sort Go.RowKit in
theorem Tryz.slices_Sort_int(blk off cap:Nat)(zs:List Int)(w:World)(hH:Holds (Value.int .i64) w blk off zs.toArray)(hblk:blk<w.heap.size)(hsz:zs.length<4611686018427387904):
 Calls Tryz.prog 188 #[.slice (some ⟨blk,off,none⟩) zs.length cap] w fun e w'=>
  e= .returned (.tuple #[])/\∃n os,w'=grow (putRow (Value.int .i64) (Sort.ahead w n) blk off (zs.mergeSort fun x y=>decide (x<=y)).toArray) os:=Any.slices_Sort_int Tryz.lays189 blk off cap zs w hH hblk hsz
def Tryz.lays190_ren:Go.Shelf.Ren:=⟨fun|190=>58|125=>117|258=>116|128=>199|129=>200|302=>190|303=>191|304=>192|305=>193|306=>194|307=>195|308=>196|309=>197|310=>198|333=>249|329=>250|330=>251|334=>252|335=>253|336=>254|344=>293|n=>n,fun|31=>45|9=>9|3=>3|46=>222|0=>0|51=>300|53=>302|4=>4|183=>292|182=>291|131=>297|5=>5|218=>348|222=>108|228=>385|229=>386|n=>n,fun|n=>n⟩
theorem Tryz.lays190:Go.Proofs.Lays.n190 Tryz.prog Tryz.lays190_ren:={
 mixed:=by kernel_rfl
 f125:=func117.trans (congrArg some Ao8)
 f128:=func199.trans (congrArg some Ao8)
 f129:=func200.trans (congrArg some Ao8)
 f190:=func58.trans (congrArg some Ao8)
 f258:=func116.trans (congrArg some Ao8)
 f302:=func190.trans (congrArg some Ao8)
 f303:=func191.trans (congrArg some Ao8)
 f304:=func192.trans (congrArg some Ao8)
 f305:=func193.trans (congrArg some Ao8)
 f306:=func194.trans (congrArg some Ao8)
 f307:=func195.trans (congrArg some Ao8)
 f308:=func196.trans (congrArg some Ao8)
 f309:=func197.trans (congrArg some Ao8)
 f310:=func198.trans (congrArg some Ao8)
 f329:=func250.trans (congrArg some Ao8)
 f330:=func251.trans (congrArg some Ao8)
 f333:=func249.trans (congrArg some Ao8)
 f334:=func252.trans (congrArg some Ao8)
 f335:=func253.trans (congrArg some Ao8)
 f336:=func254.trans (congrArg some Ao8)
 f344:=func293.trans (congrArg some Ao8)
 t0:=Ag3
 a0:=isAgg0
 z0:=sizeOf0
 v0:=Ah9
 t3:=AV3
 a3:=AU2
 z3:=AU1
 v3:=AX6
 t4:=AZ3
 a4:=Ab8
 z4:=AX8
 v4:=Ae9
 t5:=Aa0
 a5:=Am2
 z5:=Ad5
 v5:=Ac8
 t9:=AW6
 a9:=Af1
 z9:=AY6
 v9:=AY5
 t31:=AV1
 a31:=Ae3
 z31:=Aa1
 v31:=Ad6
 t46:=Ac1
 a46:=isAgg222
 z46:=Ak4
 v46:=Ag6
 t51:=Aa6
 a51:=Aa5
 z51:=AX2
 v51:=Ag7
 t53:=Ac2
 a53:=Ai3
 z53:=Ai7
 v53:=Ag8
 t131:=Aj2
 a131:=isAgg297
 z131:=sizeOf297
 v131:=Ak5
 t182:=Aj3
 a182:=isAgg291
 z182:=sizeOf291
 v182:=Ak6
 t183:=Aj4
 a183:=isAgg292
 z183:=sizeOf292
 v183:=Ak7
 t218:=Aj5
 a218:=isAgg348
 z218:=sizeOf348
 v218:=Ak8
 t222:=Aj6
 a222:=isAgg108
 z222:=Af2
 v222:=Ac9
 t228:=Aj7
 a228:=isAgg385
 z228:=sizeOf385
 v228:=Ak9
 t229:=Aj8
 a229:=isAgg386
 z229:=sizeOf386
 v229:=Al0}
open Go.Sort Go.RowKit in
theorem Tryz.slices_Sort_string(blk off cap:Nat)(ss:List (List UInt8))(w:World)(hH:Holds encStr w blk off ss.toArray)(hblk:blk<w.heap.size)(hsz:ss.length<4611686018427387904):
 Calls Tryz.prog 58 #[.slice (some ⟨blk,off,none⟩) ss.length cap] w fun e w'=>
  e= .returned (.tuple #[])/\∃n os,w'=grow (putRow encStr (Sort.ahead w n) blk off (ss.mergeSort fun x y=>decide (x<=y)).toArray) os:=Any.slices_Sort_string Tryz.lays190 blk off cap ss w hH hblk hsz
def Tryz.laysNm217_ren:Go.Shelf.Ren:=⟨fun|17=>234|n=>n,fun|24=>45|9=>9|3=>3|4=>4|0=>0|n=>n,fun|n=>n⟩
theorem Tryz.laysNm217:Go.Proofs.Lays2.n17 Tryz.prog Tryz.laysNm217_ren:={
 mixed:=by kernel_rfl
 f17:=func234.trans (congrArg some Ao8)
 t0:=Ag3
 a0:=isAgg0
 z0:=sizeOf0
 v0:=Ah9
 t3:=AV3
 a3:=AU2
 z3:=AU1
 v3:=AX6
 t4:=AZ3
 a4:=Ab8
 z4:=AX8
 v4:=Ae9
 t9:=AW6
 a9:=Af1
 z9:=AY6
 v9:=AY5
 t24:=AV1
 a24:=Ae3
 z24:=Aa1
 v24:=Ad6}
open Go.RowKit Go.Lib Go.Sort in
theorem Tryz.slices_Reverse_string(blk off cap:Nat)(zs:List (List UInt8))(w:World)(hH:Holds encStr w blk off zs.toArray)(hsz:zs.length<=9223372036854775807):
 Calls Tryz.prog 234 #[.slice (some ⟨blk,off,none⟩) zs.length cap] w fun e w'=>e= .returned (.tuple #[])/\∃n,w'=putRow encStr (Sort.ahead w n) blk off zs.reverse.toArray:=Any.slices_Reverse_string Tryz.laysNm217 blk off cap zs w hH hsz
open Go.RowKit Go.Lib Go.Sort in
theorem Tryz.slices_Reverse_string_empty(a:Option Addr)(cap:Nat)(w:World):
 Calls Tryz.prog 234 #[.slice a 0 cap] w fun e w'=>e= .returned (.tuple #[])/\w'=w:=Any.slices_Reverse_string_empty Tryz.laysNm217 a cap w
open Go.RowKit Go.Sort in
theorem Tryz.slices_Sort_string_none(p:Option Addr)(cap:Nat)(w:World):
 Calls Tryz.prog 58 #[.slice p 0 cap] w fun e w'=>e= .returned (.tuple #[])/\w'=w:=Any.slices_Sort_string_none Tryz.lays190 p cap w
open Go.RowKit Go.Sort in
theorem Tryz.slices_Sort_int_none(p:Option Addr)(cap:Nat)(w:World):
 Calls Tryz.prog 188 #[.slice p 0 cap] w fun e w'=>e= .returned (.tuple #[])/\w'=w:=Any.slices_Sort_int_none Tryz.lays189 p cap w
end Go.Proofs
namespace Go.Proofs.YteaiajghbkenoaaGreatDoor
open Go.Proofs.Tryz
open Go Go.RowKit Gw
set_option maxRecDepth 100000
attribute [local irreducible] Gw.At Gw.Nx Gw.Ops
def Fh(l:List UInt8):Value:= .string (str l)
theorem Qf(a b:List UInt8):str a++str b=str (a++b):=by
 apply ByteArray.ext;simp [str]
theorem GQ(a:List UInt8):(str a).size=a.length:=by simp [str,ByteArray.size]
theorem R4(a:List UInt8):(str a).data.toList=a:=by simp [str]
theorem Y1(xs:List (List UInt8)):Lib.join xs []=xs.flatten:=by
 unfold Lib.join;induction xs with
 |nil=>rfl
 |cons x r ih=>cases r with
  |nil=>simp
  |cons y r=>rw [List.intercalate_cons_cons];rw [ih];simp
variable{o:Nat}
theorem uV{w:World}{b:Nat}{c:Array Value}{T:TypeId}{z:Nat×Nat}{cs:List Value}(hb:w.heap[b]?=some (.cells c T z))(h:CE c o cs)(j:Nat)(v:Value)(hj:cs[j]?=some v):w.cell? ⟨b,o+j,none⟩=some v:=by
 have:=J3 hb h j v hj;rcases AG3 j with rfl|h0
 · simpa [Addr.add]using this
 · simpa [Addr.add,Nat.ne_of_gt h0]using this
theorem jM(bk o cap:Nat)(cs:Array Value)(T:TypeId)(z:Nat×Nat)(xs:List (List UInt8))(hc:CE cs o (xs.map Fh))(hN:xs.length<=140737488355328)(hcap:xs.length<=cap)(hlen:xs.flatten.length<=140737488355328):
 BJ Tryz.prog 331 #[.slice (some ⟨bk,o,none⟩) xs.length cap,.string (str [])] [[(bk,.cells cs T z)]] (.string (str xs.flatten)):=
 R8 (Rl:=fun v=>v= .string (str xs.flatten)) (fun w hw=>by
  have hb:=hw (bk,.cells cs T z) Ap0;have h:=Tryz.strings_Join bk o cap (xs.map str) (str []) w (fun j x hx=>by
   refine uV hb hc j _ ?_;rw [zY]at hx⊢;cases h1:xs[j]?with
   |none=>rw [h1]at hx;cases hx
   |some y=>rw [h1]at hx;cases hx;rfl) (by
    rcases AB1 bk w.heap.size with h1|h1
    · exact h1
    · rw [AA9 h1]at hb;cases hb) (by simpa using hN) (by simpa using hcap) (by
    rw [AF0];have:(xs.map ((fun s:ByteArray=>s.data.toList)∘str))=xs:=by simp [str,AP0]
    rw [this,R4,Y1];exact hlen)
  rw [zH]at h;refine h.mono ?_;rintro e w' ⟨rfl,hbw⟩;refine ⟨_,V,?_,hbw⟩;rw [AF0];have:(xs.map ((fun s:ByteArray=>s.data.toList)∘str))=xs:=by simp [str,AP0]
  rw [this,R4,Y1];rfl) (fun v hv=>⟨hv,rfl⟩)
def wY(head rec:List UInt8):List UInt8:=sha (2::head++rec)
theorem dz(l:List UInt8)(hs:l.length<=140737488355000)(Tg:TypeId)(zg:Nat×Nat):BJ Tryz.prog 278 #[.string (str l)] [[(4,.cells (EW.map Ch).toArray Tg zg)]] (.string (str (sha l))):=by
 have:=lI (str l) (by rw [GQ];exact hs) Tg zg;rw [R4]at this;exact this
theorem LX(bk o cap bm:Nat)(cs:Array Value)(T Tm:TypeId)(z zm:Nat×Nat)(xs:List (List UInt8))(m:List UInt8)(hc:CE cs o (xs.map Fh))(hN:xs.length<=140737488355328)(hcap:xs.length<=cap)(hlen:m.length+xs.flatten.length<=140737488355000)(Tg:TypeId)(zg:Nat×Nat):
 BJ Tryz.prog 330 #[.slice (some ⟨bk,o,none⟩) xs.length cap,I5 bm] [[(bk,.cells cs T z)],[(bm,.cells #[Fh m] Tm zm)],[(4,.cells (EW.map Ch).toArray Tg zg)]] (.string (str (sha (m++xs.flatten)))):=by
 refine K9 func330 V ntmps330 V ?_;intro u R;unfold Fh;refine Zb [0,1] ?_;refine Zq<|Zg<|Za Y<|Z0<|Zx<|Zq<|Az (n:=6) (0::0::2::7::15::31::[]) 20 Ao8 Ao8 V<|Ao0 0 V Af1 Y ?_;refine An9 1 V (AP Y)<|Zz (l:=[2])<|Ao5 [true] [(0,(_,_))] V rfl (Zu [_,_] Y call331 Y V (jM bk o cap cs T z xs hc hN hcap Ao7)) ?hk_1 (fun _ _ h=>h.elim) ?hl_1
 case hk_1=>
  rintro _ _ ⟨rfl,rfl⟩;refine ⟨Zk (AV),?_⟩;refine An9 3 rfl (M4 Y Y (by rw [GQ,GQ];omega))<|Yw 4 31 rfl (Zu [_] Y call278 Y rfl ((Qf m xs.flatten)▸dz (m++xs.flatten) (by rw [zG];omega) Tg zg)) ?_;rintro _ _ ⟨rfl,rfl⟩;refine An9 5 V (Aq Y)<|Ag<|Zx<|AC<|AL V results330 Y (by exact ⟨V,V⟩)
 exact Ae
theorem QA(m:ByteArray):BR Tryz.prog 303 #[.string m] [] (fun r H'=>∃b,r= .func (.func 330) #[] #[I5 b]/\H'=[[(b,.cells #[.string m] 9 (0,0))]]):=by
 refine Se func303 ntmps303 [0] ?_;intro u R;refine Zq<|Zg<|Ze (Bx #[_]) ?_;rintro _ _ ⟨b1,rfl,rfl⟩;refine Za Y<|Z0<|Zx<|Zq<|Zg<|Zv (Bb (vs:=[]) (us:=[_]) Y Y)<|Za Y<|Z0<|Zx<|AC<|AL V results303 Y (by exact ⟨_,V,V⟩)
def QW(z:Nat):List (Nat×Bool):=if h:z<128 then [(z,true)]else(z%128,false)::QW (z/128)
termination_by z
decreasing_by omega
theorem KN(z:Nat):QW z=(z%128,decide (z<128))::(if z<128 then []else QW (z/128)):=by
 rw [QW];by_cases h:z<128
 · simp [h,AK9 h]
 · simp [h]
theorem uL(z:Nat):∀x∈QW z,x.1<128:=by
 induction z using Nat.strongRecOn with
 |_ z ih=>
  intro x hx;rw [KN]at hx;rcases za.1 hx with rfl|hx
  · exact AU0 _ Ao9
  · by_cases h:z<128
    · rw [Am7 h]at hx;cases hx
    · rw [Am6 h]at hx;exact ih (z/128) Ao7 x hx
theorem ol(z k:Nat)(h:z<128^(k+1)):(QW z).length<=k+1:=by
 induction k generalizing z with
 |zero=>rw [KN,Am7 (by simpa using h)];simp
 |succ k ih=>
  rw [KN];by_cases h1:z<128
  · rw [Am7 h1];simp
  · rw [Am6 h1,ze]
    have:z/128<128^(k+1):=by
     rw [AP4]at h;exact AQ6 (by rw [AT2];exact h)
    have:=ih _ this;omega
def gb(x:Nat×Bool):UInt8:=UInt8.ofNat (if x.2 then x.1 else x.1+128)
theorem wW(x:Nat×Bool)(h:x.1<128):u8v (gb x)= .int .u8 ((if x.2 then x.1 else x.1+128:Nat):Int):=by
 unfold u8v gb;rw [UInt8.toNat_ofNat',AK9 (by split<;>omega)]
def zz(n:Int):Nat:=(if n<0 then-(2*n) -1 else 2*n).toNat
def Sz(n:Int):List UInt8:=(QW (zz n)).map gb
theorem uq(n:Int)(h1:-4611686018427387903<=n)(h2:n<=4611686018427387903):zz n<9223372036854775808:=by unfold zz;split<;>omega
theorem pu(n:Int):0<(Sz n).length:=by unfold Sz;rw [KN];simp
theorem Ob(n:Int)(h1:-4611686018427387903<=n)(h2:n<=4611686018427387903):(Sz n).length<=9:=by
 unfold Sz;rw [zH];exact ol (zz n) 8 (by have:=uq n h1 h2;omega)
theorem wu(y:Nat)(h:y<18446744073709551616):bits .and .u64 (y:Int) 127=((y%128:Nat):Int):=by
 have:=u64_and_nat y 127 h Ao9;rw [nat_mask7]at this;exact this
theorem xV(g:Nat)(h:g<128):bits .or .u8 (g:Int) 128=((g+128:Nat):Int):=by
 have:=u8_or_nat g 128 Ao7 Ao9;rw [Nat.or_comm,nat_join 7 128 g Ao9 h,Nat.add_comm]at this;exact this
theorem kZ(a:Nat)(h:a<18446744073709551616):a^^^18446744073709551615=18446744073709551615 -a:=by
 have h1:BitVec.ofNat 64 a^^^BitVec.allOnes 64= ~~~BitVec.ofNat 64 a:=BitVec.xor_allOnes;have h2:=congrArg BitVec.toNat h1
 rw [BitVec.toNat_xor,BitVec.toNat_not,BitVec.toNat_ofNat,AK9 h]at h2;exact h2
theorem vQ(n:Int)(h1:-4611686018427387903<=n)(h2:n<=4611686018427387903):bits .xor .u64 (IntKind.u64.wrap (IntKind.u64.wrap n*2^(1:Int).toNat)) (IntKind.u64.wrap (n/2^(63:Int).toNat))=(zz n:Int):=by
 rw [IntKind.wrap_u64,IntKind.wrap_u64,IntKind.wrap_u64];rw [show(2:Int)^(1:Int).toNat=2 from rfl,show(2:Int)^(63:Int).toNat=9223372036854775808 from rfl];by_cases h:n<0
 · obtain ⟨m,hm⟩:∃m:Nat,n=-(m:Int):=⟨n.natAbs,by omega⟩
   have e1:n%18446744073709551616*2%18446744073709551616=((18446744073709551616 -2*m:Nat):Int):=by omega
   have e2:n/9223372036854775808%18446744073709551616=((18446744073709551615:Nat):Int):=by omega
   rw [e1,e2,u64_xor_nat _ _ Ao7 Ao7,kZ _ Ao7];unfold zz;rw [Am7 h];omega
 · obtain ⟨m,hm⟩:∃m:Nat,n=(m:Int):=⟨n.natAbs,by omega⟩
   have e1:n%18446744073709551616*2%18446744073709551616=((2*m:Nat):Int):=by omega
   have e2:n/9223372036854775808%18446744073709551616=((0:Nat):Int):=by omega
   rw [e1,e2,u64_xor_nat _ _ Ao7 Ao7,Nat.xor_zero];unfold zz;rw [Am6 h];omega
theorem BV{P:Program}{cx:Cx}{c:Code}{Q:Exit->Act->World->Prop}{env:Env}{H:Hp}(h:At P cx c Q env ([]::H)):At P cx c Q env H:=WS (H':=[]::H) rfl h
theorem Ui{α:Type}{l pre post:List α}{x:α}(h:l=pre++x::post):x∈l:=by rw [h];simp
theorem YI(bz z:Nat)(hz:z<18446744073709551616):
 TQ Tryz.prog 302 #[I5 bz] [[(bz,.cells #[.int .u64 (z:Int)] 302 (0,0))]] (fun x=>#[.int .u8 (x.1:Int),.bool x.2]) (QW z):=by
 intro l J hy s hJ;refine Se func302 ntmps302 [0,1] ?_;intro u R;refine AO<|Zb [0,1] ?_;refine BI (e0:=[]) (fun m e H=>∃(pre:List (Nat×Bool)) (y:Nat) (s:List A8),m=0+y/\(QW z=pre++QW y/\y<18446744073709551616/\J pre s)/\e=[]/\H=[[(bz,.cells #[.int .u64 (y:Int)] 302 (0,0))],s]) (by exact ⟨[],z,s,V,⟨V,hz,hJ⟩,V,V⟩) Wp ?_;rintro _ _ _ ⟨pre,y,s,rfl,⟨hsp,hy64,hJ⟩,rfl,rfl⟩;refine AO<|Zq<|Zg<|Zl Ai3 Y ?_;refine Zv (Au (n:=128) Y Y)<|Za Y<|Z0<|Zx<|Zq<|Zq ?_;have hyk:=hy pre (y%128,decide (y<128)) (if y<128 then []else QW (y/128)) s (by rw [hsp,<-KN]) hJ
 refine Zg<|Zm Y<|Zl Ai3 Y ?_;refine KH (nK (m:=(y:Int)) (n:=127) Y Y (wu y hy64)) V rfl ?_;refine Bq (Tk Ac2 Aa0 Y Ao7)<|Zm Y<|Ze (Fz (vs:=[_,_]) Y Y (hyk) Wp) ?_;rintro _ _ ⟨_,⟨s',rfl,rfl,hJ'⟩,rfl⟩;refine Zv (Br Y)<|Zm Y<|Aj (t:=13) Y V (fun hb=>?_) (fun hb=>?_)
 ·
  cases hb
 refine Zf Y Y<|Zv (AU Y Y)<|Z0<|Zn [0,1,15] ?_;refine Zx<|Aw Y (fun hl=>?_) (fun hl=>?_)
 ·
  refine AC<|Zt<|Ab<|Zt<|Ab ?_;refine Cj V results302 (by
   exact ⟨s',V,by
    have e:QW z=pre++[(y%128,decide (y<128))]:=by rw [hsp,KN y,Am7 hl]
    rw [e];exact hJ'⟩)
 refine AJ<|Zx<|Zg<|Zl Ai3 Y ?_;refine Bq (PS (n:=7) Y Y (by first|decide|(simp [IntKind.bits];done)|(simp [IntKind.bits];omega)))<|Xe (Zs Ai7 Y Y rfl) ?_;refine Z0<|A9<|Zn [0,1] ?_;refine Ad (e':=[]) (by exact ⟨pre++[(y%128,decide (y<128))],y/2^7,s',rfl,⟨by rw [hsp,KN y,Am6 hl];simp,by omega,hJ'⟩,rfl,rfl⟩)
theorem YH(z:Int):BR Tryz.prog 275 #[.int .u64 z] [] (fun r H'=>∃b,r= .func (.func 302) #[] #[I5 b]/\H'=[[(b,.cells #[.int .u64 z] 302 (0,0))]]):=by
 refine Se func275 ntmps275 [0] ?_;intro u R;refine Zq<|Zg<|Ze (Bx #[_]) ?_;rintro _ _ ⟨b1,rfl,rfl⟩;refine Za Y<|Z0<|Zx<|Zq<|Zg<|Zv (Bb (vs:=[]) (us:=[_]) Y Y)<|Za Y<|Z0<|Zx<|AC<|AL V results275 Y (by exact ⟨_,V,V⟩)
theorem Q0(n:Int)(h1:-4611686018427387903<=n)(h2:n<=4611686018427387903):BJ Tryz.prog 231 #[I4 n] [] (.tuple #[.string (str (Sz n)),I4 0]):=by
 have hml:=mL;have hzl:=uq n h1 h2
 have hgl:=Ob n h1 h2;unfold Sz at hgl;rw [zH]at hgl;refine Cz func231 V ntmps231 V ?_;intro u R;refine Zb [0] ?_;refine Zq<|Zg<|Za Y<|Za Y<|Z0<|Zx<|Zq<|Zq<|Zg<|Zm Y<|Zv (Dq Y Y)<|Zm Y<|Ak (t:=9) Y V (fun hc1=>?_) (fun hc1=>?_)
 ·
  exfalso;omega
 refine Zf Y Y<|Yg (FI Y Y)<|Zv (AU Y Y)<|Z0<|Zx<|Aw Y (fun hc2=>?_) (fun hc2=>?_)
 ·
  exfalso;omega
 refine AJ<|Zx<|Zq<|Zg<|Ze (Al zeroValue97 #[_]) ?_;rintro _ _ ⟨bo,rfl,rfl⟩;refine Z0<|Zx<|Zq<|Zq<|Zg<|Zm Y<|Zv (EU AV3 Ac2 Y V) ?_
 (refine Bq (eQ Y Y ?_ ?_ rfl) ?_;(focus (first|decide|omega|(simp [IntKind.bits];done)|(simp [IntKind.bits];omega)));(focus (first|decide|omega|(simp [IntKind.bits];done)|(simp [IntKind.bits];omega))))
 refine Zm Y ?_
 (refine Bq (nC Y Y ?_ ?_ rfl) ?_;(focus (first|decide|omega|(simp [IntKind.bits];done)|(simp [IntKind.bits];omega)));(focus (first|decide|omega|(simp [IntKind.bits];done)|(simp [IntKind.bits];omega))))
 refine Zv (EU AV3 Ac2 Y V)<|KH (vF Y Y (vQ n h1 h2)) V rfl ?_;refine Zc [_] Y call275 Y V (YH _) ?_;rintro _ _ ⟨_,⟨bz,rfl,rfl⟩,rfl⟩;refine Z0<|Zn [4,20] ?_;refine Zx<|AO<|Zb [4,20] ?_;refine BV<|QK (H0:=_) (R:=_) (I:=(fun pre H=>∃v s,H=[[(bo,.cells #[v] 97 (0,0))],s]/\Row 5 v ((pre.map gb).map u8v) s)) (asg:=fun x=>[(6,.bool x.2),(5,.int .u8 (x.1:Int)),(22,.bool x.2),(21,.int .u8 (x.1:Int))]) V Y call302 (YI bz (zz n) Ao7) Y V Wp (⟨_,[],V,G5 _⟩) ?ha_2 ?hbd_2 ?hk_2
 case ha_2=>
  intro _ x _ _;refine Zq<|Zg<|Za Y<|Z0<|Zx<|Zg<|Za Y<|Z0 ?_;exact nS
 case hbd_2=>
  intro l pre x post u H1 R1 hxs hI;obtain ⟨v,s,rfl,hr⟩:=hI;have hx1:=uL _ x (Ui hxs)
  have hgv:=wW x hx1;have hpl:=congrArg List.length hxs
  rw [zG,ze]at hpl;obtain ⟨gv,cv,rfl⟩:=hr.form;refine AO<|Zq<|Zq<|Zg<|Zm Y<|Zv (Br Y)<|Z0<|Zx<|AR Y (fun hc5=>?_) (fun hc5=>?_)
  ·
   have hxb:x.2=false:=by simpa using hc5
   refine Zg<|Zm Y<|KH (xS (m:=(x.1:Int)) (n:=128) Y Y (xV x.1 hx1)) V rfl ?_;refine Za Y<|Z0<|Zx<|Zg<|Zl Ah2 Y ?_;refine Zm Y<|Ze (Af (vs:=[_]) (cs:=[_]) AW9 Ad5 Ac8 Y V rfl V rfl V) ?_;rintro _ _ ⟨b2,rfl,rfl⟩;refine Ze (EF (by_:=1) (news:=[_]) AW9 (V:Tryz.prog.info? 5=some Tryz.t5) V rfl V rfl Y hr Y Wo Wh Ap1 V Ap5 Ao9 (by(simp only [zH];omega)) (by(simp only [zH];omega))) ?_;rintro _ _ ⟨sb,hrb,rfl⟩;obtain ⟨gb,cb,rfl⟩:=hrb.form;refine Xe (Zs Af0 Y Y V) ?_;refine Z0<|A9<|Ej V (by
    exact ⟨_,_,V,by
     rw [zK,zK,AC6,AC6,hgv,hxb];exact hrb⟩)
  have hxb:x.2=true:=by simpa using hc5
  refine AJ<|Zx<|Zg<|Zl Ah2 Y ?_;refine Zm Y<|Ze (Af (vs:=[_]) (cs:=[_]) AW9 Ad5 Ac8 Y V rfl V rfl V) ?_;rintro _ _ ⟨b4,rfl,rfl⟩;refine Ze (EF (by_:=1) (news:=[_]) AW9 (V:Tryz.prog.info? 5=some Tryz.t5) V rfl V rfl Y hr Y Wo Wh Ap1 V Ap5 Ao9 (by(simp only [zH];omega)) (by(simp only [zH];omega))) ?_;rintro _ _ ⟨sb,hrb,rfl⟩;obtain ⟨gb,cb,rfl⟩:=hrb.form;refine Xe (Zs Af0 Y Y V) ?_;refine Z0<|A9<|Ej V (by
   exact ⟨_,_,V,by
    rw [zK,zK,AC6,AC6,hgv,hxb];exact hrb⟩)
 intro D1 H2 hI2;obtain ⟨v,s,rfl,hr⟩:=hI2;have hep:=pu n
 unfold Sz at hep;obtain ⟨gv,cv,cur,zv,rfl,rfl,hle,hcm,hcs,htk,hfr⟩:=hr.some (by rw [zH];exact hep);refine Zn [4] ?_;refine A9<|Zx<|Zq<|Zg<|Zl Ah2 Y ?_;refine Zo Wh (Jp AW9 Aa0 AW6 Y (by exact ⟨htk,by simp⟩)) ?_;refine Za Y<|Za Y<|Z0<|Zx<|AC<|Fq V (mI results231 Y Y) Wo (by exact ⟨V,V⟩)
structure AQ where
 t:Int
 k:Int
 v:V3
deriving DecidableEq
structure Chg where
 t:Int
 k:Int
 had:Bool
 o:V3
 has:Bool
 n:V3
deriving DecidableEq
def AQ.zero:AQ:=⟨0,0,V3.zero⟩
def AQ.ok(r:AQ):Prop:=r.v.ok/\(0<=r.t/\r.t<=3)/\(1<=r.k/\r.k<=1000000)
instance(r:AQ):Decidable r.ok:=inferInstanceAs(Decidable (_/\_/\_))
def Chg.before(c:Chg):AQ:=if c.had then⟨c.t,c.k,c.o⟩else AQ.zero
def Chg.after(c:Chg):AQ:=if c.has then⟨c.t,c.k,c.n⟩else AQ.zero
variable{c:Chg}
theorem TG(h:c.had=true):c.before=⟨c.t,c.k,c.o⟩:=Am7 h
theorem Qm(h:c.has=true):c.after=⟨c.t,c.k,c.n⟩:=Am7 h
def Chg.ok(c:Chg):Prop:=¬((¬c.had/\¬c.has)\/(c.had/\c.has/\c.o=c.n))/\¬((c.had/\¬c.before.ok)\/(c.has/\¬c.after.ok))/\(c.had\/c.o=V3.zero)/\(c.has\/c.n=V3.zero)
instance(c:Chg):Decidable c.ok:=inferInstanceAs(Decidable (_/\_/\_/\_))
def Ct(M:List A8)(v:Value)(cs:List Chg):Prop:=∃p cap,v= .slice p cs.length cap/\cs.length<=maxLen/\∀(i:Nat) (c:Chg),cs[i]?=some c->∃g off cur T zz,p=some ⟨g,off,none⟩/\(g,Obj.cells cur T zz)∈M/\off+i*10+10<=cur.size/\cur.extract (off+i*10) (off+i*10+10)=#[I4 c.t,I4 c.k,.bool c.had,I4 c.o.a,I4 c.o.b,I4 c.o.c,.bool c.has,I4 c.n.a,I4 c.n.b,I4 c.n.c]
def Chg.lt(b c:Chg):Prop:=b.t<c.t\/b.t=c.t/\b.k<c.k
instance(b c:Chg):Decidable (b.lt c):=inferInstanceAs(Decidable (_\/_))
structure Eo(p:Int)(cs:List Chg):Prop where
 pos:1<=p/\p<=10000
 len:1<=cs.length/\cs.length<=8
 all:∀(i:Nat) (c:Chg),cs[i]?=some c->c.ok
 ord:∀(i:Nat) (b c:Chg),cs[i]?=some b->cs[i+1]?=some c->b.lt c
noncomputable instance(p:Int)(cs:List Chg):Decidable (Eo p cs):=Classical.propDecidable _
variable{cs:List Chg}{i:Nat}{x:Chg}
theorem Z7(h:∀(j:Nat) (c:Chg),j<i->cs[j]?=some c->c.ok)(hx:cs[i]?=some x)(ho:x.ok):∀(j:Nat) (c:Chg),j<i+1->cs[j]?=some c->c.ok:=by
 intro j c hj hc;rcases AB1 j i with h9|h9
 · exact h j c h9 hc
 · have e:j=i:=by omega
   rw [e,hx]at hc;injection hc with hc;rw [<-hc];exact ho
theorem Xh(h:∀(j:Nat) (b c:Chg),j+1<i->cs[j]?=some b->cs[j+1]?=some c->b.lt c)(hx:cs[i]?=some x)(ho:i=0\/∃y,cs[i -1]?=some y/\y.lt x):∀(j:Nat) (b c:Chg),j+1<i+1->cs[j]?=some b->cs[j+1]?=some c->b.lt c:=by
 intro j b c hj hb hc;rcases AB1 (j+1) i with h9|h9
 · exact h j b c h9 hb hc
 · have e:j+1=i:=by omega
   rw [e,hx]at hc;injection hc with hc
   rcases ho with h0|⟨y,hy,hl⟩
   · omega
   · rw [show i -1=j by omega,hb]at hy;injection hy with hy;rw [hy,<-hc];exact hl
def AQ.lt2(r:AQ)(t k:Int):Prop:=r.t<t\/r.t=t/\r.k<k
instance(r:AQ)(t k:Int):Decidable (r.lt2 t k):=inferInstanceAs(Decidable (_\/_))
def AQ.is(r:AQ)(t k:Int):Prop:=r.t=t/\r.k=k
instance(r:AQ)(t k:Int):Decidable (r.is t k):=inferInstanceAs(Decidable (_/\_))
def BM(rs:List AQ):Prop:=rs.Pairwise (fun a b=>a.lt2 b.t b.k)
def Gt(rs:List AQ)(t k:Int):Nat:=(rs.takeWhile (fun r=>decide (r.lt2 t k))).length
theorem jD{a b:AQ}{t k:Int}(h:a.lt2 b.t b.k)(hb:b.lt2 t k):a.lt2 t k:=by unfold AQ.lt2 at*;omega
def KO(rs:List AQ)(t k:Int):AQ×Bool:=match rs[Gt rs t k]?with
 |some r=>if r.is t k then(r,true)else(AQ.zero,false)
 |none=>(AQ.zero,false)
def out(lo hi n:Int):Bool:=decide (n<lo)||decide (hi<n)
def KZ(cur:Array Value)(o:Nat)(ns:List Int):Prop:=∀(i:Nat) (n:Int),ns[i]?=some n->cur[o+i]?=some (I4 n)
theorem kT(p:Int->Bool)(ls:List Int)(i:Nat)(x:Int)(h:ls[i]?=some x):(ls.take (i+1)).any p=((ls.take i).any p||p x):=by
 rw [AH3,h];simp
theorem uk(p:Int->Bool)(ls:List Int)(i:Nat)(x:Int)(h:ls[i]?=some x)(hx:p x=true):ls.any p=true:=by
 rw [AM2];exact ⟨x,zP h,hx⟩
theorem wD(lp hp:Nat)(n lo hi:Int):BJ Tryz.prog 182 #[I4 n,I5 lp,I5 hp] [[(lp,.cells #[I4 lo] 3 (0,0))],[(hp,.cells #[I4 hi] 3 (0,0))]] (.bool (out lo hi n)):=by
 refine Se func182 ntmps182 [0,1,2] ?_;intro u R;refine Zq<|Zg<|Za Y<|Z0<|Zx<|Zq<|Zg<|Zm Y<|Zl AU2 Y ?_;refine Zv (Dq Y Y)<|Zm Y<|Ak (t:=8) Y V (fun h1=>?_) (fun h1=>?_)
 ·
  refine A7 Y V<|A7 Y V<|A7 Y V<|Zv (AZ Y Y)<|Za Y<|Z0<|Zx<|AC<|AL V results182 Y (by exact ⟨by simp [out,h1],V⟩)
 refine Zf Y Y<|Yl AU2 Y ?_;refine Yg (FI Y Y)<|Zv (AU Y Y)<|Za Y<|Z0<|Zx<|AC<|AL V results182 Y (by exact ⟨by simp [out,h1],V⟩)
theorem bZ(lp hp g off cap:Nat)(lo hi:Int)(cur:Array Value)(T:TypeId)(z:Nat×Nat)(ls:List Int)(hin:KZ cur off ls)(hn:ls.length<=1073741824):
 BR Tryz.prog 239 #[.slice (some ⟨g,off,none⟩) ls.length cap,.func (.func 182) #[] #[I5 lp,I5 hp]] [[(lp,.cells #[I4 lo] 3 (0,0))],[(hp,.cells #[I4 hi] 3 (0,0))],[(g,.cells cur T z)]] (fun r H'=>∃k:Int,r=I4 k/\decide (0<=k)=ls.any (out lo hi)/\H'=[[(lp,.cells #[I4 lo] 3 (0,0))],[(hp,.cells #[I4 hi] 3 (0,0))],[(g,.cells cur T z)]]):=by
 refine Se func239 ntmps239 [0,1] ?_;intro u R;refine Zq<|Zg<|Za Y<|Z0<|Zx<|Zq<|Zq<|Zg<|Zm Y<|Zv (Aa AV0 Y)<|Zm Y<|Z0<|Zx<|AO<|Zb [8,0,1,7] ?_;refine BI (e0:=[(8,_)]) (fun m e H=>∃(i:Nat),m=ls.length -i/\(i<=ls.length/\(ls.take i).any (out lo hi)=false)/\e=[(8,I4 (i:Int))]/\H=[]) (by exact ⟨0,V,⟨zT _,V⟩,V,V⟩) Wp ?_;rintro _ _ _ ⟨i,rfl,⟨hi9,hany⟩,rfl,rfl⟩;refine Zq<|Zg<|Zv (Au Y Y)<|Z0<|Zx<|Zq<|Aw Y (fun hlt=>?_) (fun hlt=>?_)
 ·
  refine AJ<|Zx<|Zq<|AO<|Zq<|Zg<|Zm Y<|Za Y<|Z0<|Zx<|Zq ?_;obtain ⟨x,hx⟩:∃x,ls[i]?=some x:=⟨_,zD hlt⟩;refine Zg<|Zm Y<|Zm Y<|Zm Y<|Bq (CY AV0 AU1 Y Y Ao7)<|Zl AU2 Y (hv:=by exact hin i x hx) ?_;refine Xr [_] Y call182 Y V (wD lp hp x lo hi) ?_;refine Z0<|Zx<|AR Y (fun hlx=>?_) (fun hlx=>?_)
  ·
   refine Zq<|Zg<|Zm Y<|Za Y<|Z0<|Zx<|AC<|Ab<|Zt<|Zt<|Ab<|Zt<|AL rfl results239 Y (by exact ⟨(i:Int),rfl,by rw [uk _ ls i x hx hlx];exact Am8 Ao7,rfl⟩)
  refine AJ<|A9<|Zx<|Zg<|Ya (n:=1) Y Y<|Zm Y<|Z0<|Zn [8,0,1,7] ?_;refine Ad (e':=[(8,_)]) (by exact ⟨i+1,rfl,⟨by omega,by rw [kT _ ls i x hx,hany];exact hlx⟩,rfl,rfl⟩)
 have ei:i=ls.length:=by omega
 subst ei;rw [AA4]at hany;refine BG<|Zt<|Zt<|AX<|Zx<|Zq<|Zg<|Za Y<|Z0<|Zx<|AC<|AL rfl results239 Y (by exact ⟨-1,rfl,by rw [hany];rfl,rfl⟩)
theorem Tt(lp hp g off cap:Nat)(lo hi:Int)(cur:Array Value)(T:TypeId)(z:Nat×Nat)(ls:List Int)(hin:KZ cur off ls)(hn:ls.length<=1073741824):
 BJ Tryz.prog 181 #[.slice (some ⟨g,off,none⟩) ls.length cap,.func (.func 182) #[] #[I5 lp,I5 hp]] [[(lp,.cells #[I4 lo] 3 (0,0))],[(hp,.cells #[I4 hi] 3 (0,0))],[(g,.cells cur T z)]] (.bool (ls.any (out lo hi))):=by
 refine Se func181 ntmps181 [0,1] ?_;intro u R;refine Zq<|Zg<|Za Y<|Z0<|Zx<|Zq<|Zg<|Zm Y<|Zm Y<|Zc [_,_] Y call239 Y V (bZ lp hp g off cap lo hi cur T z ls hin hn) ?_;rintro _ _ ⟨_,⟨k,rfl,hk,rfl⟩,rfl⟩;refine Zv (Iq Y Y)<|Za Y<|Z0<|Zx<|AC<|AL rfl results181 Y (by exact ⟨by rw [<-hk],rfl⟩)
theorem UB(g off cap:Nat)(lo hi:Int)(cur:Array Value)(T:TypeId)(z:Nat×Nat)(ls:List Int)(hin:KZ cur off ls)(hn:ls.length<=1073741824):
 BJ Tryz.prog 107 #[I4 lo,I4 hi,.slice (some ⟨g,off,none⟩) ls.length cap] [[(g,.cells cur T z)]] (.bool (!(ls.any (out lo hi)))):=by
 refine Se func107 ntmps107 [0,1,2] ?_;intro u R;refine Zq<|Zg<|Ze (Bx #[_]) ?_;rintro _ _ ⟨b1,rfl,rfl⟩;refine Ze (Bx #[_]) ?_;rintro _ _ ⟨b2,rfl,rfl⟩;refine Za Y<|Z0<|Zx<|Zq<|Zg<|Zm Y<|Zv (Bb (vs:=[]) (us:=[_,_]) Y Y)<|Xr [_,_] Y call181 Y V (Tt _ _ g off cap lo hi cur T z ls hin hn) ?_;refine Zv (Br Y)<|Za Y<|Z0<|Zx<|AC<|AL V results107 Y (by exact ⟨V,V⟩)
def Dt(c:Chg)(th:Bool)(v:V3):AQ:=if th then⟨c.t,c.k,v⟩else AQ.zero
variable{v:V3}
theorem oh{th:Bool}(h:th=true):Dt c th v=⟨c.t,c.k,v⟩:=Am7 h
theorem wT{th:Bool}(h:th=false):Dt c th v=AQ.zero:=Am6 (by rw [h];decide)
theorem eT(lo hi n:Int):(!(([n]:List Int).any (out lo hi)))=decide (lo<=n/\n<=hi):=by
 simp only [AS7,AT3,AO1,out];by_cases h1:n<lo<;>by_cases h2:hi<n<;>simp [h1,h2]<;>omega
theorem wK(v:V3):(!(([v.a,v.b,v.c]:List Int).any (out (-1000000000) 1000000000)))=decide v.ok:=by
 have h:∀n,out (-1000000000) 1000000000 n=!decide (inV n):=by
  intro n;have:=eT (-1000000000) 1000000000 n
  simp only [AS7,AT3,AO1]at this;rw [<-Bool.not_not (out _ _ n),this];rfl
 simp only [AS7,AT3,AO1,h,V3.ok];by_cases h1:inV v.a<;>by_cases h2:inV v.b<;>by_cases h3:inV v.c<;>simp [h1,h2,h3]
theorem xn{cur:Array Value}{n:Int}(h:cur[o]?=some (I4 n)):KZ cur o [n]:=by
 intro i x hx;rcases i with _|i
 · injection hx with hx;rw [<-hx];exact h
 · cases hx
theorem xm{cur:Array Value}(h0:cur[o]?=some (I4 v.a))(h1:cur[o+1]?=some (I4 v.b))(h2:cur[o+2]?=some (I4 v.c)):KZ cur o [v.a,v.b,v.c]:=by
 intro i x hx;rcases i with _|_|_|i
 · injection hx with hx;rw [<-hx];exact h0
 · injection hx with hx;rw [<-hx];exact h1
 · injection hx with hx;rw [<-hx];exact h2
 · cases hx
theorem KA(g off cap:Nat)(lo hi:Int)(cur:Array Value)(T:TypeId)(z:Nat×Nat)(n:Int)(h:cur[off]?=some (I4 n)):
 BJ Tryz.prog 107 #[I4 lo,I4 hi,.slice (some ⟨g,off,none⟩) 1 cap] [[(g,.cells cur T z)]] (.bool (decide (lo<=n/\n<=hi))):=by
 rw [<-eT];exact UB g off cap lo hi cur T z [n] (xn h) Ap0
theorem aG(g off cap:Nat)(cur:Array Value)(T:TypeId)(z:Nat×Nat)(v:V3)(h:KZ cur off [v.a,v.b,v.c]):
 BJ Tryz.prog 107 #[I4 (-1000000000),I4 1000000000,.slice (some ⟨g,off,none⟩) 3 cap] [[(g,.cells cur T z)]] (.bool (decide v.ok)):=by
 rw [<-wK];exact UB g off cap _ _ cur T z [v.a,v.b,v.c] h Ap0
theorem VU(c:Chg)(th:Bool)(v:V3):BJ Tryz.prog 202 #[.agg #[I4 c.t,I4 c.k,.bool c.had,I4 c.o.a,I4 c.o.b,I4 c.o.c,.bool c.has,I4 c.n.a,I4 c.n.b,I4 c.n.c],.bool th,.agg #[I4 v.a,I4 v.b,I4 v.c]] [] (.tuple #[.agg #[I4 (Dt c th v).t,I4 (Dt c th v).k,I4 (Dt c th v).v.a,I4 (Dt c th v).v.b,I4 (Dt c th v).v.c],.bool th]):=by
 refine Se func202 ntmps202 [0,1,2] ?_;intro u R;refine Zq<|Zg<|Ze (Bx #[_,_,_,_,_,_,_,_,_,_]) ?_;rintro _ _ ⟨b1,rfl,rfl⟩;refine Ze (Bx #[_,_,_]) ?_;rintro _ _ ⟨b2,rfl,rfl⟩;refine Ze (Al AW7 #[_,_,_,_,_]) ?_;rintro _ _ ⟨b3,rfl,rfl⟩;refine Za Y<|Z0<|Zx<|Zq<|Zq<|Zg<|Zm Y<|Zv (Br Y)<|Z0<|Zx<|AR Y (fun hh=>?_) (fun hh=>?_)
 ·
  refine Zq<|Zg<|Zv (BL (vs:=[]) (cs:=#[_,_,_,_,_]) Y (AY (pl:=#[(0,1),(1,1),(2,3)]) AW7 AX4 (fun _=>by kernel_rfl) V))<|Xe (Xw AU5 _) ?_;refine Za Y<|Z0<|Zx<|AC<|Zt<|Bu V results202 Y Wh (Ap AX3 AU5 Wn (V)) Y (by simp only [Bool.not_eq_eq_eq_not,AK8,AT7]at hh;exact ⟨by(rw [wT hh,hh];rfl),V⟩)
 refine AJ<|Zx<|Zq<|Zg<|Zh 0 AV4 V rfl AU1 Y<|Zl AU2 Y ?_;refine Zh 1 AV4 V rfl AU1 Y<|Zl AU2 Y ?_;refine Zo Wh (Pa #[_,_,_] Ag4 AZ5 Y) ?_;refine Zv (BL (vs:=[(0,_),(1,_),(2,_)]) (cs:=#[_,_,_,_,_]) Y (AY (pl:=#[(0,1),(1,1),(2,3)]) AW7 AX4 (fun _=>by kernel_rfl) rfl))<|Xe (BK AU5 Y Y (by(simp [Value.oneCell',Value.cells];done)) Wu Ap1 Ap3 Wn (by exact BF _)) ?_;refine Za Y<|Z0<|Zn [6,7] ?_;refine Zx<|AC<|Bu V results202 Y Wh (Ap AX3 AU5 Wn (V)) Y (by simp only [Bool.not_eq_eq_eq_not,AK8,AT7]at hh;exact ⟨by(rw [oh hh,hh];rfl),V⟩)
theorem RJ(r:AQ):BJ Tryz.prog 203 #[.agg #[I4 r.t,I4 r.k,I4 r.v.a,I4 r.v.b,I4 r.v.c]] [] (.bool (decide r.ok)):=by
 refine Se func203 ntmps203 [0] ?_;intro u R;refine Zq<|Zg<|Ze (Bx #[_,_,_,_,_]) ?_;rintro _ _ ⟨b1,rfl,rfl⟩;refine Za Y<|Z0<|Zx<|Zq<|Zg<|Zh 0 AX4 V rfl AU1 Y<|Zl AU2 Y ?_;refine Ze (Af (vs:=[_]) (cs:=[_]) AV0 AU1 AX6 Y V rfl V rfl V) ?_;rintro _ _ ⟨b2,rfl,rfl⟩;refine Xr [_,_,_] Y call107 Y V (KA _ 0 1 _ _ _ _ _ r.t V) ?_;refine Zm Y<|Ak (t:=7) Y V (fun hc1=>?_) (fun hc1=>?_)
 ·
  refine Yf 1 AX4 V rfl AU1 Y<|Yl AU2 Y ?_;refine Ze (Af (vs:=[_]) (cs:=[_]) AV0 AU1 AX6 Y V rfl V rfl V) ?_;rintro _ _ ⟨b3,rfl,rfl⟩;refine Xr [_,_,_] Y call107 Y V (KA _ 0 1 _ _ _ _ _ r.k V) ?_;refine Zv (AZ Y Y)<|Zm Y<|Ak (t:=13) Y V (fun hc2=>?_) (fun hc2=>?_)
  ·
   refine Yf 2 AX4 V rfl AZ5 Y<|Yg (IE Ab6 AU1 Y)<|Xr [_,_,_] Y call107 Y V (aG _ 2 3 _ _ _ r.v (xm V rfl V)) ?_;refine Zv (AZ Y Y)<|Za Y<|Z0<|Zn [2] ?_;refine Zx<|AC<|AL V results203 Y (by exact ⟨by(simp_all [AQ.ok];done),V⟩)
  refine A7 Y V<|A7 Y V<|A7 Y V<|Zv (AU Y Y)<|Za Y<|Z0<|Zn [2] ?_;refine Zx<|AC<|AL V results203 Y (by exact ⟨by(simp_all [AQ.ok];done),V⟩)
 refine A7 Y V<|A7 Y V<|A7 Y V<|A7 Y V<|Zv (AU Y Y)<|Zm Y<|A7 Y V<|A7 Y V<|A7 Y V<|Zv (AU Y Y)<|Za Y<|Z0<|Zn [2] ?_;refine Zx<|AC<|AL rfl results203 Y (by exact ⟨by rw [Am5 (fun h9:r.ok=>by have h91:=h9.2.1;have h92:=h9.2.2;omega)],rfl⟩)
theorem XC(c:Chg)(th:Bool)(v:V3):BJ Tryz.prog 125 #[.agg #[I4 c.t,I4 c.k,.bool c.had,I4 c.o.a,I4 c.o.b,I4 c.o.c,.bool c.has,I4 c.n.a,I4 c.n.b,I4 c.n.c],.bool th,.agg #[I4 v.a,I4 v.b,I4 v.c]] [] (.bool (if th then decide (Dt c th v).ok else decide (v=V3.zero))):=by
 refine Se func125 ntmps125 [0,1,2] ?_;intro u R;refine Zq<|Zg<|Ze (Bx #[_,_,_,_,_,_,_,_,_,_]) ?_;rintro _ _ ⟨b1,rfl,rfl⟩;refine Ze (Bx #[_,_,_]) ?_;rintro _ _ ⟨b2,rfl,rfl⟩;refine Za Y<|Z0<|Zx<|Zq<|Zg<|Zo Wh (Pa #[_,_,_,_,_,_,_,_,_,_] Aa3 AW4 Y) ?_;refine Zm Y<|Zo Wh (Pa #[_,_,_] Ag4 AZ5 Y) ?_;refine Xr [_,_,_] Y call202 Y V (VU c th v) ?_;refine Zm Y<|Zd Y V<|Zd Y V<|Ze (Al AW7 #[_,_,_,_,_]) ?_;rintro _ _ ⟨b3,rfl,rfl⟩;refine Xe (Xw AU5 _) ?_;refine Za Y<|Z0<|Zn [1,5,7] ?_;refine Zx<|Zq<|Zg<|Zm Y<|Zm Y<|Aj (t:=17) Y V (fun hc1=>?_) (fun hc1=>?_)
 ·
  refine FJ Y Wh (Pa #[_,_,_,_,_] AX3 AU5 Y) V rfl ?_;refine Xr [_] Y call203 Y V (RJ _) ?_;refine Zv (AZ Y Y)<|Zm Y<|Ak (t:=21) Y V (fun hc2=>?_) (fun hc2=>?_)
  ·
   refine A7 Y V<|A7 Y V<|A7 Y V<|A7 Y V<|A7 Y V<|A7 Y V<|A7 Y V<|Zv (AZ Y Y)<|Za Y<|Z0<|Zn [6] ?_;refine Zx<|AC<|AL V Al9 Y (by exact ⟨by simp_all,V⟩)
  refine Zf Y Y<|Yg (Br Y)<|Zf Y Y ?_;refine Aj (t:=24) Y V (fun hc3=>?_) (fun hc3=>?_)
  ·
   refine FJ Y Wh (Pa #[_,_,_] Ag4 AZ5 Y) V rfl ?_;refine Yg (BL (vs:=[]) (cs:=#[_,_,_]) Y (Dn Ai1 Ab6 AU1 V)) ?_;refine Yg (Q7 Ao8 Ab6 AV3 AU2 AU1 Y Y) ?_;refine Yg (AZ Y Y)<|Zv (AU Y Y)<|Za Y<|Z0<|Zn [6] ?_;refine Zx<|AC<|AL V Al9 Y (by exact ⟨by simp_all,V⟩)
  refine A7 Y V<|A7 Y V<|A7 Y V<|Yg (AU Y Y)<|Zv (AU Y Y)<|Za Y<|Z0<|Zn [6] ?_;refine Zx<|AC<|AL V Al9 Y (by exact ⟨by simp_all,V⟩)
 refine A7 Y V<|A7 Y V<|Zv (AU Y Y)<|Zm Y<|Zf Y Y<|Yg (Br Y)<|Zf Y Y ?_;refine Aj (t:=24) Y V (fun hc4=>?_) (fun hc4=>?_)
 ·
  refine FJ Y Wh (Pa #[_,_,_] Ag4 AZ5 Y) V rfl ?_;refine Yg (BL (vs:=[]) (cs:=#[_,_,_]) Y (Dn Ai1 Ab6 AU1 V)) ?_;refine Yg (Q7 Ao8 Ab6 AV3 AU2 AU1 Y Y) ?_;refine Yg (AZ Y Y)<|Zv (AU Y Y)<|Za Y<|Z0<|Zn [6] ?_;refine Zx<|AC<|AL V Al9 Y (by exact ⟨by simp_all,V⟩)
 refine A7 Y V<|A7 Y V<|A7 Y V<|Yg (AU Y Y)<|Zv (AU Y Y)<|Za Y<|Z0<|Zn [6] ?_;refine Zx<|AC<|AL V Al9 Y (by exact ⟨by simp_all,V⟩)
def vk(c:Chg):Bool:=if c.had then decide c.before.ok else decide (c.o=V3.zero)
def vv(c:Chg):Bool:=if c.has then decide c.after.ok else decide (c.n=V3.zero)
theorem RL(c:Chg):BJ Tryz.prog 125 #[.agg #[I4 c.t,I4 c.k,.bool c.had,I4 c.o.a,I4 c.o.b,I4 c.o.c,.bool c.has,I4 c.n.a,I4 c.n.b,I4 c.n.c],.bool c.had,.agg #[I4 c.o.a,I4 c.o.b,I4 c.o.c]] [] (.bool (vk c)):=XC c c.had c.o
theorem RN(c:Chg):BJ Tryz.prog 125 #[.agg #[I4 c.t,I4 c.k,.bool c.had,I4 c.o.a,I4 c.o.b,I4 c.o.c,.bool c.has,I4 c.n.a,I4 c.n.b,I4 c.n.c],.bool c.has,.agg #[I4 c.n.a,I4 c.n.b,I4 c.n.c]] [] (.bool (vv c)):=XC c c.has c.n
theorem KV(hne:c.had≠c.has\/(c.had=true/\c.o≠c.n)):decide c.ok=(vk c&&vv c):=by
 unfold vk vv;cases h1:c.had<;>cases h2:c.has<;>simp_all [Chg.ok]
 all_goals (by_cases h3:c.before.ok<;>by_cases h4:c.after.ok<;>by_cases h5:c.o=V3.zero<;>by_cases h6:c.n=V3.zero<;>simp_all)
theorem qF(h:c.had=c.has)(h2:c.had=true->c.o=c.n):decide c.ok=false:=by
 cases h1:c.had<;>simp_all [Chg.ok]
 all_goals (rw [<-h]at*;simp_all)
set_option maxHeartbeats 4000000 in
theorem UC(c:Chg):BJ Tryz.prog 67 #[.agg #[I4 c.t,I4 c.k,.bool c.had,I4 c.o.a,I4 c.o.b,I4 c.o.c,.bool c.has,I4 c.n.a,I4 c.n.b,I4 c.n.c]] [] (.bool (decide c.ok)):=by
 refine Se func67 ntmps67 [0] ?_;intro u R;refine Zq<|Zg<|Ze (Bx #[_,_,_,_,_,_,_,_,_,_]) ?_;rintro _ _ ⟨b1,rfl,rfl⟩;refine Za Y<|Z0<|Zx<|Zq<|Zg<|Zh 2 AV4 V rfl AX8 Y<|Zl Ab8 Y ?_;refine Zh 6 AV4 V rfl AX8 Y<|Zl Ab8 Y ?_;refine Zv (Ip AZ3 Y Y)<|Zm Y<|Ak (t:=9) Y V (fun hc1=>?_) (fun hc1=>?_)
 ·
  refine A7 Y V<|A7 Y V<|A7 Y V<|A7 Y V<|A7 Y V<|A7 Y V<|A7 Y V<|A7 Y V<|A7 Y V<|Zv (AZ Y Y)<|Za Y<|Z0<|Zn [1,3] ?_;refine Zx<|Zq<|Zg<|Zm Y<|Zm Y<|FJ Y Wh (Pa #[_,_,_,_,_,_,_,_,_,_] Aa3 AW4 Y) V rfl ?_;refine Yf 2 AV4 V rfl AX8 Y<|Yl Ab8 Y ?_;refine Yf 3 AV4 V rfl AZ5 Y<|FJ Y Wh (Pa #[_,_,_] Ag4 AZ5 Y) V rfl ?_;refine Xr [_,_,_] Y call125 Y V (RL c) ?_;refine Zv (AZ Y Y)<|Zm Y<|Aj (t:=29) Y V (fun hc2=>?_) (fun hc2=>?_)
  ·
   refine FJ Y Wh (Pa #[_,_,_,_,_,_,_,_,_,_] Aa3 AW4 Y) V rfl ?_;refine Yf 6 AV4 V rfl AX8 Y<|Yl Ab8 Y ?_;refine Yf 7 AV4 V rfl AZ5 Y<|FJ Y Wh (Pa #[_,_,_] Ag4 AZ5 Y) V rfl ?_;refine Xr [_,_,_] Y call125 Y V (RN c) ?_;refine Zv (AZ Y Y)<|Za Y<|Z0<|Zn [2] ?_;refine Zx<|AC<|AL rfl Al1 Y (by exact ⟨by rw [KV (.inl hc1),hc2,AJ1],rfl⟩)
  refine A7 Y V<|A7 Y V<|A7 Y V<|A7 Y V<|A7 Y V<|A7 Y V<|Zv (AU Y Y)<|Za Y<|Z0<|Zn [2] ?_;refine Zx<|AC<|AL rfl Al1 Y (by exact ⟨by rw [KV (.inl hc1),hc2,Bool.false_and],rfl⟩)
 refine Yf 2 AV4 V rfl AX8 Y<|Yl Ab8 Y ?_;refine Zf Y Y ?_;refine Aj (t:=12) Y V (fun hc3=>?_) (fun hc3=>?_)
 ·
  refine Yf 3 AV4 V rfl AZ5 Y<|FJ Y Wh (Pa #[_,_,_] Ag4 AZ5 Y) V rfl ?_;refine Yf 7 AV4 V rfl AZ5 Y<|FJ Y Wh (Pa #[_,_,_] Ag4 AZ5 Y) V rfl ?_;refine Yg (NE Ao8 Ab6 AV3 AU2 AU1 Y Y) ?_;refine Yg (AZ Y Y)<|Zv (AU Y Y)<|Za Y<|Z0<|Zn [1,3] ?_;refine Zx<|Zq<|Zg<|Zm Y<|Zm Y<|Ak (t:=21) Y V (fun hc4=>?_) (fun hc4=>?_)
  ·
   refine FJ Y Wh (Pa #[_,_,_,_,_,_,_,_,_,_] Aa3 AW4 Y) V rfl ?_;refine Yf 2 AV4 V rfl AX8 Y<|Yl Ab8 Y ?_;refine Yf 3 AV4 V rfl AZ5 Y<|FJ Y Wh (Pa #[_,_,_] Ag4 AZ5 Y) V rfl ?_;refine Xr [_,_,_] Y call125 Y V (RL c) ?_;refine Zv (AZ Y Y)<|Zm Y<|Aj (t:=29) Y V (fun hc5=>?_) (fun hc5=>?_)
   ·
    refine FJ Y Wh (Pa #[_,_,_,_,_,_,_,_,_,_] Aa3 AW4 Y) V rfl ?_;refine Yf 6 AV4 V rfl AX8 Y<|Yl Ab8 Y ?_;refine Yf 7 AV4 V rfl AZ5 Y<|FJ Y Wh (Pa #[_,_,_] Ag4 AZ5 Y) V rfl ?_;refine Xr [_,_,_] Y call125 Y V (RN c) ?_;refine Zv (AZ Y Y)<|Za Y<|Z0<|Zn [2] ?_;refine Zx<|AC<|AL rfl Al1 Y (by exact ⟨by rw [KV (.inr ⟨hc3,hc4⟩),hc5,AJ1],rfl⟩)
   refine A7 Y V<|A7 Y V<|A7 Y V<|A7 Y V<|A7 Y V<|A7 Y V<|Zv (AU Y Y)<|Za Y<|Z0<|Zn [2] ?_;refine Zx<|AC<|AL rfl Al1 Y (by exact ⟨by rw [KV (.inr ⟨hc3,hc4⟩),hc5,Bool.false_and],rfl⟩)
  refine A7 Y V<|A7 Y V<|A7 Y V<|A7 Y V<|A7 Y V<|A7 Y V<|Zv (AU Y Y)<|Zm Y<|A7 Y V<|A7 Y V<|A7 Y V<|A7 Y V<|A7 Y V<|A7 Y V<|Zv (AU Y Y)<|Za Y<|Z0<|Zn [2] ?_;refine Zx<|AC<|AL rfl Al1 Y (by exact ⟨by rw [qF (AD7.1 hc1) (fun _=>AD7.1 hc4)],rfl⟩)
 refine A7 Y V<|A7 Y V<|A7 Y V<|A7 Y V<|A7 Y V<|Yg (AU Y Y)<|Zv (AU Y Y)<|Za Y<|Z0<|Zn [1,3] ?_;refine Zx<|Zq<|Zg<|Zm Y<|Zm Y<|A7 Y V<|A7 Y V<|A7 Y V<|A7 Y V<|A7 Y V<|A7 Y V<|Zv (AU Y Y)<|Zm Y<|A7 Y V<|A7 Y V<|A7 Y V<|A7 Y V<|A7 Y V<|A7 Y V<|Zv (AU Y Y)<|Za Y<|Z0<|Zn [2] ?_;refine Zx<|AC<|AL rfl Al1 Y (by exact ⟨by rw [qF (AD7.1 hc1) (fun h9=>by rw [hc3]at h9;cases h9)],rfl⟩)
theorem yE(h:c.ok):0<=c.t:=by
 obtain ⟨h1,h2,_,_⟩:=h;have hb:c.had=true->c.before.ok:=fun h9=>AF6 fun hn=>h2 (.inl ⟨h9,hn⟩)
 have ha:c.has=true->c.after.ok:=fun h9=>AF6 fun hn=>h2 (.inr ⟨h9,hn⟩);cases e1:c.had with
 |true=>have:=(hb e1).2.1.1;rw [TG e1]at this;exact this
 |false=>
  cases e2:c.has with
  |true=>have:=(ha e2).2.1.1;rw [Qm e2]at this;exact this
  |false=>exact absurd (.inl ⟨by simp [e1],by simp [e2]⟩) h1
theorem Vr{p:Int}{y:Chg}(hl:i=0/\y.t=-1\/0<i/\cs[i -1]?=some y)(h:Eo p cs)(hx:cs[i]?=some x):y.lt x:=by
 rcases hl with⟨h0,h1⟩|⟨h0,h1⟩
 · left;have:=yE (h.all i x hx);omega
 · exact h.ord (i -1) y x h1 (by rw [show i -1+1=i by omega];exact hx)
theorem fD{y:Chg}(hl:i=0/\y.t=-1\/0<i/\cs[i -1]?=some y)(h:y.lt x):i=0\/∃y,cs[i -1]?=some y/\y.lt x:=by
 rcases hl with⟨h0,h1⟩|⟨h0,h1⟩
 · exact .inl h0
 · exact .inr ⟨y,h1,h⟩
theorem P9(p:Int)(q:Option Addr)(cap:Nat)(cs:List Chg)(M:List A8)(hO:Ct M (.slice q cs.length cap) cs):BJ Tryz.prog 51 #[.agg #[I4 p,.slice q cs.length cap]] [M] (.bool (decide (Eo p cs))):=by
 have hml:=mL;obtain ⟨p9,cap9,e9,hol,hg⟩:=hO;injection e9 with e91 e92 e93
 subst e91 e93;refine Se func51 ntmps51 [0] ?_;intro u R;refine Zq<|Zg<|Ze (Bx #[_,_]) ?_;rintro _ _ ⟨b1,rfl,rfl⟩;refine Za Y<|Z0<|Zx<|Zq<|Zq<|Zg<|Zh 0 AY1 V rfl AU1 Y<|Zl AU2 Y ?_;refine Ze (Af (vs:=[_]) (cs:=[_]) AV0 AU1 AX6 Y V rfl V rfl V) ?_;rintro _ _ ⟨b2,rfl,rfl⟩;refine Xr [_,_,_] Y call107 Y V (KA _ 0 1 _ _ _ _ _ p V) ?_;refine Zv (Eg Y)<|Zm Y<|Ak (t:=11) Y V (fun hp=>?_) (fun hp=>?_)
 ·
  refine A7 Y V<|A7 Y V<|A7 Y V<|A7 Y V<|A7 Y V<|A7 Y V<|Zv (AZ Y Y)<|Z0<|Zn [1,18] ?_;refine Zx<|DV Y<|Zq<|Zg<|Za Y<|Z0<|Zx<|AC<|Zt<|AL rfl Al2 Y (by exact ⟨by rw [Am5 (fun h9:Eo p cs=>by have h91:=h9.pos;have h92:=h9.len;exact hp h91)],rfl⟩)
 refine Yf 1 AY1 V rfl Ai4 Y<|Yl isAgg48 Y ?_;refine Yg (Aa AZ0 Y)<|Ze (Af (vs:=[_]) (cs:=[_]) AV0 AU1 AX6 Y V rfl V rfl V) ?_;rintro _ _ ⟨b3,rfl,rfl⟩;refine Xr [_,_,_] Y call107 Y V (KA _ 0 1 _ _ _ _ _ (cs.length:Int) V) ?_;refine Yg (Eg Y)<|Zv (AU Y Y)<|Z0<|Zn [1,18] ?_;refine Zx<|Aw Y (fun hl=>?_) (fun hl=>?_)
 ·
  refine Zq<|Zg<|Za Y<|Z0<|Zx<|AC<|Zt<|AL rfl Al2 Y (by exact ⟨by rw [Am5 (fun h9:Eo p cs=>by have h91:=h9.pos;have h92:=h9.len;(apply hl;omega))],rfl⟩)
 refine AJ<|Zx<|Zq<|Zg<|Zv (BL (vs:=[(0,_)]) (cs:=#[_,_,_,_,_,_,_,_,_,_]) Y (AY (pl:=#[(0,1),(1,1),(2,1),(3,3),(6,1),(7,3)]) Ab1 AV4 (fun _=>by kernel_rfl) V))<|Ze (Al Ab1 #[_,_,_,_,_,_,_,_,_,_]) ?_;rintro _ _ ⟨lb,rfl,rfl⟩;refine Xe (BK AW4 Y Y (by(simp [Value.oneCell',Value.cells];done)) Wu Ap1 Ap3 Wn (by exact BF _)) ?_;refine Z0<|Zx<|Zq<|Zq<|Zg<|Zh 1 AY1 V rfl Ai4 Y<|Zl isAgg48 Y ?_;refine Zv (Aa AZ0 Y)<|Zm Y<|Z0<|Zx<|AO<|Zb [23,3,21,22] ?_;refine BI (e0:=[(23,_)]) (fun m e H=>∃(i:Nat) (y:Chg),m=cs.length -i/\(i<=cs.length/\(∀(j:Nat) (c:Chg),j<i->cs[j]?=some c->c.ok)/\(∀(j:Nat) (b c:Chg),j+1<i->cs[j]?=some b->cs[j+1]?=some c->b.lt c)/\(i=0/\y.t=-1\/0<i/\cs[i -1]?=some y))/\e=[(23,I4 (i:Int))]/\H=[[(lb,.cells #[I4 y.t,I4 y.k,.bool y.had,I4 y.o.a,I4 y.o.b,I4 y.o.c,.bool y.has,I4 y.n.a,I4 y.n.b,I4 y.n.c] 69 (0,0))]]) (by exact ⟨0,⟨-1,0,false,V3.zero,false,V3.zero⟩,V,⟨by omega,by intro j c hj;omega,by intro j b c hj;omega,.inl ⟨V,V⟩⟩,V,V⟩) Wp ?_;rintro _ _ _ ⟨i,y,rfl,⟨hi,hall,hord,hlast⟩,rfl,rfl⟩;refine Zq<|Zg<|Zv (Au Y Y)<|Z0<|Zx<|Zq<|Aw Y (fun hlt=>?_) (fun hlt=>?_)
 ·
  obtain ⟨x,hx⟩:∃x,cs[i]?=some x:=⟨_,zD hlt⟩;obtain ⟨g,off,cur,T,zz,rfl,hm,hsz,hex⟩:=hg i x hx;refine AJ<|Zx<|Zq<|AO<|Zq<|Zg<|Bq (Ai AZ0 AW4 Y Y Ao7)<|CW (cs:=[(g,.cells cur T zz)]) (by simp [hm]) (AA (cs:=#[I4 x.t,I4 x.k,.bool x.had,I4 x.o.a,I4 x.o.b,I4 x.o.c,.bool x.has,I4 x.n.a,I4 x.n.b,I4 x.n.c]) Aa3 AW4 Y Ao7 hex) V rfl ?_;refine Ze (Al Ab1 #[_,_,_,_,_,_,_,_,_,_]) ?_;rintro _ _ ⟨b5,rfl,rfl⟩;refine Xe (Xw AW4 _) ?_;refine Z0<|Zx<|Zq<|Zq<|Zg<|Zo Wh (Pa #[_,_,_,_,_,_,_,_,_,_] Aa3 AW4 Y) ?_;refine Xr [_] Y call67 Y V (UC x) ?_;refine Zv (Eg Y)<|Zm Y<|Ak (t:=30) Y V (fun hg1=>?_) (fun hg1=>?_)
  ·
   refine A7 Y V<|A7 Y V<|A7 Y V<|A7 Y V<|A7 Y V<|Zv (AZ Y Y)<|Zm Y<|A7 Y V<|A7 Y V<|A7 Y V<|A7 Y V<|A7 Y V<|A7 Y V<|A7 Y V<|A7 Y V<|A7 Y V<|A7 Y V<|A7 Y V<|A7 Y V<|Zv (AZ Y Y)<|Z0<|Zn [3,5,21,22,23,50] ?_;refine Zx<|DV Y<|Zq<|Zg<|Za Y<|Z0<|Zx<|AC<|Zt<|Ab<|Zt<|Zt<|Ab<|Zt<|AL rfl Al2 Y (by exact ⟨by rw [Am5 (fun h9:Eo p cs=>by have h91:=Vr hlast h9 hx;have h92:=h9.all i x hx;unfold Chg.lt at h91;exact hg1 h92)],rfl⟩)
  refine Yf 0 AV4 V rfl AU1 Y<|Yl AU2 Y ?_;refine Yf 0 AV4 V rfl AU1 Y<|Yl AU2 Y ?_;refine Yg (Dq Y Y)<|Zv (AU Y Y)<|Zm Y<|Ak (t:=37) Y V (fun hg2=>?_) (fun hg2=>?_)
  ·
   refine A7 Y V<|A7 Y V<|A7 Y V<|A7 Y V<|A7 Y V<|A7 Y V<|A7 Y V<|A7 Y V<|A7 Y V<|A7 Y V<|A7 Y V<|A7 Y V<|Zv (AZ Y Y)<|Z0<|Zn [3,5,21,22,23,50] ?_;refine Zx<|DV Y<|Zq<|Zg<|Za Y<|Z0<|Zx<|AC<|Zt<|Ab<|Zt<|Zt<|Ab<|Zt<|AL rfl Al2 Y (by exact ⟨by rw [Am5 (fun h9:Eo p cs=>by have h91:=Vr hlast h9 hx;have h92:=h9.all i x hx;unfold Chg.lt at h91;omega)],rfl⟩)
  refine Yf 0 AV4 V rfl AU1 Y<|Yl AU2 Y ?_;refine Yf 0 AV4 V rfl AU1 Y<|Yl AU2 Y ?_;refine Yg (CL Y Y)<|Zf Y Y ?_;refine Ak (t:=43) Y V (fun hg3=>?_) (fun hg3=>?_)
  ·
   refine Yf 1 AV4 V rfl AU1 Y<|Yl AU2 Y ?_;refine Yf 1 AV4 V rfl AU1 Y<|Yl AU2 Y ?_;refine Yg (OD Y Y)<|Yg (AZ Y Y)<|Zv (AU Y Y)<|Z0<|Zn [3,5,21,22,23,50] ?_;refine Zx<|Aw Y (fun ho=>?_) (fun ho=>?_)
   ·
    refine Zq<|Zg<|Za Y<|Z0<|Zx<|AC<|Zt<|Ab<|Zt<|Zt<|Ab<|Zt<|AL rfl Al2 Y (by exact ⟨by rw [Am5 (fun h9:Eo p cs=>by have h91:=Vr hlast h9 hx;have h92:=h9.all i x hx;unfold Chg.lt at h91;omega)],rfl⟩)
   refine AJ<|Zx<|Zg<|Zo Wh (Pa #[I4 x.t,I4 x.k,.bool x.had,I4 x.o.a,I4 x.o.b,I4 x.o.c,.bool x.has,I4 x.n.a,I4 x.n.b,I4 x.n.c] Aa3 AW4 Y) ?_;refine Xe (Xw AW4 _) ?_;refine Z0<|A9<|Zx<|Zg<|Ya (n:=1) Y Y<|Zm Y<|Z0<|Zn [23,3,21,22] ?_;refine Ad (e':=[(23,_)]) (by exact ⟨i+1,x,V,⟨by omega,Z7 hall hx (AD7.1 hg1),Xh hord hx (fD hlast (by unfold Chg.lt;omega)),.inr ⟨by omega,hx⟩⟩,V,V⟩)
  refine A7 Y V<|A7 Y V<|A7 Y V<|A7 Y V<|A7 Y V<|Yg (AU Y Y)<|Zv (AU Y Y)<|Z0<|Zn [3,5,21,22,23,50] ?_;refine Zx<|Dv Y<|AJ<|Zx<|Zg<|Zo Wh (Pa #[I4 x.t,I4 x.k,.bool x.had,I4 x.o.a,I4 x.o.b,I4 x.o.c,.bool x.has,I4 x.n.a,I4 x.n.b,I4 x.n.c] Aa3 AW4 Y) ?_;refine Xe (Xw AW4 _) ?_;refine Z0<|A9<|Zx<|Zg<|Ya (n:=1) Y Y<|Zm Y<|Z0<|Zn [23,3,21,22] ?_;refine Ad (e':=[(23,_)]) (by exact ⟨i+1,x,V,⟨by omega,Z7 hall hx (AD7.1 hg1),Xh hord hx (fD hlast (by unfold Chg.lt;omega)),.inr ⟨by omega,hx⟩⟩,V,V⟩)
 refine BG<|Zt<|Zt<|AX<|Zx<|Zq<|Zg<|Za Y<|Z0<|Zx<|AC<|AL rfl Al2 Y (by exact ⟨by rw [Am8 (⟨by omega,by omega,fun j c hc=>hall j c (by have:=(zF.1 hc).1;omega) hc,fun j b c hb hc=>hord j b c (by have:=(zF.1 hc).1;omega) hb hc⟩:Eo p cs)],rfl⟩)
end Go.Proofs.YteaiajghbkenoaaGreatDoor
