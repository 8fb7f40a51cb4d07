/- Contracts: digest.digest, slices.Chunk at 64 bytes. Contracts: slices.Chunk at 64 bytes, digest.Sum. -/
/-
  DERIVED: THE SHELF's CONTRACTS AT THIS DUMP, IN PLAIN WORDS (tools/lay-plain.mjs out of 'TryzShelf.lean', which tools/lay-shelf.mjs wrote): THE SAME DECLARATIONS UNDER THE SAME NAMES: 'import', 'namespace', 'open', 'def', 'theorem' AND NOTHING ELSE: no command of the shelf's: FOR A HAND-IN. Each laying: the table of numbers ('.._ren') and one theorem, a field a fact of the dump's own or the kernel's comparison; each contract: ONE APPLICATION.
-/
/- Contracts: digest.marked, Chain. -/
/- Contracts: wire.groups, PutInt, PutString. Contracts: wire.PutString, Int, String. -/
/- Rows and changes in plain words; the reference of layer 3. -/
import Derived.Test.YtkdgffcfmgmemaaGreatDoorEz
import Derived.Test.YtkdgffcfmgmemaaGreatDoorDg2
import Derived.Test.YtkdgffcfmgmemaaGreatDoorEx6
import Derived.Shelf.Strings.Builder1
import Derived.Shelf.Strings.Builder2
import Derived.Shelf.Strings.OnBuilder
import Derived.Shelf.Small.Bits
import Derived.Shelf.Small.Wraps
import Derived.Shelf.Strings.BuilderF
import Derived.Shelf.Strconv.Itoa0
import Derived.Shelf.Strings.Prefix
import Derived.Shelf.Bits.Mul64
import Derived.Shelf.Strings.Repeat
import Derived.Ground.Names2Prog
import Derived.Shelf.Slices.ReverseS
import Derived.Shelf.Slices.SearchI
import Derived.Shelf.Slices.Cells
import Derived.Test.YtkdgffcfmgmemaaGreatDoorProg
import Derived.Test.YtkdgffcfmgmemaaGreatDoorEx5
set_option linter.unusedVariables false
set_option linter.unusedSimpArgs false
namespace Go.Proofs.YtkdgffcfmgmemaaGreatDoor
open Go.Proofs.Tryz
open Go Go.RowKit Gw
set_option maxRecDepth 100000
attribute [local irreducible] Gw.At Gw.Nx Gw.Ops
def QS(N:Nat)(l:List UInt8):Array Value:=(l.map u8v++List.replicate (N -l.length) (Value.int .u8 0)).toArray
theorem iY(N:Nat)(l:List UInt8)(x:UInt8)(k:Nat)(hk:k=l.length)(h:l.length<N):(QS N l).setIfInBounds k (.int .u8 (x.toNat:Int))=QS N (l++[x]):=by
 subst hk;unfold QS;rw [yI];congr 1;rw [yu _ _ (by simp)];simp only [tJ,xU,tK,tY,vG];obtain ⟨n,hn⟩:∃n,N -l.length=n+1:=⟨N -1 -l.length,by omega⟩;rw [hn,show N -(l.length+(0+1))=n by omega];simp [List.replicate_succ,u8v]
theorem TG(N:Nat)(l:List UInt8)(h:l.length≤N):(QS N l).size=N:=by simp [QS];omega
theorem bX(N:Nat)(l:List UInt8)(h:l.length=N):(QS N l).toList=l.map u8v:=by simp [QS,h]
def PG(v:V8)(i k:Nat):List UInt8:=(v.list.take i).flatMap JJ++(JJ (v.list.getD i 0)).take k
theorem NJ(v:V8)(i k:Nat)(hi:i<8)(hk:k≤4):(PG v i k).length=4*i+k:=by
 have:i=0∨i=1∨i=2∨i=3∨i=4∨i=5∨i=6∨i=7:=by omega
 rcases this with rfl|rfl|rfl|rfl|rfl|rfl|rfl|rfl<;>simp [PG,V8.list,JJ]<;>omega
theorem cZ(v:V8)(i:Nat)(hi:i<8):PG v (i+1) 0=PG v i 4:=by
 have:i=0∨i=1∨i=2∨i=3∨i=4∨i=5∨i=6∨i=7:=by omega
 rcases this with rfl|rfl|rfl|rfl|rfl|rfl|rfl|rfl<;>rfl
theorem cK(v:V8)(i k:Nat)(hk:k<4):PG v i (k+1)=PG v i k++[((v.list.getD i 0)>>>UInt32.ofNat (24 -8*k)).toUInt8]:=by
 have:k=0∨k=1∨k=2∨k=3:=by omega
 unfold PG;generalize v.list.getD i 0=x;rcases this with rfl|rfl|rfl|rfl
 · simp [JJ]
 · simp [JJ]
 · simp [JJ]
 · have e:x>>>UInt32.ofNat (24 -8*3)=x:=by
    apply UInt32.toNat_inj.1;simp [zk]
   rw [e];simp [JJ]
theorem ZQ(v:V8):PG v 8 0=iy v:=rfl
theorem fq(y:V8)(i:Nat)(h:i<8):(v8c y)[i*1]?=some (Bj (y.list.getD i 0)):=by rw [wP];exact fu y i h
theorem X3(v:V8):Av Tryz.prog 246 #[.agg (v8c v)] [] (.string (str (iy v))):=by
 refine Se func246 ntmps246 [0] ?_;intro u R;refine Zq<|Zg<|Ze (H8 Y (cs:=(v8c v)) (by kernel_rfl)) ?_;rintro _ _ ⟨b1,rfl,rfl⟩;refine Za Y<|Z0<|Zx<|Zq<|Zg<|Ze (LK zeroValue342 (cs:=(QS 32 [])) (by kernel_rfl)) ?_;rintro _ _ ⟨bo,rfl,rfl⟩;refine Z0<|Zx<|Zq<|Zq<|Zg<|Zo Wh (AX (cs:=v8c v) isAgg298 sizeOf298 Y (by first|omega|exact tQ _) (by exact I1 _ _ rfl)) ?_;refine Zm Y<|Z0<|Zx<|AQ<|Zb [8,3,7] ?_;refine Az (e0:=[(8,_)]) (fun m e H=>∃i:Nat,m=8 -i∧(i≤8)∧e=[(8,I4 (i:Int))]∧H=[[(bo,.cells (QS 32 (PG v i 0)) 342 (0,0))]]) (by exact ⟨0,rfl,tX _,rfl,rfl⟩) Wp ?_;rintro _ _ _ ⟨i,rfl,hi,rfl,rfl⟩;refine Zq<|Zg<|Zv (Aq (n:=8) Y Y)<|Z0<|Zx<|Zq ?_;refine Ao Y (fun hc1=>?_) (fun hc1=>?_)
 ·
  refine AC<|Zx<|Zq<|AQ<|Zq<|Zg<|Zm Y<|Zv (Oq underlying298 isAgg227 sizeOf227 Y Y (by first|omega|exact tQ _) (by exact fq v i (by omega))) ?_;refine Za Y<|Za Y<|Z0<|Zx<|Zq<|Zg<|Zm Y<|Z0<|Zx<|AQ<|Zb [12,3,4,5,7,8] ?_;refine Az (e0:=[(12,_)]) (fun m e H=>∃k:Nat,m=4 -k∧(k≤4)∧e=[(12,I4 (k:Int))]∧H=[[(bo,.cells (QS 32 (PG v i k)) 342 (0,0))]]) (by exact ⟨0,rfl,tX _,rfl,rfl⟩) Wp ?_;rintro _ _ _ ⟨k,rfl,hk,rfl,rfl⟩;refine Zq<|Zg<|Zv (Aq (n:=4) Y Y)<|Z0<|Zx<|Zq ?_;refine Ao Y (fun hc2=>?_) (fun hc2=>?_)
  ·
   refine AC<|Zx<|Zq<|AQ<|Zq<|Zg<|Zm Y<|Za Y<|Z0<|Zx<|Zg<|Zm Y ?_;refine BM (Cz (m:=4) Y Y (by omega)) ?_;refine Zm Y<|Ya Y Y<|Zm Y<|Zm Y ?_;refine BM (Cz (m:=8) Y Y (by omega)) ?_;refine Yb (m:=24) Y Y ?_;refine BM (F6 Y Y (by omega)) ?_;refine Zv (Fb underlying227 underlying5 Y) ?_;refine BM (BG underlying342 sizeOf5 Y Y (by first|omega|(rw [TG _ _ (by rw [NJ _ _ _ (by omega) (by omega)];omega)];omega))) ?_;refine Xe (Zs sizeOf5 Y Y rfl (hc:=by exact (iY 32 (PG v i k) _ _ (by rw [NJ _ _ _ (by omega) (by omega)]) (by rw [NJ _ _ _ (by omega) (by omega)];omega)).trans (congrArg (QS 32) (cK v i k (by omega)).symm)) (hi:=by(rw [TG _ _ (by rw [NJ _ _ _ (by omega) (by omega)];omega)];omega))) ?_;refine Z0<|Zn [3,4,5,7,8,12] ?_;refine A8<|Zx<|Zg<|Ya (n:=1) Y Y<|Zm Y<|Z0<|Zn [12,3,4,5,7,8] ?_;refine Ab (e':=[(12,_)]) (by exact ⟨k+1,rfl,by omega,rfl,rfl⟩)
  have ek:k=4:=by omega
  subst ek;refine Ar<|Zt<|Zt<|AO<|A8<|Zx<|Zg<|Ya (n:=1) Y Y<|Zm Y<|Z0<|Zn [8,3,7] ?_;refine Ab (e':=[(8,_)]) (by exact ⟨i+1,rfl,by omega,rfl,by rw [cZ v i (by omega)]⟩)
 have ei:i=8:=by omega
 subst ei;refine Ar<|Zt<|Zt<|AO<|Zx<|Zq<|Zg<|Zv (F4 underlying342 sizeOf5 Y)<|Zo Wh (D5 underlying124 underlying5 underlying9 Y (by exact ⟨(by rw [bX 32 (PG v 8 0) (by rw [ZQ];rfl)];exact uN (by rw [wO,tJ,ZQ];exact tQ 32)),rfl⟩)) ?_;refine Za Y<|Z0<|Zx<|A9 ?_;refine AB rfl results246 Y (by exact ⟨rfl,rfl⟩)
def OY(g j:Nat):Value:= .slice (some ⟨g,64*j,none⟩) 64 64
theorem kR(g k M:Nat)(h:k<M):Value.slice (some ⟨g,0+64*k*1,none⟩) (64*k+min 64 (64*M -64*k) -64*k) (64*k+min 64 (64*M -64*k) -64*k)=OY g k:=by
 have h1:64*k+min 64 (64*M -64*k) -64*k=64:=by omega
 have h2:0+64*k*1=64*k:=by omega
 rw [h1,h2];rfl
theorem Vd(M k:Nat)(h:k<M):List.range M=List.range k++k::(List.range' (k+1) (M -k -1)):=by
 rw [zC,zC,←yw];rw [show M -k -1+1=M -k by omega];have:=List.range'_append_1 (s:=0) (m:=k) (n:=M -k)
 rw [show 0+k=k by omega,show k+(M -k)=M by omega]at this;exact this.symm
theorem YZ(g cap M:Nat)(bs bn:Nat)(hM:64*M≤cap)(hc:cap≤maxLen):
 RL Tryz.prog 280 #[I5 bs,I5 bn] [[(bs,.cells #[I6 g (64*M) cap] 124 (0,0))],[(bn,.cells #[I4 64] 3 (0,0))]] (fun j=>#[OY g j]) (List.range M):=by
 have hml:=mL;intro l J hy s hJ;refine Se func280 ntmps280 [0,1,2] ?_;intro u R;refine Zq<|Zg<|Za Y<|Z0<|Zx<|AQ<|Zb [4,0,1,2] ?_;refine Az (e0:=[(4,_)]) (fun m e H=>∃(k:Nat) (s:List AR),m=M -k∧(k≤M∧J (List.range k) s)∧e=[(4,I4 ((64*k:Nat):Int))]∧H=[s]) (by exact ⟨0,s,rfl,⟨tX _,hJ⟩,rfl,rfl⟩) Wp ?_;rintro _ _ _ ⟨k,s,rfl,⟨hk,hJ⟩,rfl,rfl⟩;refine Zq<|Zq<|Zg<|Zm Y<|Zl isAgg124 Y ?_;refine Zv (AV underlying124 Y)<|Zv (Aq Y Y)<|Z0<|Zx ?_;refine Ao Y (fun hc1=>?_) (fun hc1=>?_)
 ·
  refine AC<|Zx<|Zq<|AQ<|Zq<|BI (n:=7) (0::0::0::6::14::31::63::[]) 0 (by kernel_rfl) (by kernel_rfl) rfl ?_;refine Zj 1 0 rfl isAgg3 Y ?_;refine Zj 3 1 rfl isAgg124 Y ?_;refine Zi 7 2 rfl (AJ Y) ?_;refine Zi 15 3 rfl (Bz underlying124 sizeOf5 Y Y (by omega)) ?_;refine Zi 31 4 rfl (AV underlying124 Y)<|Zi 63 5 rfl (Lb Y Y)<|Zi 127 6 rfl (Ay Y)<|Am ?_;refine Zx<|Zq ?_;have hyk:=hy (List.range k) k _ s (Vd M k (by omega)) hJ
  rw [←yU]at hyk;rw [show(fun j=>#[OY g j]) k=#[OY g k] from rfl,←kR g k M (by omega)]at hyk;refine Zg<|Zm Y<|Zl isAgg124 Y ?_;refine Zm Y<|Zm Y<|Zm Y<|Ya Y Y<|Zm Y<|Zm Y<|Ya Y Y ?_
  (refine BM (QU underlying124 sizeOf5 Y Y Y Y ?_ ?_) ?_;(focus ((simp only [Nat.min_def];split<;>omega)));(focus (omega)))
  refine Ze (Mj (vs:=[_]) Y Y (hyk) Wp) ?_;rintro _ _ ⟨_,⟨s',rfl,rfl,hJ'⟩,rfl⟩;refine Zv (Ca Y)<|Z0<|Zn [0,1,2,4,30] ?_;refine Zx ?_;refine Af Y (fun hb=>?_) (fun hb=>?_)
  ·
   cases hb
  refine AC<|A8<|Zx<|Zg<|Zm Y<|Zl isAgg3 Y ?_;refine Yi Y Y<|Za Y<|Z0<|Zn [4,0,1,2] ?_;refine Ab (e':=[(4,_)]) (by exact ⟨k+1,s',rfl,⟨by omega,hJ'⟩,rfl,rfl⟩)
 have ek:k=M:=by omega
 subst ek;refine Ar<|Zt<|Zt<|AO ?_;refine Gz rfl results280 (by exact ⟨s,rfl,hJ⟩)
theorem YY(p:Option Addr)(n cap:Nat):CO Tryz.prog 244 #[.slice p n cap,I4 64] [] (fun r H'=>∃bs bn,r= .func (.func 280) #[] #[I5 bs,I5 bn]∧H'=[[(bs,.cells #[.slice p n cap] 124 (0,0))],[(bn,.cells #[I4 64] 3 (0,0))]]):=by
 refine Se func244 ntmps244 [0,1] ?_;intro u R;refine Zq<|Zg<|Ze (Bx #[_]) ?_;rintro _ _ ⟨b1,rfl,rfl⟩;refine Ze (Bx #[_]) ?_;rintro _ _ ⟨b2,rfl,rfl⟩;refine Za Y<|Z0<|Zx<|Zq<|Zq<|Zg<|Zl isAgg3 Y ?_;refine Zv (Aq (n:=1) Y Y)<|Z0<|Zx ?_;refine Ao Y (fun hc1=>?_) (fun hc1=>?_)
 ·
  exact absurd hc1 (by decide)
 refine AC<|Zx<|Zq<|Zg<|Zv (Bt (vs:=[]) (us:=[_,_]) Y Y) ?_;refine Za Y<|Z0<|Zx<|A9 ?_;refine AB rfl results244 Y (by exact ⟨b1,b2,rfl,rfl⟩)
theorem LB:∀(n:Nat) (h:V8) (b:List UInt8),FL (n+1) h b=KS (FL n h b) ((b.drop (64*n)).take 64)
 |0,h,b=>by simp [FL]
 |n+1,h,b=>by
  rw [FL,LB n,FL,yH];rw [show 64+64*n=64*(n+1) by omega]
def MN(l:List UInt8)(k:Nat):List UInt8:=l++[128]++List.replicate k 0
theorem GL(l:List UInt8)(k:Nat):(MN l k).length=l.length+1+k:=by simp [MN];omega
theorem TD(l:List UInt8)(k:Nat):(MN l k).map u8v++[.int .u8 0]=(MN l (k+1)).map u8v:=by
 unfold MN;rw [List.replicate_succ'];simp [u8v]
def QR(l:List UInt8)(j:Nat):List UInt8:=MN l (IP l.length)++(PI l.length).take j
theorem TE(l:List UInt8):QR l 0=MN l (IP l.length):=by simp [QR]
theorem O9(l:List UInt8):QR l 8=EA l:=by
 have:(PI l.length).take 8=PI l.length:=uN (by simp [PI]);simp [QR,MN,EA,this]
theorem jQ(n j:Nat)(h:j<8):(PI n).take (j+1)=(PI n).take j++[UInt8.ofNat (8*n/2^(8*(7 -j)))]:=by
 rw [xu (by simp [PI];omega)];simp [PI]
theorem TF(l:List UInt8)(j q:Nat)(h:q+j=7):(QR l j).map u8v++[.int .u8 ((UInt8.ofNat (8*l.length/2^(8*q))).toNat:Int)]=(QR l (j+1)).map u8v:=by
 unfold QR;rw [jQ _ _ (by omega),show 7 -j=q by omega];simp [u8v]
theorem NI(l:List UInt8)(j:Nat)(h:j≤8):(QR l j).length=l.length+1+IP l.length+j:=by
 have:(PI l.length).length=8:=by simp [PI]
 simp [QR,GL,this];omega
theorem ZY(m:Nat):IntKind.u8.wrap (m:Int)=((UInt8.ofNat m).toNat:Int):=by
 rw [IntKind.wrap_u8',UInt8.toNat_ofNat'];omega
theorem Yx(n k:Nat)(hk:k≤IP n)(h:(n+1+k)%64≠56):k<IP n:=by
 have:=Yv n;rcases uJ k (IP n)with h1|h1
 · exact h1
 · have:k=IP n:=by omega
   subst this;contradiction
theorem Yy(n k:Nat)(hk:k≤IP n)(h:(n+1+k)%64=56):k=IP n:=by
 unfold IP at hk⊢;omega
theorem bH{M x:Nat}{pre post:List Nat}(h:List.range M=pre++x::post):x=pre.length∧x<M:=by
 have h1:(List.range M)[pre.length]?=some x:=by rw [h];simp
 have hlt:pre.length<M:=by
  have:=(tH.1 h1).1;simpa using this
 rw [xQ hlt]at h1;have:=wN h1
 omega
theorem Oz{cur:Array Value}{p:List UInt8}(h:cur.toList.take (p.map u8v).length=p.map u8v)(k:Nat)(hk:64*k+64≤p.length):KU cur (64*k) ((p.drop (64*k)).take 64):=by
 unfold KU;have hl:((p.drop (64*k)).take 64).length=64:=by simp;omega
 rw [hl,List.map_take,List.map_drop,←h];rw [zU,xB];congr 1;simp;omega
theorem ZJ(l:List UInt8)(M:Nat)(h:(EA l).length=64*M):sha l=iy (FL M h0 (EA l)):=by
 unfold sha;rw [h,Nat.mul_div_cancel_left _ (by omega)]
theorem gH(s:ByteArray)(hs:s.size≤140737488355000)(Tg:TypeId)(zg:Nat×Nat):
 Av Tryz.prog 195 #[.string s] [[(1,.cells (Cs.map Bj).toArray Tg zg)]] (.string (str (sha s.data.toList))):=by
 have hml:=mL;obtain ⟨l,hl⟩:∃l,l=s.data.toList:=⟨_,rfl⟩;have hn:l.length=s.size:=by rw [hl];rfl
 have hz:IP s.size<64:=by unfold IP;omega
 refine G5 func195 rfl ntmps195 rfl ?_;intro u R;refine Zb [0] ?_;refine Zq<|Zg<|Za Y<|Z0<|Zx<|Zq<|Zg<|Zv (BK (vs:=[(0,_),(1,_),(2,_),(3,_),(4,_),(5,_),(6,_),(7,_)]) (cs:=#[_,_,_,_,_,_,_,_]) Y (Ch zeroValue298 underlying298 sizeOf227 rfl)) ?_;refine Ze (Al zeroValue298 #[_,_,_,_,_,_,_,_]) ?_;rintro _ _ ⟨bh,rfl,rfl⟩;refine Xe (BN sizeOf298 Y Y (by exact Z8 h0) Wu (by exact (rfl:_=v8c (FL 0 h0 (EA l)))) (by first|rfl|(simp;done)) Wn (by exact BQ _)) ?_;refine Z0<|Zx<|Zq<|Zg<|Zm Y<|Ze (lM underlying9 underlying124 underlying5 Y (by omega)) ?_;rintro _ _ ⟨sa,hra,rfl⟩;obtain ⟨ga,ca,rfl⟩:=hra.form;refine Ze (Ae (vs:=[_]) (cs:=[_]) underlying124 sizeOf5 zeroValue5 Y rfl rfl rfl rfl rfl) ?_;rintro _ _ ⟨b3,rfl,rfl⟩;refine Ze (Dq (by_:=1) (news:=[_]) underlying124 (rfl:Tryz.prog.info? 5=some Tryz.t5) rfl rfl rfl rfl Y hra Y Wo Wh (by rfl) rfl (by simp [Value.oneCell']) (by decide) (by(simp only [tJ,←hl,hn];omega)) (by(simp only [tJ,←hl,hn];omega))) ?_;rintro _ _ ⟨sb,hrb,rfl⟩;obtain ⟨gb,cb,rfl⟩:=hrb.form;refine Za Y<|Z0<|Zx<|Zq<|AQ ?_;have hr0:Row 5 (.slice gb (List.map u8v s.data.toList++[Value.int IntKind.u8 128]).length cb) ((MN l 0).map u8v) sb:=by
  have e:(MN l 0).map u8v=List.map u8v s.data.toList++[Value.int IntKind.u8 128]:=by rw [←hl];simp [MN,u8v]
  rw [e];exact hrb
 refine Zb [4,0,3] ?_;refine Az (e0:=[(4,_)]) (fun m e H=>∃(k:Nat) (v:Value) (sv:List AR),m=IP s.size -k∧(k≤IP s.size∧Row 5 v ((MN l k).map u8v) sv)∧e=[(4,v)]∧H=[sv]) (by exact ⟨0,_,_,rfl,⟨tX _,hr0⟩,rfl,rfl⟩) Wp ?_;rintro _ _ _ ⟨k,v,sv,rfl,⟨hk,hrv⟩,rfl,rfl⟩;obtain ⟨gv,cv,rfl⟩:=hrv.form;refine Zq<|Zq<|Zg<|Zm Y<|Zv (AV underlying124 Y) ?_;refine BM (En (n:=64) Y Y (by omega)) ?_;refine Zv (Dw (n:=56) Y Y)<|Z0<|Zx ?_;refine Ao Y (fun hlen=>?_) (fun hlen=>?_)
 ·
  rw [tJ,GL,hn]at hlen;have hk2:=Yx _ _ hk hlen
  refine AC<|Zx<|AQ<|Zg<|Zm Y<|Ze (Ae (vs:=[_]) (cs:=[_]) underlying124 sizeOf5 zeroValue5 Y rfl rfl rfl rfl rfl) ?_;rintro _ _ ⟨b5,rfl,rfl⟩;refine Ze (Dq (by_:=1) (news:=[_]) underlying124 (rfl:Tryz.prog.info? 5=some Tryz.t5) rfl rfl rfl rfl Y hrv Y Wo Wh (by rfl) rfl (by simp [Value.oneCell']) (by decide) (by(simp only [tJ,GL,hn];omega)) (by(simp only [tJ,GL,hn];omega))) ?_;rintro _ _ ⟨sc,hrc,rfl⟩;obtain ⟨gc,cc,rfl⟩:=hrc.form;refine Za Y<|Z0<|A8<|Zn [4,0,3] ?_;refine Ab (e':=[(4,_)]) (by exact ⟨k+1,_,_,rfl,⟨hk2,by rw [←TD];exact hrc⟩,rfl,rfl⟩)
 rw [tJ,GL,hn]at hlen;have ek:=Yy _ _ hk (by omega)
 subst ek;refine Ar<|Zt<|Zt<|AO<|Zx<|Zq<|Zq<|Zg<|Za Y<|Z0<|Zx<|AQ<|Zb [4,5,0,3] ?_;refine Az (e0:=[(4,_),(5,_)]) (fun m e H=>∃(j:Nat) (i:Int) (v:Value) (sv:List AR),m=8 -j∧(j≤8∧i=7 -(j:Int)∧Row 5 v ((QR l j).map u8v) sv)∧e=[(4,v),(5,I4 i)]∧H=[sv]) (by exact ⟨0,_,_,_,rfl,⟨tX _,rfl,by rw [TE,hn];exact hrv⟩,rfl,rfl⟩) Wp ?_;rintro _ _ _ ⟨j,i,v,sv,rfl,⟨hj,hi,hrv⟩,rfl,rfl⟩;obtain ⟨gv,cv,rfl⟩:=hrv.form;refine Zq<|Zq<|Zg<|Zm Y<|Zv (GZ Y Y)<|Z0<|Zx ?_;refine Ao Y (fun hi0=>?_) (fun hi0=>?_)
 ·
  obtain ⟨q,rfl⟩:=zu hi0;refine AC<|Zx<|Zq<|AQ<|Zg<|Zm Y<|Zm Y<|Zv (EN underlying9 Y) ?_;refine BM (Cz (m:=8) Y Y (by omega)) ?_;refine Zm Y ?_;refine BM (Cz (m:=8) Y Y (by omega)) ?_;refine BM (OC Y Y (by first|decide|(simp [IntKind.bits];done)|(simp [IntKind.bits];omega))) ?_;refine JX (Ea underlying3 underlying5 Y (ZY _)) rfl rfl ?_;refine Ze (Ae (vs:=[_]) (cs:=[_]) underlying124 sizeOf5 zeroValue5 Y rfl rfl rfl rfl rfl) ?_;rintro _ _ ⟨b7,rfl,rfl⟩;refine Ze (Dq (by_:=1) (news:=[_]) underlying124 (rfl:Tryz.prog.info? 5=some Tryz.t5) rfl rfl rfl rfl Y hrv Y Wo Wh (by rfl) rfl (by simp [Value.oneCell']) (by decide) (by(simp only [tJ,NI l j hj,hn];omega)) (by(simp only [tJ,NI l j hj,hn];omega))) ?_;rintro _ _ ⟨sd,hrd,rfl⟩;obtain ⟨gd,cd,rfl⟩:=hrd.form;refine Za Y<|Z0<|Zn [0,3,4,5] ?_;refine A8<|Zx<|Zg<|Zm Y ?_
  (refine BM (G8 Y Y (IntWalk.i64_in _ ?_)) ?_;(focus (omega)))
  refine Za Y<|Z0<|Zn [4,5,0,3] ?_;refine Ab (e':=[(4,_),(5,_)]) (by exact ⟨j+1,_,_,_,rfl,⟨by omega,by omega,by rw [←TF l j q (by omega),hn];exact hrd⟩,rfl,rfl⟩)
 have ej:j=8:=by omega
 subst ej;refine Ar<|Zt<|Zt<|AO<|Zx<|Zq<|Zq ?_;rw [O9]at hrv;obtain ⟨M,hM⟩:∃M,(EA l).length=64*M:=⟨(EA l).length/64,by have:=QQ l;omega⟩;have hpl:=MK l
 rw [hn]at hpl;rw [O9];obtain ⟨g,cap,cur,z,hv,rfl,hle,hcm,hcs,htk,hfr⟩:=hrv.some (by rw [tJ];omega);simp only [Value.slice.injEq]at hv;obtain ⟨rfl,_,rfl⟩:=hv;rw [tJ]at hle;rw [tJ,hM];refine Zg<|Zm Y<|Zc [_,_] Y call244 Y rfl (YY _ _ _) ?_;rintro _ _ ⟨_,⟨bs,bn,rfl,rfl⟩,rfl⟩;refine Z0<|Zx<|AQ<|Zb [3,34] ?_;refine PD (H0:=_) (R:=_) (I:=(fun pre H=>H=[[(bh,.cells (v8c (FL pre.length h0 (EA l))) 298 (0,0))],[(g,.cells cur 5 z)],[(1,.cells (Cs.map Bj).toArray Tg zg)]])) (asg:=fun x=>[(6,OY g x),(35,OY g x)]) rfl Y call280 (YZ g cv M bs bn (by omega) hcm) Y rfl Wp (rfl) ?ha_6 ?hbd_6 ?hk_6
 case ha_6=>
  intro _ x _ _;refine Zg<|Za Y<|Z0 ?_;exact jC
 case hbd_6=>
  intro l pre x post u H1 R1 hxs hI;subst hI;obtain ⟨hx1,hx2⟩:=bH hxs;subst hx1;refine AQ<|Zg<|Zm Y<|Zc [_,_] Y call245 Y rfl (ku _ _ _ _ _ _ _ _ (by rw [tL,tN];omega) (Oz htk _ (by omega)) _ _ _ _) ?_;rintro _ _ ⟨_,⟨rfl,rfl⟩,rfl⟩;refine Z0<|A8 ?_;refine Ji rfl (by rw [tK,tT,LB])
 intro D1 H2 hI2;subst hI2;refine Zn [3] ?_;refine A8<|Zx<|Zq<|Zg<|Zo Wh (AX (cs:=v8c (FL M h0 (EA l))) isAgg298 sizeOf298 Y Wn (by rw [yE];exact I1 _ _ rfl)) ?_;refine Xr [_] Y call246 Y rfl (X3 _) ?_;refine Za Y<|Z0<|Zx<|A9 ?_;refine Jj rfl (VV results195 Y) Wo (by exact ⟨by rw [←hl,ZJ l M hM],rfl⟩)
end Go.Proofs.YtkdgffcfmgmemaaGreatDoor
namespace Go.Proofs
open Go.Shelf
def Tryz.lays156_ren:Go.Shelf.Ren:=⟨fun|156=>279|165=>189|166=>190|169=>192|240=>241|241=>242|276=>276|277=>277|n=>n,fun|31=>47|9=>9|3=>3|4=>4|0=>0|20=>20|72=>239|76=>241|70=>237|37=>124|75=>204|127=>294|164=>333|5=>5|80=>244|n=>n,fun|n=>n⟩
theorem Tryz.lays156:Go.Proofs.Lays.n156 Tryz.prog Tryz.lays156_ren:={
 mixed:=by kernel_rfl
 f156:=func279.trans (congrArg some (by kernel_rfl))
 f165:=func189.trans (congrArg some (by kernel_rfl))
 f166:=func190.trans (congrArg some (by kernel_rfl))
 f169:=func192.trans (congrArg some (by kernel_rfl))
 f240:=func241.trans (congrArg some (by kernel_rfl))
 f241:=func242.trans (congrArg some (by kernel_rfl))
 f276:=func276.trans (congrArg some (by kernel_rfl))
 f277:=func277.trans (congrArg some (by kernel_rfl))
 t0:=underlying0
 a0:=isAgg0
 z0:=sizeOf0
 v0:=zeroValue0
 t3:=underlying3
 a3:=isAgg3
 z3:=sizeOf3
 v3:=zeroValue3
 t4:=underlying4
 a4:=isAgg4
 z4:=sizeOf4
 v4:=zeroValue4
 t9:=underlying9
 a9:=isAgg9
 z9:=sizeOf9
 v9:=zeroValue9
 t20:=underlying20
 a20:=isAgg20
 z20:=sizeOf20
 v20:=zeroValue20
 t31:=underlying47
 a31:=isAgg47
 z31:=sizeOf47
 v31:=zeroValue47
 t37:=underlying124
 a37:=isAgg124
 z37:=sizeOf124
 v37:=zeroValue124
 t70:=underlying237
 a70:=isAgg237
 z70:=sizeOf237
 v70:=zeroValue237
 t72:=underlying239
 a72:=isAgg239
 z72:=sizeOf239
 v72:=zeroValue239
 t75:=underlying204
 a75:=isAgg204
 z75:=sizeOf204
 v75:=zeroValue204
 t76:=underlying241
 a76:=isAgg241
 z76:=sizeOf241
 v76:=zeroValue241
 t127:=underlying294
 a127:=isAgg294
 z127:=sizeOf294
 v127:=zeroValue294
 t164:=underlying333
 a164:=isAgg333
 z164:=sizeOf333
 v164:=zeroValue333}
theorem Tryz.Builder_Extra_156:Builder.Extra Tryz.prog Tryz.lays156_ren:={
 sizeBuilder:=by kernel_rfl
 liesBuilder:=by kernel_rfl
 t5:=underlying5
 a5:=isAgg5
 z5:=sizeOf5
 v5:=zeroValue5
 infoByte:=by kernel_rfl
 cellsByte:=by kernel_rfl
 sizeByte:=by kernel_rfl
 neB5:=by decide}
open Go.RowKit in
theorem Tryz.strings_Join(bk o c:Nat)(xs:List ByteArray)(sep:ByteArray)(w:World)(hcells:∀(j:Nat) x,xs[j]?=some x→w.cell? ⟨bk,o+j,none⟩=some (.string x))(hbk:bk<w.heap.size)(hN:xs.length≤140737488355328)(hcap:xs.length≤c)(hlen:(Lib.join (xs.map (·.data.toList)) sep.data.toList).length≤140737488355328):
 Calls Tryz.prog 279 #[.slice (some ⟨bk,o,none⟩) xs.length c,.string sep] w fun e w'=>e= .returned (.string ⟨(Lib.join (xs.map (·.data.toList)) sep.data.toList).toArray⟩)∧Below w.heap.size w w':=Any.strings_Join Tryz.lays156 Tryz.Builder_Extra_156 bk o c xs sep w hcells hbk hN hcap hlen
def Tryz.lays125_ren:Go.Shelf.Ren:=⟨fun|125=>253|128=>284|129=>285|n=>n,fun|46=>231|3=>3|51=>227|53=>254|4=>4|5=>5|9=>9|n=>n,fun|n=>n⟩
theorem Tryz.lays125:Go.Proofs.Lays.n125 Tryz.prog Tryz.lays125_ren:={
 mixed:=by kernel_rfl
 f125:=func253.trans (congrArg some (by kernel_rfl))
 f128:=func284.trans (congrArg some (by kernel_rfl))
 f129:=func285.trans (congrArg some (by kernel_rfl))
 t3:=underlying3
 a3:=isAgg3
 z3:=sizeOf3
 v3:=zeroValue3
 t4:=underlying4
 a4:=isAgg4
 z4:=sizeOf4
 v4:=zeroValue4
 t5:=underlying5
 a5:=isAgg5
 z5:=sizeOf5
 v5:=zeroValue5
 t9:=underlying9
 a9:=isAgg9
 z9:=sizeOf9
 v9:=zeroValue9
 t46:=underlying231
 a46:=isAgg231
 z46:=sizeOf231
 v46:=zeroValue231
 t51:=underlying227
 a51:=isAgg227
 z51:=sizeOf227
 v51:=zeroValue227
 t53:=underlying254
 a53:=isAgg254
 z53:=sizeOf254
 v53:=zeroValue254}
theorem Tryz.bits_Len(x:Int)(w:World)(h0:0≤x)(h1:x≤18446744073709551615):
 Calls Tryz.prog 253 #[.int .u64 x] w fun e w'=>e= .returned (I4 (Lib.bitLen x.toNat))∧w'=w:=Any.bits_Len Tryz.lays125 x w h0 h1
def Tryz.lays122_ren:Go.Shelf.Ren:=⟨fun|122=>212|215=>257|n=>n,fun|3=>3|4=>4|n=>n,fun|n=>n⟩
theorem Tryz.lays122:Go.Proofs.Lays.n122 Tryz.prog Tryz.lays122_ren:={
 mixed:=by kernel_rfl
 f122:=func212.trans (congrArg some (by kernel_rfl))
 f215:=func257.trans (congrArg some (by kernel_rfl))
 t3:=underlying3
 a3:=isAgg3
 z3:=sizeOf3
 v3:=zeroValue3
 t4:=underlying4
 a4:=isAgg4
 z4:=sizeOf4
 v4:=zeroValue4}
open Go.RowKit in
theorem Tryz.cmp_Compare_int(x y:Int)(w:World):
 Calls Tryz.prog 212 #[I4 x,I4 y] w fun e w'=>e= .returned (I4 (Lib.compareInt x y))∧w'=w:=Any.cmp_Compare_int Tryz.lays122 x y w
def Tryz.laysNm217_ren:Go.Shelf.Ren:=⟨fun|17=>208|n=>n,fun|24=>47|9=>9|3=>3|4=>4|0=>0|n=>n,fun|n=>n⟩
theorem Tryz.laysNm217:Go.Proofs.Lays2.n17 Tryz.prog Tryz.laysNm217_ren:={
 mixed:=by kernel_rfl
 f17:=func208.trans (congrArg some (by kernel_rfl))
 t0:=underlying0
 a0:=isAgg0
 z0:=sizeOf0
 v0:=zeroValue0
 t3:=underlying3
 a3:=isAgg3
 z3:=sizeOf3
 v3:=zeroValue3
 t4:=underlying4
 a4:=isAgg4
 z4:=sizeOf4
 v4:=zeroValue4
 t9:=underlying9
 a9:=isAgg9
 z9:=sizeOf9
 v9:=zeroValue9
 t24:=underlying47
 a24:=isAgg47
 z24:=sizeOf47
 v24:=zeroValue47}
open Go.RowKit Go.Lib Go.Sort in
theorem Tryz.slices_Reverse_string(blk off cap:Nat)(zs:List (List UInt8))(w:World)(hH:Holds encStr w blk off zs.toArray)(hsz:zs.length≤9223372036854775807):
 Calls Tryz.prog 208 #[.slice (some ⟨blk,off,none⟩) zs.length cap] w fun e w'=>e= .returned (.tuple #[])∧∃n,w'=putRow encStr (Sort.ahead w n) blk off zs.reverse.toArray:=Any.slices_Reverse_string Tryz.laysNm217 blk off cap zs w hH hsz
open Go.RowKit Go.Lib Go.Sort in
theorem Tryz.slices_Reverse_string_empty(a:Option Addr)(cap:Nat)(w:World):
 Calls Tryz.prog 208 #[.slice a 0 cap] w fun e w'=>e= .returned (.tuple #[])∧w'=w:=Any.slices_Reverse_string_empty Tryz.laysNm217 a cap w
end Go.Proofs
namespace Go.Proofs.YtkdgffcfmgmemaaGreatDoor
open Go.Proofs.Tryz
open Go Go.RowKit Gw
set_option maxRecDepth 100000
attribute [local irreducible] Gw.At Gw.Nx Gw.Ops
def Dx(l:List UInt8):Value:= .string (str l)
theorem E8(a b:List UInt8):str a++str b=str (a++b):=by
 apply ByteArray.ext;simp [str]
theorem Ba(a:List UInt8):(str a).size=a.length:=by simp [str,ByteArray.size]
theorem HV(a:List UInt8):(str a).data.toList=a:=by simp [str]
theorem WJ(xs:List (List UInt8)):Lib.join xs []=xs.flatten:=by
 unfold Lib.join;induction xs with
 |nil=>rfl
 |cons x r ih=>cases r with
  |nil=>simp
  |cons y r=>rw [List.intercalate_cons_cons];rw [ih];simp
theorem nT{w:World}{b o:Nat}{c:Array Value}{T:TypeId}{z:Nat×Nat}{cs:List Value}(hb:w.heap[b]?=some (.cells c T z))(h:Bw c o cs)(j:Nat)(v:Value)(hj:cs[j]?=some v):w.cell? ⟨b,o+j,none⟩=some v:=by
 have:=I7 hb h j v hj;rcases vJ j with rfl|h0
 · simpa [Addr.add]using this
 · simpa [Addr.add,Nat.ne_of_gt h0]using this
theorem dS(bk o cap:Nat)(cs:Array Value)(T:TypeId)(z:Nat×Nat)(xs:List (List UInt8))(hc:Bw cs o (xs.map Dx))(hN:xs.length≤140737488355328)(hcap:xs.length≤cap)(hlen:xs.flatten.length≤140737488355328):
 Av Tryz.prog 279 #[.slice (some ⟨bk,o,none⟩) xs.length cap,.string (str [])] [[(bk,.cells cs T z)]] (.string (str xs.flatten)):=
 Pk (Rl:=fun v=>v= .string (str xs.flatten)) (fun w hw=>by
  have hb:=hw (bk,.cells cs T z) (by simp);have h:=Tryz.strings_Join bk o cap (xs.map str) (str []) w (fun j x hx=>by
   refine nT hb hc j _ ?_;rw [uD]at hx⊢;cases h1:xs[j]?with
   |none=>rw [h1]at hx;cases hx
   |some y=>rw [h1]at hx;cases hx;rfl) (by
    rcases uJ bk w.heap.size with h1|h1
    · exact h1
    · rw [uT h1]at hb;cases hb) (by simpa using hN) (by simpa using hcap) (by
    rw [AA1];have:(xs.map ((fun s:ByteArray=>s.data.toList)∘str))=xs:=by simp [str,yg]
    rw [this,HV,WJ];exact hlen)
  rw [tJ]at h;refine h.mono ?_;rintro e w' ⟨rfl,hbw⟩;refine ⟨_,rfl,?_,hbw⟩;rw [AA1];have:(xs.map ((fun s:ByteArray=>s.data.toList)∘str))=xs:=by simp [str,yg]
  rw [this,HV,WJ];rfl) (fun v hv=>⟨hv,rfl⟩)
def Me(head rec:List UInt8):List UInt8:=sha (2::head++rec)
theorem ZG(l:List UInt8)(hs:l.length≤140737488355000)(Tg:TypeId)(zg:Nat×Nat):Av Tryz.prog 195 #[.string (str l)] [[(1,.cells (Cs.map Bj).toArray Tg zg)]] (.string (str (sha l))):=by
 have:=gH (str l) (by rw [Ba];exact hs) Tg zg;rw [HV]at this;exact this
theorem Iy(bk o cap bm:Nat)(cs:Array Value)(T Tm:TypeId)(z zm:Nat×Nat)(xs:List (List UInt8))(m:List UInt8)(hc:Bw cs o (xs.map Dx))(hN:xs.length≤140737488355328)(hcap:xs.length≤cap)(hlen:m.length+xs.flatten.length≤140737488355000)(Tg:TypeId)(zg:Nat×Nat):
 Av Tryz.prog 278 #[.slice (some ⟨bk,o,none⟩) xs.length cap,I5 bm] [[(bk,.cells cs T z)],[(bm,.cells #[Dx m] Tm zm)],[(1,.cells (Cs.map Bj).toArray Tg zg)]] (.string (str (sha (m++xs.flatten)))):=by
 refine Io func278 rfl ntmps278 rfl ?_;intro u R;unfold Dx;refine Zb [0,1] ?_;refine Zq<|Zg<|Za Y<|Z0<|Zx<|Zq<|BI (n:=6) (0::0::2::7::15::31::[]) 20 (by kernel_rfl) (by kernel_rfl) rfl ?_;refine Zj 1 0 rfl isAgg9 Y ?_;refine Zi 3 1 rfl (AJ Y)<|Zz (l:=[2]) ?_;refine Zy 2 7 [0] [true] [(0,(_,_))] rfl Y rfl rfl rfl rfl (Zu [_,_] Y call279 Y rfl (dS bk o cap cs T z xs hc hN hcap (by omega))) ?hk_1 (fun _ _ h=>h.elim) ?hl_1
 case hk_1=>
  rintro _ _ ⟨rfl,rfl⟩;refine ⟨Zk (Ad),?_⟩;refine Zi 15 3 rfl (Dc Y Y (by rw [Ba,Ba];omega)) ?_;refine Yw 4 31 rfl (Zu [_] Y call195 Y rfl ((E8 m xs.flatten)▸ZG (m++xs.flatten) (by rw [tK];omega) Tg zg)) ?_;rintro _ _ ⟨rfl,rfl⟩;refine Zi 63 5 rfl (Ay Y)<|Am ?_;refine Zx<|A9 ?_;refine AB rfl results278 Y (by exact ⟨rfl,rfl⟩)
 exact Aw
theorem Kr(m:ByteArray):CO Tryz.prog 243 #[.string m] [] (fun r H'=>∃b,r= .func (.func 278) #[] #[I5 b]∧H'=[[(b,.cells #[.string m] 9 (0,0))]]):=by
 refine Se func243 ntmps243 [0] ?_;intro u R;refine Zq<|Zg<|Ze (Bx #[_]) ?_;rintro _ _ ⟨b1,rfl,rfl⟩;refine Za Y<|Z0<|Zx<|Zq<|Zg<|Zv (Bt (vs:=[]) (us:=[_]) Y Y) ?_;refine Za Y<|Z0<|Zx<|A9 ?_;refine AB rfl results243 Y (by exact ⟨_,rfl,rfl⟩)
theorem Yc(h r:List UInt8)(hlen:h.length+r.length≤140737488354999)(Tg:TypeId)(zg:Nat×Nat):
 Av Tryz.prog 223 #[.string (str h),.string (str r)] [[(1,.cells (Cs.map Bj).toArray Tg zg)]] (.string (str (Me h r))):=by
 refine Se func223 ntmps223 [0,1] ?_;intro u R;refine Zq<|Zg<|Za Y<|Z0<|Zx<|Zq<|Zg<|Zc [_] Y call243 Y rfl (Kr _) ?_;rintro _ _ ⟨_,⟨bm,rfl,rfl⟩,rfl⟩;refine Zm Y<|Zm Y<|Ze (Ae (vs:=[_,_]) (cs:=[_,_]) underlying47 sizeOf9 zeroValue9 Y rfl rfl rfl rfl rfl) ?_;rintro _ _ ⟨bk,rfl,rfl⟩;refine Xr [_] Y call278 Y rfl (Iy bk 0 2 bm #[Dx h,Dx r] _ _ _ _ [h,r] [2] rfl (by simp) (by simp) (by simp;omega) _ _) ?_;refine Za Y<|Z0<|Zx<|A9 ?_;refine AB rfl results223 Y (by exact ⟨by simp [Me],rfl⟩)
def MW(z:Nat):List (Nat×Bool):=if h:z<128 then [(z,true)]else(z%128,false)::MW (z/128)
termination_by z
decreasing_by omega
theorem H5(z:Nat):MW z=(z%128,decide (z<128))::(if z<128 then []else MW (z/128)):=by
 rw [MW];by_cases h:z<128
 · simp [h,xJ h]
 · simp [h]
theorem nL(z:Nat):∀x∈MW z,x.1<128:=by
 induction z using Nat.strongRecOn with
 |_ z ih=>
  intro x hx;rw [H5]at hx;rcases uI.1 hx with rfl|hx
  · exact AA3 _ (by decide)
  · by_cases h:z<128
    · rw [if_pos h]at hx;cases hx
    · rw [if_neg h]at hx;exact ih (z/128) (by omega) x hx
theorem ji(z k:Nat)(h:z<128^(k+1)):(MW z).length≤k+1:=by
 induction k generalizing z with
 |zero=>rw [H5,if_pos (by simpa using h)];simp
 |succ k ih=>
  rw [H5];by_cases h1:z<128
  · rw [if_pos h1];simp
  · rw [if_neg h1,tY]
    have:z/128<128^(k+1):=by
     rw [yB]at h;exact zF (by rw [AA4];exact h)
    have:=ih _ this;omega
def gb(x:Nat×Bool):UInt8:=UInt8.ofNat (if x.2 then x.1 else x.1+128)
theorem YL(x:Nat×Bool)(h:x.1<128):u8v (gb x)= .int .u8 ((if x.2 then x.1 else x.1+128:Nat):Int):=by
 unfold u8v gb;rw [UInt8.toNat_ofNat',xJ (by split<;>omega)]
def zz(n:Int):Nat:=(if n<0 then-(2*n) -1 else 2*n).toNat
def L6(n:Int):List UInt8:=(MW (zz n)).map gb
theorem fO(n:Int)(h1:-4611686018427387903≤n)(h2:n≤4611686018427387903):zz n<9223372036854775808:=by unfold zz;split<;>omega
theorem Wx(n:Int):0<(L6 n).length:=by unfold L6;rw [H5];simp
theorem GR(n:Int)(h1:-4611686018427387903≤n)(h2:n≤4611686018427387903):(L6 n).length≤9:=by
 unfold L6;rw [tJ];exact ji (zz n) 8 (by have:=fO n h1 h2;omega)
theorem qD(y:Nat)(h:y<18446744073709551616):bits .and .u64 (y:Int) 127=((y%128:Nat):Int):=by
 have:=u64_and_nat y 127 h (by decide);rw [nat_mask7]at this;exact this
theorem qg(g:Nat)(h:g<128):bits .or .u8 (g:Int) 128=((g+128:Nat):Int):=by
 have:=u8_or_nat g 128 (by omega) (by decide);rw [Nat.or_comm,nat_join 7 128 g (by decide) h,Nat.add_comm]at this;exact this
theorem fP(a:Nat)(h:a<18446744073709551616):a^^^18446744073709551615=18446744073709551615 -a:=by
 have h1:BitVec.ofNat 64 a^^^BitVec.allOnes 64= ~~~BitVec.ofNat 64 a:=BitVec.xor_allOnes;have h2:=congrArg BitVec.toNat h1
 rw [BitVec.toNat_xor,BitVec.toNat_not,BitVec.toNat_ofNat,xJ h]at h2;exact h2
theorem oL(n:Int)(h1:-4611686018427387903≤n)(h2:n≤4611686018427387903):bits .xor .u64 (IntKind.u64.wrap (IntKind.u64.wrap n*2^(1:Int).toNat)) (IntKind.u64.wrap (n/2^(63:Int).toNat))=(zz n:Int):=by
 rw [IntKind.wrap_u64,IntKind.wrap_u64,IntKind.wrap_u64];rw [show(2:Int)^(1:Int).toNat=2 from rfl,show(2:Int)^(63:Int).toNat=9223372036854775808 from rfl];by_cases h:n<0
 · obtain ⟨m,hm⟩:∃m:Nat,n=-(m:Int):=⟨n.natAbs,by omega⟩
   have e1:n%18446744073709551616*2%18446744073709551616=((18446744073709551616 -2*m:Nat):Int):=by omega
   have e2:n/9223372036854775808%18446744073709551616=((18446744073709551615:Nat):Int):=by omega
   rw [e1,e2,u64_xor_nat _ _ (by omega) (by omega),fP _ (by omega)];unfold zz;rw [if_pos h];omega
 · obtain ⟨m,hm⟩:∃m:Nat,n=(m:Int):=⟨n.natAbs,by omega⟩
   have e1:n%18446744073709551616*2%18446744073709551616=((2*m:Nat):Int):=by omega
   have e2:n/9223372036854775808%18446744073709551616=((0:Nat):Int):=by omega
   rw [e1,e2,u64_xor_nat _ _ (by omega) (by omega),Nat.xor_zero];unfold zz;rw [if_neg h];omega
theorem Bd{P:Program}{cx:Cx}{c:Code}{Q:Exit→Act→World→Prop}{env:Env}{H:Hp}(h:At P cx c Q env ([]::H)):At P cx c Q env H:=aS (H':=[]::H) rfl h
theorem OP{α:Type}{l pre post:List α}{x:α}(h:l=pre++x::post):x∈l:=by rw [h];simp
theorem WT(bz z:Nat)(hz:z<18446744073709551616):
 RL Tryz.prog 249 #[I5 bz] [[(bz,.cells #[.int .u64 (z:Int)] 254 (0,0))]] (fun x=>#[.int .u8 (x.1:Int),.bool x.2]) (MW z):=by
 intro l J hy s hJ;refine Se func249 ntmps249 [0,1] ?_;intro u R;refine AQ<|Zb [0,1] ?_;refine Az (e0:=[]) (fun m e H=>∃(pre:List (Nat×Bool)) (y:Nat) (s:List AR),m=0+y∧(MW z=pre++MW y∧y<18446744073709551616∧J pre s)∧e=[]∧H=[[(bz,.cells #[.int .u64 (y:Int)] 254 (0,0))],s]) (by exact ⟨[],z,s,rfl,⟨rfl,hz,hJ⟩,rfl,rfl⟩) Wp ?_;rintro _ _ _ ⟨pre,y,s,rfl,⟨hsp,hy64,hJ⟩,rfl,rfl⟩;refine AQ<|Zq<|Zg<|Zl isAgg254 Y ?_;refine Zv (Aq (n:=128) Y Y)<|Za Y<|Z0<|Zx<|Zq<|Zq ?_;have hyk:=hy pre (y%128,decide (y<128)) (if y<128 then []else MW (y/128)) s (by rw [hsp,←H5]) hJ
 refine Zg<|Zm Y<|Zl isAgg254 Y ?_;refine JX (il (m:=(y:Int)) (n:=127) Y Y (qD y hy64)) rfl rfl ?_;refine BM (JW underlying254 underlying5 Y (by omega)) ?_;refine Zm Y<|Ze (Mj (vs:=[_,_]) Y Y (hyk) Wp) ?_;rintro _ _ ⟨_,⟨s',rfl,rfl,hJ'⟩,rfl⟩;refine Zv (Ca Y)<|Zm Y ?_;refine Ai (t:=13) Y rfl (fun hb=>?_) (fun hb=>?_)
 ·
  cases hb
 refine Zf Y Y<|Zv (AA Y Y)<|Z0<|Zn [0,1,15] ?_;refine Zx ?_;refine Ao Y (fun hl=>?_) (fun hl=>?_)
 ·
  refine A9<|Zt<|AY<|Zt<|AY ?_;refine Gz rfl results249 (by
   exact ⟨s',rfl,by
    have e:MW z=pre++[(y%128,decide (y<128))]:=by rw [hsp,H5 y,if_pos hl]
    rw [e];exact hJ'⟩)
 refine AC<|Zx<|Zg<|Zl isAgg254 Y ?_;refine BM (OC (n:=7) Y Y (by first|decide|(simp [IntKind.bits];done)|(simp [IntKind.bits];omega))) ?_;refine Xe (Zs sizeOf254 Y Y rfl) ?_;refine Z0<|A8<|Zn [0,1] ?_;refine Ab (e':=[]) (by exact ⟨pre++[(y%128,decide (y<128))],y/2^7,s',rfl,⟨by rw [hsp,H5 y,if_neg hl];simp,by omega,hJ'⟩,rfl,rfl⟩)
theorem WS(z:Int):CO Tryz.prog 198 #[.int .u64 z] [] (fun r H'=>∃b,r= .func (.func 249) #[] #[I5 b]∧H'=[[(b,.cells #[.int .u64 z] 254 (0,0))]]):=by
 refine Se func198 ntmps198 [0] ?_;intro u R;refine Zq<|Zg<|Ze (Bx #[_]) ?_;rintro _ _ ⟨b1,rfl,rfl⟩;refine Za Y<|Z0<|Zx<|Zq<|Zg<|Zv (Bt (vs:=[]) (us:=[_]) Y Y) ?_;refine Za Y<|Z0<|Zx<|A9 ?_;refine AB rfl results198 Y (by exact ⟨_,rfl,rfl⟩)
theorem Kk(n:Int)(h1:-4611686018427387903≤n)(h2:n≤4611686018427387903):Av Tryz.prog 102 #[I4 n] [] (.tuple #[.string (str (L6 n)),I4 0]):=by
 have hml:=mL;have hzl:=fO n h1 h2
 have hgl:=GR n h1 h2;unfold L6 at hgl;rw [tJ]at hgl;refine G5 func102 rfl ntmps102 rfl ?_;intro u R;refine Zb [0] ?_;refine Zq<|Zg<|Za Y<|Za Y<|Z0<|Zx<|Zq<|Zq<|Zg<|Zm Y<|Zv (Eb Y Y)<|Zm Y ?_;refine Aj (t:=9) Y rfl (fun hc1=>?_) (fun hc1=>?_)
 ·
  exfalso;omega
 refine Zf Y Y<|Yg (Es Y Y)<|Zv (AA Y Y)<|Z0<|Zx ?_;refine Ao Y (fun hc2=>?_) (fun hc2=>?_)
 ·
  exfalso;omega
 refine AC<|Zx<|Zq<|Zg<|Ze (Al zeroValue124 #[_]) ?_;rintro _ _ ⟨bo,rfl,rfl⟩;refine Z0<|Zx<|Zq<|Zq<|Zg<|Zm Y<|Zv (Ea underlying3 underlying254 Y rfl) ?_
 (refine BM (ZN Y Y ?_ ?_ rfl) ?_;(focus (first|decide|omega|(simp [IntKind.bits];done)|(simp [IntKind.bits];omega)));(focus (first|decide|omega|(simp [IntKind.bits];done)|(simp [IntKind.bits];omega))))
 refine Zm Y ?_
 (refine BM (iZ Y Y ?_ ?_ rfl) ?_;(focus (first|decide|omega|(simp [IntKind.bits];done)|(simp [IntKind.bits];omega)));(focus (first|decide|omega|(simp [IntKind.bits];done)|(simp [IntKind.bits];omega))))
 refine Zv (Ea underlying3 underlying254 Y rfl)<|JX (nz Y Y (oL n h1 h2)) rfl rfl ?_;refine Zc [_] Y call198 Y rfl (WS _) ?_;rintro _ _ ⟨_,⟨bz,rfl,rfl⟩,rfl⟩;refine Z0<|Zn [4,20] ?_;refine Zx<|AQ<|Zb [4,20] ?_;refine Bd ?_;refine PD (H0:=_) (R:=_) (I:=(fun pre H=>∃v s,H=[[(bo,.cells #[v] 124 (0,0))],s]∧Row 5 v ((pre.map gb).map u8v) s)) (asg:=fun x=>[(6,.bool x.2),(5,.int .u8 (x.1:Int)),(22,.bool x.2),(21,.int .u8 (x.1:Int))]) rfl Y call249 (WT bz (zz n) (by omega)) Y rfl Wp (⟨_,[],rfl,IR _⟩) ?ha_2 ?hbd_2 ?hk_2
 case ha_2=>
  intro _ x _ _;refine Zq<|Zg<|Za Y<|Z0<|Zx<|Zg<|Za Y<|Z0 ?_;exact jC
 case hbd_2=>
  intro l pre x post u H1 R1 hxs hI;obtain ⟨v,s,rfl,hr⟩:=hI;have hx1:=nL _ x (OP hxs)
  have hgv:=YL x hx1;have hpl:=congrArg List.length hxs
  rw [tK,tY]at hpl;obtain ⟨gv,cv,rfl⟩:=hr.form;refine AQ<|Zq<|Zq<|Zg<|Zm Y<|Zv (Ca Y)<|Z0<|Zx ?_;refine Af Y (fun hc5=>?_) (fun hc5=>?_)
  ·
   have hxb:x.2=false:=by simpa using hc5
   refine Zg<|Zm Y<|JX (qd (m:=(x.1:Int)) (n:=128) Y Y (qg x.1 hx1)) rfl rfl ?_;refine Za Y<|Z0<|Zx<|Zg<|Zl isAgg124 Y ?_;refine Zm Y<|Ze (Ae (vs:=[_]) (cs:=[_]) underlying124 sizeOf5 zeroValue5 Y rfl rfl rfl rfl rfl) ?_;rintro _ _ ⟨b2,rfl,rfl⟩;refine Ze (Dq (by_:=1) (news:=[_]) underlying124 (rfl:Tryz.prog.info? 5=some Tryz.t5) rfl rfl rfl rfl Y hr Y Wo Wh (by rfl) rfl (by simp [Value.oneCell']) (by decide) (by(simp only [tJ];omega)) (by(simp only [tJ];omega))) ?_;rintro _ _ ⟨sb,hrb,rfl⟩;obtain ⟨gb,cb,rfl⟩:=hrb.form;refine Xe (Zs sizeOf124 Y Y rfl) ?_;refine Z0<|A8 ?_;refine Ji rfl (by
    exact ⟨_,_,rfl,by
     rw [uK,uK,vM,vM,hgv,hxb];exact hrb⟩)
  have hxb:x.2=true:=by simpa using hc5
  refine AC<|Zx<|Zg<|Zl isAgg124 Y ?_;refine Zm Y<|Ze (Ae (vs:=[_]) (cs:=[_]) underlying124 sizeOf5 zeroValue5 Y rfl rfl rfl rfl rfl) ?_;rintro _ _ ⟨b4,rfl,rfl⟩;refine Ze (Dq (by_:=1) (news:=[_]) underlying124 (rfl:Tryz.prog.info? 5=some Tryz.t5) rfl rfl rfl rfl Y hr Y Wo Wh (by rfl) rfl (by simp [Value.oneCell']) (by decide) (by(simp only [tJ];omega)) (by(simp only [tJ];omega))) ?_;rintro _ _ ⟨sb,hrb,rfl⟩;obtain ⟨gb,cb,rfl⟩:=hrb.form;refine Xe (Zs sizeOf124 Y Y rfl) ?_;refine Z0<|A8 ?_;refine Ji rfl (by
   exact ⟨_,_,rfl,by
    rw [uK,uK,vM,vM,hgv,hxb];exact hrb⟩)
 intro D1 H2 hI2;obtain ⟨v,s,rfl,hr⟩:=hI2;have hep:=Wx n
 unfold L6 at hep;obtain ⟨gv,cv,cur,zv,rfl,rfl,hle,hcm,hcs,htk,hfr⟩:=hr.some (by rw [tJ];exact hep);refine Zn [4] ?_;refine A8<|Zx<|Zq<|Zg<|Zl isAgg124 Y ?_;refine Zo Wh (D5 underlying124 underlying5 underlying9 Y (by exact ⟨htk,by simp⟩)) ?_;refine Za Y<|Za Y<|Z0<|Zx<|A9 ?_;refine Jj rfl (sH results102 Y Y) Wo (by exact ⟨rfl,rfl⟩)
structure AP where
 t:Int
 k:Int
 v:V3
deriving DecidableEq
structure Chg where
 t:Int
 k:Int
 had:Bool
 o:V3
 has:Bool
 n:V3
deriving DecidableEq
def AP.zero:AP:=⟨0,0,V3.zero⟩
def AP.ok(r:AP):Prop:=r.v.ok∧(0≤r.t∧r.t≤3)∧(1≤r.k∧r.k≤1000000)
instance(r:AP):Decidable r.ok:=inferInstanceAs(Decidable (_∧_∧_))
def Chg.before(c:Chg):AP:=if c.had then⟨c.t,c.k,c.o⟩else AP.zero
def Chg.after(c:Chg):AP:=if c.has then⟨c.t,c.k,c.n⟩else AP.zero
theorem LD{c:Chg}(h:c.had=true):c.before=⟨c.t,c.k,c.o⟩:=if_pos h
theorem kZ{c:Chg}(h:c.had=false):c.before=AP.zero:=if_neg (by rw [h];decide)
theorem JQ{c:Chg}(h:c.has=true):c.after=⟨c.t,c.k,c.n⟩:=if_pos h
theorem nY{c:Chg}(h:c.has=false):c.after=AP.zero:=if_neg (by rw [h];decide)
def Chg.ok(c:Chg):Prop:=¬((¬c.had∧¬c.has)∨(c.had∧c.has∧c.o=c.n))∧¬((c.had∧¬c.before.ok)∨(c.has∧¬c.after.ok))∧(c.had∨c.o=V3.zero)∧(c.has∨c.n=V3.zero)
instance(c:Chg):Decidable c.ok:=inferInstanceAs(Decidable (_∧_∧_∧_))
theorem Ii(n lo hi:Int):Av Tryz.prog 130 #[I4 n,I4 lo,I4 hi] [] (.bool (decide (lo≤n∧n≤hi))):=by
 refine Se func130 ntmps130 [0,1,2] ?_;intro u R;refine Zq<|Zg<|Za Y<|Z0<|Zx<|Zq<|Zg<|Zm Y<|Zm Y<|Zv (GZ Y Y)<|Zm Y ?_;refine Aj (t:=10) Y rfl (fun h1=>?_) (fun h1=>?_)
 ·
  refine Zf Y Y<|Zf Y Y<|Yg (Kn Y Y)<|Zv (AL Y Y)<|Za Y<|Z0<|Zx<|A9 ?_;refine AB rfl results130 Y (by exact ⟨by simp [h1],rfl⟩)
 refine A7 Y rfl<|A7 Y rfl<|A7 Y rfl<|Zv (AA Y Y)<|Za Y<|Z0<|Zx<|A9 ?_;refine AB rfl results130 Y (by exact ⟨by simp [h1],rfl⟩)
theorem bM(c:Chg):Av Tryz.prog 255 #[.agg #[I4 c.t,I4 c.k,.bool c.had,I4 c.o.a,I4 c.o.b,I4 c.o.c,.bool c.has,I4 c.n.a,I4 c.n.b,I4 c.n.c]] [] (.tuple #[.agg #[I4 c.before.t,I4 c.before.k,I4 c.before.v.a,I4 c.before.v.b,I4 c.before.v.c],.bool c.had]):=by
 refine Se func255 ntmps255 [0] ?_;intro u R;refine Zq<|Zg<|Ze (Bx #[_,_,_,_,_,_,_,_,_,_]) ?_;rintro _ _ ⟨b1,rfl,rfl⟩;refine Ze (Al zeroValue113 #[_,_,_,_,_]) ?_;rintro _ _ ⟨b2,rfl,rfl⟩;refine Za Y<|Z0<|Zx<|Zq<|Zq<|Zg<|Zh 2 underlying77 rfl rfl sizeOf4 Y<|Zl isAgg4 Y ?_;refine Zv (Ca Y)<|Z0<|Zx ?_;refine Af Y (fun hh=>?_) (fun hh=>?_)
 ·
  refine Zq<|Zg<|Zv (BK (vs:=[]) (cs:=#[_,_,_,_,_]) Y (Aa (pl:=#[(0,1),(1,1),(2,3)]) zeroValue113 underlying113 (fun _=>by kernel_rfl) rfl)) ?_;refine Xe (Xw sizeOf113 _) ?_;refine Za Y<|Z0<|Zx<|A9<|Zt ?_;refine Bb rfl results255 Y Wh (Ah isAgg113 sizeOf113 Wn (rfl)) Y (by simp only [xH,wT,y7]at hh;exact ⟨by(rw [kZ hh,hh];rfl),rfl⟩)
 refine AC<|Zx<|Zq<|Zg<|Zh 0 underlying77 rfl rfl sizeOf3 Y<|Zl isAgg3 Y ?_;refine Zh 1 underlying77 rfl rfl sizeOf3 Y<|Zl isAgg3 Y ?_;refine Zh 3 underlying77 rfl rfl sizeOf75 Y<|Zo Wh (Pa #[_,_,_] isAgg75 sizeOf75 Y) ?_;refine Zv (BK (vs:=[(0,_),(1,_),(2,_)]) (cs:=#[_,_,_,_,_]) Y (Aa (pl:=#[(0,1),(1,1),(2,3)]) zeroValue113 underlying113 (fun _=>by kernel_rfl) rfl)) ?_;refine Xe (BN sizeOf113 Y Y (by(simp [Value.oneCell',Value.cells];done)) Wu (by rfl) (by first|rfl|(simp;done)) Wn (by exact BQ _)) ?_;refine Za Y<|Z0<|Zn [2,3] ?_;refine Zx<|A9 ?_;refine Bb rfl results255 Y Wh (Ah isAgg113 sizeOf113 Wn (rfl)) Y (by simp only [xH,wT,y7]at hh;exact ⟨by(rw [LD hh,hh];rfl),rfl⟩)
theorem QF(c:Chg):Av Tryz.prog 112 #[.agg #[I4 c.t,I4 c.k,.bool c.had,I4 c.o.a,I4 c.o.b,I4 c.o.c,.bool c.has,I4 c.n.a,I4 c.n.b,I4 c.n.c]] [] (.tuple #[.agg #[I4 c.after.t,I4 c.after.k,I4 c.after.v.a,I4 c.after.v.b,I4 c.after.v.c],.bool c.has]):=by
 refine Se func112 ntmps112 [0] ?_;intro u R;refine Zq<|Zg<|Ze (Bx #[_,_,_,_,_,_,_,_,_,_]) ?_;rintro _ _ ⟨b1,rfl,rfl⟩;refine Ze (Al zeroValue113 #[_,_,_,_,_]) ?_;rintro _ _ ⟨b2,rfl,rfl⟩;refine Za Y<|Z0<|Zx<|Zq<|Zq<|Zg<|Zh 6 underlying77 rfl rfl sizeOf4 Y<|Zl isAgg4 Y ?_;refine Zv (Ca Y)<|Z0<|Zx ?_;refine Af Y (fun hh=>?_) (fun hh=>?_)
 ·
  refine Zq<|Zg<|Zv (BK (vs:=[]) (cs:=#[_,_,_,_,_]) Y (Aa (pl:=#[(0,1),(1,1),(2,3)]) zeroValue113 underlying113 (fun _=>by kernel_rfl) rfl)) ?_;refine Xe (Xw sizeOf113 _) ?_;refine Za Y<|Z0<|Zx<|A9<|Zt ?_;refine Bb rfl results112 Y Wh (Ah isAgg113 sizeOf113 Wn (rfl)) Y (by simp only [xH,wT,y7]at hh;exact ⟨by(rw [nY hh,hh];rfl),rfl⟩)
 refine AC<|Zx<|Zq<|Zg<|Zh 0 underlying77 rfl rfl sizeOf3 Y<|Zl isAgg3 Y ?_;refine Zh 1 underlying77 rfl rfl sizeOf3 Y<|Zl isAgg3 Y ?_;refine Zh 7 underlying77 rfl rfl sizeOf75 Y<|Zo Wh (Pa #[_,_,_] isAgg75 sizeOf75 Y) ?_;refine Zv (BK (vs:=[(0,_),(1,_),(2,_)]) (cs:=#[_,_,_,_,_]) Y (Aa (pl:=#[(0,1),(1,1),(2,3)]) zeroValue113 underlying113 (fun _=>by kernel_rfl) rfl)) ?_;refine Xe (BN sizeOf113 Y Y (by(simp [Value.oneCell',Value.cells];done)) Wu (by rfl) (by first|rfl|(simp;done)) Wn (by exact BQ _)) ?_;refine Za Y<|Z0<|Zn [2,3] ?_;refine Zx<|A9 ?_;refine Bb rfl results112 Y Wh (Ah isAgg113 sizeOf113 Wn (rfl)) Y (by simp only [xH,wT,y7]at hh;exact ⟨by(rw [JQ hh,hh];rfl),rfl⟩)
theorem ND(r:AP):Av Tryz.prog 224 #[.agg #[I4 r.t,I4 r.k,I4 r.v.a,I4 r.v.b,I4 r.v.c]] [] (.bool (decide r.ok)):=by
 refine Se func224 ntmps224 [0] ?_;intro u R;refine Zq<|Zg<|Ze (Bx #[_,_,_,_,_]) ?_;rintro _ _ ⟨b1,rfl,rfl⟩;refine Za Y<|Z0<|Zx<|Zq<|Zq<|Zg<|Za Y<|Z0<|Zx<|AQ<|Zb [3,1] ?_;refine Az (e0:=[(3,_)]) (fun m e H=>∃(i:Nat),m=3 -i∧(i≤3∧(∀j,j<i→inV (r.v.get j)))∧e=[(3,I4 (i:Int))]∧H=[]) (by exact ⟨0,rfl,⟨by omega,by intro j hj;omega⟩,rfl,rfl⟩) Wp ?_;rintro _ _ _ ⟨i,rfl,⟨hi,hall⟩,rfl,rfl⟩;refine Zq<|Zq<|Zg<|Zm Y<|Zv (Aq (n:=3) Y Y)<|Z0<|Zx ?_;refine Ao Y (fun hlt=>?_) (fun hlt=>?_)
 ·
  refine AC<|Zx<|Zq<|AQ<|Zq<|Zg<|Zm Y<|Zh 2 underlying113 rfl rfl sizeOf75 Y ?_;refine BM (CR underlying75 sizeOf3 Y Y (by omega)) ?_;refine Zl isAgg3 Y (hv:=by rw [wP];exact qO _ _ r.v _ (by omega)) ?_;refine Xr [_,_,_] Y call130 Y rfl (Ii _ _ _) ?_;refine Zv (CB Y)<|Z0<|Zx ?_;refine Ao Y (fun hbad=>?_) (fun hbad=>?_)
  ·
   refine Zq<|Zg<|Za Y<|Z0<|Zx<|A9<|AY<|Zt<|Zt<|AY<|Zt ?_;refine AB rfl results224 Y (by exact ⟨by rw [decide_eq_false (fun h9:r.ok=>hbad (fw.1 h9.1 i (by omega)))],rfl⟩)
  refine AC<|A8<|Zx<|Zg<|Zm Y<|Ya (n:=1) Y Y<|Za Y<|Z0<|Zn [3,1] ?_;refine Ab (e':=[(3,_)]) (by exact ⟨i+1,rfl,⟨by omega,lT hall (uH.1 hbad)⟩,rfl,rfl⟩)
 refine Ar<|Zt<|Zt<|AO<|Zx<|Zq<|Zg<|Zh 0 underlying113 rfl rfl sizeOf3 Y<|Zl isAgg3 Y ?_;refine Xr [_,_,_] Y call130 Y rfl (Ii _ _ _) ?_;refine Zm Y ?_;refine Aj (t:=17) Y rfl (fun ht=>?_) (fun ht=>?_)
 ·
  refine Yf 1 underlying113 rfl rfl sizeOf3 Y<|Yl isAgg3 Y ?_;refine Xr [_,_,_] Y call130 Y rfl (Ii _ _ _) ?_;refine Zv (AL Y Y)<|Za Y<|Z0<|Zx<|A9 ?_;refine AB rfl results224 Y (by have hv:r.v.ok:=fw.2 (fun j hj=>hall j (by omega));exact ⟨by simp only [AP.ok,hv,ht,true_and,false_and,decide_false],rfl⟩)
 refine A7 Y rfl<|A7 Y rfl<|A7 Y rfl<|Zv (AA Y Y)<|Za Y<|Z0<|Zx<|A9 ?_;refine AB rfl results224 Y (by have hv:r.v.ok:=fw.2 (fun j hj=>hall j (by omega));exact ⟨by simp only [AP.ok,hv,ht,true_and,false_and,decide_false],rfl⟩)
theorem bJ(c:Chg):Av Tryz.prog 207 #[.agg #[I4 c.t,I4 c.k,.bool c.had,I4 c.o.a,I4 c.o.b,I4 c.o.c,.bool c.has,I4 c.n.a,I4 c.n.b,I4 c.n.c]] [] (.bool (decide c.ok)):=by
 refine Se func207 ntmps207 [0] ?_;intro u R;refine Zq<|Zg<|Ze (Bx #[_,_,_,_,_,_,_,_,_,_]) ?_;rintro _ _ ⟨b1,rfl,rfl⟩;refine Za Y<|Z0<|Zx<|Zq<|Zg<|Zo Wh (Pa #[_,_,_,_,_,_,_,_,_,_] isAgg77 sizeOf77 Y) ?_;refine Xr [_] Y call255 Y rfl (bM c) ?_;refine Zm Y<|Zd Y rfl<|Zd Y rfl<|Ze (Al zeroValue113 #[_,_,_,_,_]) ?_;rintro _ _ ⟨b2,rfl,rfl⟩;refine Xe (Xw sizeOf113 _) ?_;refine Za Y<|Z0<|Zx<|Zq<|Zg<|Zo Wh (Pa #[_,_,_,_,_,_,_,_,_,_] isAgg77 sizeOf77 Y) ?_;refine Xr [_] Y call112 Y rfl (QF c) ?_;refine Zm Y<|Zd Y rfl<|Zd Y rfl<|Ze (Al zeroValue113 #[_,_,_,_,_]) ?_;rintro _ _ ⟨b3,rfl,rfl⟩;refine Xe (Xw sizeOf113 _) ?_;refine Za Y<|Z0<|Zn [1,3,4,5,6] ?_;refine Zx<|Zq<|Zb [1,3,4,5,6] ?_;refine CW (e0:=[]) (H0:=[]) (fun e H=>∃(b9:Bool),(b9=decide ((¬c.had∧¬c.has)∨(c.had∧c.has∧c.o=c.n)))∧e=[(35,.bool b9)]∧H=[]) Wp ?hx_1 ?hy_1
 case hx_1=>
  refine Zg<|Zm Y<|Zv (Ca Y)<|Zm Y ?_;refine Ai (t:=19) Y rfl (fun hc1=>?_) (fun hc1=>?_)
  ·
   refine Zf Y Y<|Yg (Ca Y)<|Zv (AL Y Y)<|Zm Y ?_;refine Ai (t:=23) Y rfl (fun hc2=>?_) (fun hc2=>?_)
   ·
    refine A7 Y rfl<|A7 Y rfl<|A7 Y rfl<|A7 Y rfl<|A7 Y rfl<|A7 Y rfl<|A7 Y rfl<|A7 Y rfl<|A7 Y rfl<|A7 Y rfl<|A7 Y rfl<|Zv (AL Y Y)<|Z0<|Zn [35,1,3,4,5,6] ?_;refine BB (e':=[(35,_)]) (by exact ⟨_,by simp_all,rfl,rfl⟩)
   refine Zf Y Y<|Zf Y Y ?_;refine Ai (t:=25) Y rfl (fun hc3=>?_) (fun hc3=>?_)
   ·
    refine Zf Y Y<|Yg (AL Y Y)<|Zf Y Y ?_;refine Ai (t:=28) Y rfl (fun hc4=>?_) (fun hc4=>?_)
    ·
     refine Yf 3 underlying77 rfl rfl sizeOf75 Y<|DL Y Wh (Pa #[_,_,_] isAgg75 sizeOf75 Y) rfl rfl ?_;refine Yf 7 underlying77 rfl rfl sizeOf75 Y<|DL Y Wh (Pa #[_,_,_] isAgg75 sizeOf75 Y) rfl rfl ?_;refine Yg (K8 (by kernel_rfl) underlying75 underlying3 isAgg3 sizeOf3 Y Y) ?_;refine Yg (AL Y Y)<|Zv (AA Y Y)<|Z0<|Zn [35,1,3,4,5,6] ?_;refine BB (e':=[(35,_)]) (by exact ⟨_,by simp_all,rfl,rfl⟩)
    refine A7 Y rfl<|A7 Y rfl<|A7 Y rfl<|A7 Y rfl<|A7 Y rfl<|Yg (AA Y Y)<|Zv (AA Y Y)<|Z0<|Zn [35,1,3,4,5,6] ?_;refine BB (e':=[(35,_)]) (by exact ⟨_,by simp_all,rfl,rfl⟩)
   refine A7 Y rfl<|Yg (AA Y Y)<|Zf Y Y<|A7 Y rfl<|A7 Y rfl<|A7 Y rfl<|A7 Y rfl<|A7 Y rfl<|Yg (AA Y Y)<|Zv (AA Y Y)<|Z0<|Zn [35,1,3,4,5,6] ?_;refine BB (e':=[(35,_)]) (by exact ⟨_,by simp_all,rfl,rfl⟩)
  refine A7 Y rfl<|A7 Y rfl<|Zv (AA Y Y)<|Zm Y<|Zf Y Y<|Zf Y Y ?_;refine Ai (t:=25) Y rfl (fun hc5=>?_) (fun hc5=>?_)
  ·
   refine Zf Y Y<|Yg (AL Y Y)<|Zf Y Y ?_;refine Ai (t:=28) Y rfl (fun hc6=>?_) (fun hc6=>?_)
   ·
    refine Yf 3 underlying77 rfl rfl sizeOf75 Y<|DL Y Wh (Pa #[_,_,_] isAgg75 sizeOf75 Y) rfl rfl ?_;refine Yf 7 underlying77 rfl rfl sizeOf75 Y<|DL Y Wh (Pa #[_,_,_] isAgg75 sizeOf75 Y) rfl rfl ?_;refine Yg (K8 (by kernel_rfl) underlying75 underlying3 isAgg3 sizeOf3 Y Y) ?_;refine Yg (AL Y Y)<|Zv (AA Y Y)<|Z0<|Zn [35,1,3,4,5,6] ?_;refine BB (e':=[(35,_)]) (by exact ⟨_,by simp_all,rfl,rfl⟩)
   refine A7 Y rfl<|A7 Y rfl<|A7 Y rfl<|A7 Y rfl<|A7 Y rfl<|Yg (AA Y Y)<|Zv (AA Y Y)<|Z0<|Zn [35,1,3,4,5,6] ?_;refine BB (e':=[(35,_)]) (by exact ⟨_,by simp_all,rfl,rfl⟩)
  refine A7 Y rfl<|Yg (AA Y Y)<|Zf Y Y<|A7 Y rfl<|A7 Y rfl<|A7 Y rfl<|A7 Y rfl<|A7 Y rfl<|Yg (AA Y Y)<|Zv (AA Y Y)<|Z0<|Zn [35,1,3,4,5,6] ?_;refine BB (e':=[(35,_)]) (by exact ⟨_,by simp_all,rfl,rfl⟩)
 rintro _ _ ⟨b9,hb9,rfl,rfl⟩;refine Af Y (fun hc7=>?_) (fun hc7=>?_)
 ·
  refine Zq<|Zg<|Za Y<|Z0<|Zx<|A9<|Zt ?_;refine AB rfl results207 Y (by exact ⟨by simp_all [Chg.ok],rfl⟩)
 refine AC<|Zx<|Zq<|Zb [3,5,1,4,6] ?_;refine CW (e0:=[(3,_),(5,_)]) (H0:=[]) (fun e H=>∃(b8:Bool),(b8=decide ((c.had∧¬c.before.ok)∨(c.has∧¬c.after.ok)))∧e=[(49,.bool b8)]∧H=[]) Wp ?hx_10 ?hy_10
 case hx_10=>
  refine Zg<|Zm Y<|Zm Y ?_;refine Ai (t:=37) Y rfl (fun hc8=>?_) (fun hc8=>?_)
  ·
   refine DL Y Wh (Pa #[_,_,_,_,_] isAgg113 sizeOf113 Y) rfl rfl ?_;refine Xr [_] Y call224 Y rfl (ND _) ?_;refine Yg (CB Y)<|Zv (AL Y Y)<|Zm Y ?_;refine Aj (t:=42) Y rfl (fun hc9=>?_) (fun hc9=>?_)
   ·
    refine A7 Y rfl<|A7 Y rfl<|A7 Y rfl<|A7 Y rfl<|A7 Y rfl<|A7 Y rfl<|Zv (AL Y Y)<|Z0<|Zn [49,1,4,6] ?_;refine BB (e':=[(49,_)]) (by exact ⟨_,by simp_all,rfl,rfl⟩)
   refine Zf Y Y<|Zf Y Y ?_;refine Ai (t:=44) Y rfl (fun hc10=>?_) (fun hc10=>?_)
   ·
    refine DL Y Wh (Pa #[_,_,_,_,_] isAgg113 sizeOf113 Y) rfl rfl ?_;refine Xr [_] Y call224 Y rfl (ND _) ?_;refine Yg (CB Y)<|Yg (AL Y Y)<|Zv (AA Y Y)<|Z0<|Zn [49,1,4,6] ?_;refine BB (e':=[(49,_)]) (by exact ⟨_,by simp_all,rfl,rfl⟩)
   refine A7 Y rfl<|A7 Y rfl<|A7 Y rfl<|Yg (AA Y Y)<|Zv (AA Y Y)<|Z0<|Zn [49,1,4,6] ?_;refine BB (e':=[(49,_)]) (by exact ⟨_,by simp_all,rfl,rfl⟩)
  refine A7 Y rfl<|A7 Y rfl<|A7 Y rfl<|Zv (AA Y Y)<|Zm Y<|Zf Y Y<|Zf Y Y ?_;refine Ai (t:=44) Y rfl (fun hc11=>?_) (fun hc11=>?_)
  ·
   refine DL Y Wh (Pa #[_,_,_,_,_] isAgg113 sizeOf113 Y) rfl rfl ?_;refine Xr [_] Y call224 Y rfl (ND _) ?_;refine Yg (CB Y)<|Yg (AL Y Y)<|Zv (AA Y Y)<|Z0<|Zn [49,1,4,6] ?_;refine BB (e':=[(49,_)]) (by exact ⟨_,by simp_all,rfl,rfl⟩)
  refine A7 Y rfl<|A7 Y rfl<|A7 Y rfl<|Yg (AA Y Y)<|Zv (AA Y Y)<|Z0<|Zn [49,1,4,6] ?_;refine BB (e':=[(49,_)]) (by exact ⟨_,by simp_all,rfl,rfl⟩)
 rintro _ _ ⟨b8,hb8,rfl,rfl⟩;refine Af Y (fun hc12=>?_) (fun hc12=>?_)
 ·
  refine Zq<|Zg<|Za Y<|Z0<|Zx<|A9<|Zt ?_;refine AB rfl results207 Y (by exact ⟨by simp_all [Chg.ok],rfl⟩)
 refine AC<|Zx<|Zq<|Zg<|Zm Y<|Zm Y ?_;refine Ai (t:=51) Y rfl (fun hc13=>?_) (fun hc13=>?_)
 ·
  refine A7 Y rfl<|A7 Y rfl<|A7 Y rfl<|A7 Y rfl<|Zv (AL Y Y)<|Zm Y<|Zf Y Y<|Zf Y Y ?_;refine Ai (t:=59) Y rfl (fun hc14=>?_) (fun hc14=>?_)
  ·
   refine A7 Y rfl<|A7 Y rfl<|A7 Y rfl<|A7 Y rfl<|Yg (AL Y Y)<|Zv (AL Y Y)<|Za Y<|Z0<|Zn [2] ?_;refine Zx<|A9 ?_;refine AB rfl results207 Y (by exact ⟨by simp_all [Chg.ok],rfl⟩)
  refine Yf 7 underlying77 rfl rfl sizeOf75 Y<|DL Y Wh (Pa #[_,_,_] isAgg75 sizeOf75 Y) rfl rfl ?_;refine Yg (BK (vs:=[]) (cs:=#[_,_,_]) Y (Ch zeroValue75 underlying75 sizeOf3 rfl)) ?_;refine Yg (Hm (by kernel_rfl) underlying75 underlying3 isAgg3 sizeOf3 Y Y) ?_;refine Yg (AA Y Y)<|Zv (AL Y Y)<|Za Y<|Z0<|Zn [2] ?_;refine Zx<|A9 ?_;refine AB rfl results207 Y (by exact ⟨by simp_all [Chg.ok],rfl⟩)
 refine Yf 3 underlying77 rfl rfl sizeOf75 Y<|DL Y Wh (Pa #[_,_,_] isAgg75 sizeOf75 Y) rfl rfl ?_;refine Yg (BK (vs:=[]) (cs:=#[_,_,_]) Y (Ch zeroValue75 underlying75 sizeOf3 rfl)) ?_;refine Yg (Hm (by kernel_rfl) underlying75 underlying3 isAgg3 sizeOf3 Y Y) ?_;refine Zv (AA Y Y)<|Zm Y ?_;refine Aj (t:=57) Y rfl (fun hc15=>?_) (fun hc15=>?_)
 ·
  refine Zf Y Y<|Zf Y Y ?_;refine Ai (t:=59) Y rfl (fun hc16=>?_) (fun hc16=>?_)
  ·
   refine A7 Y rfl<|A7 Y rfl<|A7 Y rfl<|A7 Y rfl<|Yg (AL Y Y)<|Zv (AL Y Y)<|Za Y<|Z0<|Zn [2] ?_;refine Zx<|A9 ?_;refine AB rfl results207 Y (by exact ⟨by simp_all [Chg.ok],rfl⟩)
  refine Yf 7 underlying77 rfl rfl sizeOf75 Y<|DL Y Wh (Pa #[_,_,_] isAgg75 sizeOf75 Y) rfl rfl ?_;refine Yg (BK (vs:=[]) (cs:=#[_,_,_]) Y (Ch zeroValue75 underlying75 sizeOf3 rfl)) ?_;refine Yg (Hm (by kernel_rfl) underlying75 underlying3 isAgg3 sizeOf3 Y Y) ?_;refine Yg (AA Y Y)<|Zv (AL Y Y)<|Za Y<|Z0<|Zn [2] ?_;refine Zx<|A9 ?_;refine AB rfl results207 Y (by exact ⟨by simp_all [Chg.ok],rfl⟩)
 refine A7 Y rfl<|A7 Y rfl<|A7 Y rfl<|A7 Y rfl<|A7 Y rfl<|A7 Y rfl<|A7 Y rfl<|Zv (AA Y Y)<|Za Y<|Z0<|Zn [2] ?_;refine Zx<|A9 ?_;refine AB rfl results207 Y (by exact ⟨by simp_all [Chg.ok],rfl⟩)
end Go.Proofs.YtkdgffcfmgmemaaGreatDoor
