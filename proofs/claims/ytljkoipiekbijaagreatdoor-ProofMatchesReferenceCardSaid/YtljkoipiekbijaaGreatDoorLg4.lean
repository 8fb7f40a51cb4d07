/-
  DERIVED: THE SHELF's CONTRACTS AT THIS DUMP, IN PLAIN WORDS (tools/lay-plain.mjs out of 'TryzShelf.lean', which tools/lay-shelf.mjs wrote): THE SAME DECLARATIONS UNDER THE SAME NAMES: 'import', 'namespace', 'open', 'def', 'theorem' AND NOTHING ELSE: no command of the shelf's: FOR A HAND-IN. Each laying: the table of numbers ('.._ren') and one theorem, a field a fact of the dump's own or the kernel's comparison; each contract: ONE APPLICATION.
-/
import Derived.Shelf.Strings.OnBuilder
import Derived.Shelf.Small.Wraps
import Derived.Shelf.Strings.BuilderCap
import Derived.Shelf.Slices.SearchI
import Derived.Shelf.Slices.Cells
import Derived.Shelf.Slices.Empties2
import Derived.Test.YtljkoipiekbijaaGreatDoorDg4
set_option linter.unusedVariables false
set_option linter.unusedSimpArgs false
namespace Go.Proofs
open Go.Shelf
def Tryz.lays156_ren:Go.Shelf.Ren:=⟨fun|156=>241|165=>258|166=>259|169=>260|240=>273|241=>274|276=>280|277=>281|n=>n,fun|31=>47|9=>9|3=>3|4=>4|0=>0|20=>20|72=>320|76=>322|70=>318|37=>105|75=>167|127=>332|164=>336|5=>5|80=>272|n=>n,fun|n=>n⟩
theorem Tryz.lays156:Go.Proofs.Lays.n156 prog Tryz.lays156_ren:={
 mixed:=by kernel_rfl
 f156:=func241.trans (congrArg some AG)
 f165:=func258.trans (congrArg some AG)
 f166:=func259.trans (congrArg some AG)
 f169:=func260.trans (congrArg some AG)
 f240:=func273.trans (congrArg some AG)
 f241:=func274.trans (congrArg some AG)
 f276:=func280.trans (congrArg some AG)
 f277:=func281.trans (congrArg some AG)
 t0:=underlying0
 a0:=isAgg0
 z0:=sizeOf0
 v0:=zeroValue0
 t3:=Ge
 a3:=A5
 z3:=A4
 v3:=K1
 t4:=MY
 a4:=Fc
 z4:=DP
 v4:=de
 t9:=HM
 a9:=HG
 z9:=F2
 v9:=N1
 t20:=underlying20
 a20:=isAgg20
 z20:=sizeOf20
 v20:=zeroValue20
 t31:=DB
 a31:=Iv
 z31:=Hj
 v31:=dd
 t37:=GC
 a37:=eA
 z37:=sizeOf105
 v37:=zeroValue105
 t70:=underlying318
 a70:=isAgg318
 z70:=sizeOf318
 v70:=zeroValue318
 t72:=underlying320
 a72:=isAgg320
 z72:=sizeOf320
 v72:=zeroValue320
 t75:=kn
 a75:=isAgg167
 z75:=sizeOf167
 v75:=zeroValue167
 t76:=underlying322
 a76:=isAgg322
 z76:=sizeOf322
 v76:=zeroValue322
 t127:=underlying332
 a127:=isAgg332
 z127:=sizeOf332
 v127:=zeroValue332
 t164:=underlying336
 a164:=isAgg336
 z164:=sizeOf336
 v164:=zeroValue336}
theorem Tryz.Builder_Extra_156:Builder.Extra prog Tryz.lays156_ren:={
 sizeBuilder:=by kernel_rfl
 liesBuilder:=by kernel_rfl
 t5:=IF
 a5:=Vc
 z5:=KB
 v5:=Pr
 infoByte:=by kernel_rfl
 cellsByte:=by kernel_rfl
 sizeByte:=by kernel_rfl
 neB5:=by decide}
open Go.RowKit in
theorem Tryz.strings_Join(E o c:Nat)(xs:List ByteArray)(m:ByteArray)(w:AD)(g:∀(j:Nat) x,xs[j]?=some x->w.cell? ⟨E,o+j,none⟩=some (.string x))(G:E<w.heap.size)(I:xs.length<=140737488355328)(y:xs.length<=c)(z:(Lib.join (xs.map (·.data.toList)) m.data.toList).length<=140737488355328):
 Calls prog 241 #[.slice (some ⟨E,o,none⟩) xs.length c,.string m] w fun e J=>e= .returned (.string ⟨(Lib.join (xs.map (·.data.toList)) m.data.toList).toArray⟩)/\Below w.heap.size w J:=Any.strings_Join Tryz.lays156 Tryz.Builder_Extra_156 E o c xs m w g G I y z
def Tryz.lays125_ren:Go.Shelf.Ren:=⟨fun|125=>185|128=>211|129=>212|n=>n,fun|46=>215|3=>3|51=>249|53=>214|4=>4|5=>5|9=>9|n=>n,fun|n=>n⟩
theorem Tryz.lays125:Go.Proofs.Lays.n125 prog Tryz.lays125_ren:={
 mixed:=by kernel_rfl
 f125:=func185.trans (congrArg some AG)
 f128:=func211.trans (congrArg some AG)
 f129:=func212.trans (congrArg some AG)
 t3:=Ge
 a3:=A5
 z3:=A4
 v3:=K1
 t4:=MY
 a4:=Fc
 z4:=DP
 v4:=de
 t5:=IF
 a5:=Vc
 z5:=KB
 v5:=Pr
 t9:=HM
 a9:=HG
 z9:=F2
 v9:=N1
 t46:=km
 a46:=isAgg215
 z46:=sizeOf215
 v46:=zeroValue215
 t51:=PB
 a51:=Gk
 z51:=EV
 v51:=cJ
 t53:=ab
 a53:=isAgg214
 z53:=sizeOf214
 v53:=zeroValue214}
theorem Tryz.bits_Len(x:Int)(w:AD)(h0:0<=x)(g:x<=18446744073709551615):
 Calls prog 185 #[.int .u64 x] w fun e m=>e= .returned (I4 (Lib.bitLen x.toNat))/\m=w:=Any.bits_Len Tryz.lays125 x w h0 g
def Tryz.lays122_ren:Go.Shelf.Ren:=⟨fun|122=>148|215=>187|n=>n,fun|3=>3|4=>4|n=>n,fun|n=>n⟩
theorem Tryz.lays122:Go.Proofs.Lays.n122 prog Tryz.lays122_ren:={
 mixed:=by kernel_rfl
 f122:=func148.trans (congrArg some AG)
 f215:=func187.trans (congrArg some AG)
 t3:=Ge
 a3:=A5
 z3:=A4
 v3:=K1
 t4:=MY
 a4:=Fc
 z4:=DP
 v4:=de}
open Go.RowKit in
theorem Tryz.cmp_Compare_int(x y:Int)(w:AD):
 Calls prog 148 #[I4 x,I4 y] w fun e g=>e= .returned (I4 (Lib.compareInt x y))/\g=w:=Any.cmp_Compare_int Tryz.lays122 x y w
def Tryz.laysNm217_ren:Go.Shelf.Ren:=⟨fun|17=>144|n=>n,fun|24=>47|9=>9|3=>3|4=>4|0=>0|n=>n,fun|n=>n⟩
theorem Tryz.laysNm217:Go.Proofs.Lays2.n17 prog Tryz.laysNm217_ren:={
 mixed:=by kernel_rfl
 f17:=func144.trans (congrArg some AG)
 t0:=underlying0
 a0:=isAgg0
 z0:=sizeOf0
 v0:=zeroValue0
 t3:=Ge
 a3:=A5
 z3:=A4
 v3:=K1
 t4:=MY
 a4:=Fc
 z4:=DP
 v4:=de
 t9:=HM
 a9:=HG
 z9:=F2
 v9:=N1
 t24:=DB
 a24:=Iv
 z24:=Hj
 v24:=dd}
open Go.RowKit Go.Lib Go.Sort in
theorem Tryz.slices_Reverse_string(g off cap:Nat)(zs:List (List UInt8))(w:AD)(y:Holds encStr w g off zs.toArray)(m:zs.length<=9223372036854775807):
 Calls prog 144 #[.slice (some ⟨g,off,none⟩) zs.length cap] w fun e z=>e= .returned (.tuple #[])/\∃n,z=putRow encStr (Sort.ahead w n) g off zs.reverse.toArray:=Any.slices_Reverse_string Tryz.laysNm217 g off cap zs w y m
open Go.RowKit Go.Lib Go.Sort in
theorem Tryz.slices_Reverse_string_empty(a:C1)(cap:Nat)(w:AD):
 Calls prog 144 #[.slice a 0 cap] w fun e g=>e= .returned (.tuple #[])/\g=w:=Any.slices_Reverse_string_empty Tryz.laysNm217 a cap w
end Go.Proofs
namespace Go.Proofs.YtljkoipiekbijaaGreatDoor
open Go.Proofs.Tryz
open Go Go.RowKit Gw
set_option maxRecDepth 100000
attribute [local irreducible] Gw.At Gw.Nx Gw.Ops
def EF(l:List UInt8):A3:= .string (str l)
theorem Ec(a b:List UInt8):str a++str b=str (a++b):=by
 apply ByteArray.ext;simp [str]
theorem Be(a:List UInt8):(str a).size=a.length:=by simp [str,ByteArray.size]
theorem J4(a:List UInt8):(str a).data.toList=a:=by simp [str]
theorem ZF(xs:List (List UInt8)):Lib.join xs []=xs.flatten:=by
 unfold Lib.join;induction xs with
 |nil=>rfl
 |cons x r ih=>cases r with
  |nil=>simp
  |cons y r=>rw [List.intercalate_cons_cons];rw [ih];simp
variable{o:Nat}
theorem wK{w:AD}{b:Nat}{c:As}{T:An}{z:Nat×Nat}{cs:List A3}(g:w.heap[b]?=some (.cells c T z))(h:CY c o cs)(j:Nat)(v:A3)(m:cs[j]?=some v):w.cell? ⟨b,o+j,none⟩=some v:=by
 have:=JI g h j v m;rcases P2 j with rfl|h0
 · simpa [Addr.add]using this
 · simpa [Addr.add,Nat.ne_of_gt h0]using this
theorem lG(g o cap:Nat)(cs:As)(T:An)(z:Nat×Nat)(xs:List (List UInt8))(hc:CY cs o (xs.map EF))(J:xs.length<=140737488355328)(m:xs.length<=cap)(E:xs.flatten.length<=140737488355328):
 BB prog 241 #[.slice (some ⟨g,o,none⟩) xs.length cap,.string (str [])] [[(g,.cells cs T z)]] (.string (str xs.flatten)):=
 Nz (Rl:=fun v=>v= .string (str xs.flatten)) (fun w K=>by
  have G:=K (g,.cells cs T z) C4;have h:=Tryz.strings_Join g o cap (xs.map str) (str []) w (fun j x hx=>by
   refine wK G hc j _ ?_;rw [HL]at hx⊢;cases h1:xs[j]?with
   |none=>rw [h1]at hx;cases hx
   |some y=>rw [h1]at hx;cases hx;rfl) (by
    rcases FA g w.heap.size with h1|h1
    · exact h1
    · rw [Lk h1]at G;cases G) (by simpa using J) (by simpa using m) (by
    rw [kj];have:(xs.map ((fun s:ByteArray=>s.data.toList)∘str))=xs:=by simp [str,j7]
    rw [this,J4,ZF];exact E)
  rw [C2]at h;refine h.mono ?_;rintro e M ⟨rfl,I⟩;refine ⟨_,V,?_,I⟩;rw [kj];have:(xs.map ((fun s:ByteArray=>s.data.toList)∘str))=xs:=by simp [str,j7]
  rw [this,J4,ZF];rfl) (fun v hv=>⟨hv,rfl⟩)
def OU(head rec:List UInt8):List UInt8:=sha (2::head++rec)
theorem gT(l:List UInt8)(y:l.length<=140737488355000)(g:An)(m:Nat×Nat):BB prog 168 #[.string (str l)] [[(1,.cells (Dj.map CP).toArray g m)]] (.string (str (sha l))):=by
 have:=nL (str l) (by rw [Be];exact y) g m;rw [J4]at this;exact this
theorem K9(y o cap G:Nat)(cs:As)(T K:An)(z O:Nat×Nat)(xs:List (List UInt8))(m:List UInt8)(hc:CY cs o (xs.map EF))(M:xs.length<=140737488355328)(g:xs.length<=cap)(I:m.length+xs.flatten.length<=140737488355000)(E:An)(J:Nat×Nat):
 BB prog 240 #[.slice (some ⟨y,o,none⟩) xs.length cap,I5 G] [[(y,.cells cs T z)],[(G,.cells #[EF m] K O)],[(1,.cells (Dj.map CP).toArray E J)]] (.string (str (sha (m++xs.flatten)))):=by
 refine Jy func240 V ntmps240 V ?_;intro u R;unfold EF;refine Zb [0,1] ?_;refine A2<|CT Y<|Au (n:=6) (0::0::2::7::15::31::[]) 20 AG AG V<|B6 0 V HG Y<|A1 1 V (AA Y)<|Zz (l:=[2])<|C6 [true] [(0,(_,_))] V rfl (Zu [_,_] Y call241 Y V (lG y o cap cs T z xs hc M g A0)) ?_ (fun _ _ h=>h.elim) Ar;rintro _ _ ⟨rfl,rfl⟩;refine CA<|A1 3 rfl (EH Y Y (by rw [Be,Be];omega))<|Yw 4 31 rfl (Zu [_] Y call168 Y rfl ((Ec m xs.flatten)▸gT (m++xs.flatten) (by rw [C7];omega) E J))<|DA<|A1 5 V (Aq Y)<|Am<|Zx<|AC<|AO V results240 Y (by exact ⟨V,V⟩)
theorem Mk(m:ByteArray):CJ prog 198 #[.string m] [] (fun r H'=>∃b,r= .func (.func 240) #[] #[I5 b]/\H'=[[(b,.cells #[.string m] 9 (0,0))]]):=by
 refine Se func198 ntmps198 [0] ?_;intro u R;refine A2<|Ze (Bx #[_])<|AE fun g=>AF Y<|A2<|Zv (CV (vs:=[]) (us:=[_]) Y Y)<|AM Y<|AO V results198 Y (by exact ⟨_,V,V⟩)
theorem fO(h r:List UInt8)(g:h.length+r.length<=140737488354999)(m:An)(E:Nat×Nat):
 BB prog 163 #[.string (str h),.string (str r)] [[(1,.cells (Dj.map CP).toArray m E)]] (.string (str (OU h r))):=by
 refine Se func163 ntmps163 [0,1] ?_;intro u R;refine A2<|AF Y<|A2<|Zc [_] Y call198 Y V (Mk _) ?_;rintro _ _ ⟨_,⟨z,rfl,rfl⟩,rfl⟩;refine Sk 2 V<|Ze (Ah (vs:=[_,_]) (cs:=[_,_]) DB F2 N1 Y V rfl V rfl V)<|AE fun y=>Xr [_] Y call240 Y V (K9 y 0 2 z #[EF h,EF r] _ _ _ _ [h,r] [2] V C4 C4 Of _ _)<|AM Y<|AO V results163 Y (by exact ⟨by simp [OU],V⟩)
def OH(z:Nat):List (Nat×Bool):=if h:z<128 then [(z,true)]else(z%128,false)::OH (z/128)
termination_by z
decreasing_by omega
theorem Iw(z:Nat):OH z=(z%128,decide (z<128))::(if z<128 then []else OH (z/128)):=by
 rw [OH];by_cases h:z<128;· simp [h,cD h]
 · simp [h]
theorem vv(z:Nat):∀x∈OH z,x.1<128:=by
 induction z using Nat.strongRecOn with
 |_ z ih=>
  intro x hx;rw [Iw]at hx;rcases H4.1 hx with rfl|hx
  · exact gS _ AH
  · by_cases h:z<128
    · rw [B2 h]at hx;cases hx
    · rw [Ax h]at hx;exact ih (z/128) A0 x hx
theorem rD(z k:Nat)(h:z<128^(k+1)):(OH z).length<=k+1:=by
 induction k generalizing z with
 |zero=>rw [Iw,B2 (by simpa using h)];simp
 |succ k ih=>
  rw [Iw];by_cases g:z<128;· rw [B2 g];simp
  · rw [Ax g,GB]
    have:z/128<128^(k+1):=by
     rw [cG]at h;exact lr (by rw [kk];exact h)
    have:=ih _ this;omega
def gb(x:Nat×Bool):UInt8:=UInt8.ofNat (if x.2 then x.1 else x.1+128)
theorem eY(x:Nat×Bool)(h:x.1<128):u8v (gb x)= .int .u8 ((if x.2 then x.1 else x.1+128:Nat):Int):=by
 unfold u8v gb;rw [UInt8.toNat_ofNat',cD (by split<;>omega)]
def zz(n:Int):Nat:=(if n<0 then-(2*n) -1 else 2*n).toNat
def MG(n:Int):List UInt8:=(OH (zz n)).map gb
theorem mY(n:Int)(g:-4611686018427387903<=n)(h2:n<=4611686018427387903):zz n<9223372036854775808:=by unfold zz;split<;>omega
theorem aP(n:Int):0<(MG n).length:=by unfold MG;rw [Iw];simp
theorem H9(n:Int)(g:-4611686018427387903<=n)(h2:n<=4611686018427387903):(MG n).length<=9:=by
 unfold MG;rw [C2];exact rD (zz n) 8 (by have:=mY n g h2;omega)
theorem zB(y:Nat)(h:y<18446744073709551616):bits .and .u64 (y:Int) 127=((y%128:Nat):Int):=by
 have:=u64_and_nat y 127 h AH;rw [nat_mask7]at this;exact this
theorem oT(g:Nat)(h:g<128):bits .or .u8 (g:Int) 128=((g+128:Nat):Int):=by
 have:=u8_or_nat g 128 A0 AH;rw [Nat.or_comm,nat_join 7 128 g AH h,Nat.add_comm]at this;exact this
theorem mZ(a:Nat)(h:a<18446744073709551616):a^^^18446744073709551615=18446744073709551615 -a:=by
 have g:BitVec.ofNat 64 a^^^BitVec.allOnes 64= ~~~BitVec.ofNat 64 a:=BitVec.xor_allOnes;have h2:=congrArg BitVec.toNat g
 rw [BitVec.toNat_xor,BitVec.toNat_not,BitVec.toNat_ofNat,cD h]at h2;exact h2
theorem xY(n:Int)(E:-4611686018427387903<=n)(h2:n<=4611686018427387903):bits .xor .u64 (IntKind.u64.wrap (IntKind.u64.wrap n*2^(1:Int).toNat)) (IntKind.u64.wrap (n/2^(63:Int).toNat))=(zz n:Int):=by
 rw [IntKind.wrap_u64,IntKind.wrap_u64,IntKind.wrap_u64];rw [show(2:Int)^(1:Int).toNat=2 from rfl,show(2:Int)^(63:Int).toNat=9223372036854775808 from rfl];by_cases h:n<0
 · obtain ⟨m,z⟩:∃m:Nat,n=-(m:Int):=⟨n.natAbs,by omega⟩
   have g:n%18446744073709551616*2%18446744073709551616=((18446744073709551616 -2*m:Nat):Int):=by omega
   have y:n/9223372036854775808%18446744073709551616=((18446744073709551615:Nat):Int):=by omega
   rw [g,y,u64_xor_nat _ _ A0 A0,mZ _ A0];unfold zz;rw [B2 h];omega
 · obtain ⟨m,z⟩:∃m:Nat,n=(m:Int):=⟨n.natAbs,by omega⟩
   have g:n%18446744073709551616*2%18446744073709551616=((2*m:Nat):Int):=by omega
   have y:n/9223372036854775808%18446744073709551616=((0:Nat):Int):=by omega
   rw [g,y,u64_xor_nat _ _ A0 A0,Nat.xor_zero];unfold zz;rw [Ax h];omega
theorem Bi{P:Program}{cx:Cx}{c:Code}{Q:Exit->Act->AD->Prop}{env:Env}{H:Hp}(h:At P cx c Q env ([]::H)):At P cx c Q env H:=jG (H':=[]::H) rfl h
theorem QT{α:Type}{l pre g:List α}{x:α}(h:l=pre++x::g):x∈l:=by rw [h];simp
theorem ZQ(I z:Nat)(hz:z<18446744073709551616):
 U9 prog 203 #[I5 I] [[(I,.cells #[.int .u64 (z:Int)] 214 (0,0))]] (fun x=>#[.int .u8 (x.1:Int),.bool x.2]) (OH z):=by
 intro l J hy s K;refine Se func203 ntmps203 [0,1] ?_;intro u R;refine AQ<|Zb [0,1] ?_;refine Av (e0:=[]) (fun m e H=>∃(pre:List (Nat×Bool)) (y:Nat) (s:List AR),m=0+y/\(OH z=pre++OH y/\y<18446744073709551616/\J pre s)/\e=[]/\H=[[(I,.cells #[.int .u64 (y:Int)] 214 (0,0))],s]) (by exact ⟨[],z,s,V,⟨V,hz,K⟩,V,V⟩) Wp ?_;rintro _ _ _ ⟨pre,y,s,rfl,⟨g,G,K⟩,rfl,rfl⟩;refine AQ<|A2<|Zl isAgg214 Y ?_;refine Zv (Ak (n:=128) Y Y)<|CT Y<|Zq ?_;have O:=hy pre (y%128,decide (y<128)) (if y<128 then []else OH (y/128)) s (by rw [g,<-Iw]) K
 refine Zg<|Zm Y<|Zl isAgg214 Y ?_;refine KH (pG (m:=(y:Int)) (n:=127) Y Y (zB y G)) V rfl ?_;refine BN (Kj ab IF Y A0)<|Zm Y<|Ze (OZ (vs:=[_,_]) Y Y (O) Wp) ?_;rintro _ _ ⟨_,⟨W,rfl,rfl,E⟩,rfl⟩;refine Zv (CR Y)<|Zm Y<|Ae (t:=13) Y V (fun U=>by cases U)<|fun U=>Sk 2 V<|Z0<|Zn [0,1,15] ?_;refine Zx<|Ad Y (fun M=>?_) (fun M=>?_);·
  refine AC<|Zt<|AX<|Zt<|AX ?_;refine Gn V results203 (by
   exact ⟨W,V,by
    have e:OH z=pre++[(y%128,decide (y<128))]:=by rw [g,Iw y,B2 M]
    rw [e];exact E⟩)
 refine B3<|Zg<|Zl isAgg214 Y ?_;refine BN (QJ (n:=7) Y Y (by first|decide|(simp [IntKind.bits];done)|(simp [IntKind.bits];omega)))<|Xe (Zs sizeOf214 Y Y rfl) ?_;refine Z0<|A8<|DH (e:=[]) (h:=by exact ⟨pre++[(y%128,decide (y<128))],y/2^7,W,rfl,⟨by rw [g,Iw y,Ax M];simp,by omega,E⟩,rfl,rfl⟩)
theorem ZP(z:Int):CJ prog 170 #[.int .u64 z] [] (fun r H'=>∃b,r= .func (.func 203) #[] #[I5 b]/\H'=[[(b,.cells #[.int .u64 z] 214 (0,0))]]):=by
 refine Se func170 ntmps170 [0] ?_;intro u R;refine A2<|Ze (Bx #[_])<|AE fun g=>AF Y<|A2<|Zv (CV (vs:=[]) (us:=[_]) Y Y)<|AM Y<|AO V results170 Y (by exact ⟨_,V,V⟩)
theorem MW(n:Int)(O:-4611686018427387903<=n)(h2:n<=4611686018427387903):BB prog 123 #[I4 n] [] (.tuple #[.string (str (MG n)),I4 0]):=by
 have ek:=mL;have gm:=mY n O h2
 have z:=H9 n O h2;unfold MG at z;rw [C2]at z;refine GM func123 V ntmps123 V ?_;intro u R;refine Zb [0] ?_;refine A2<|Za Y<|AF Y<|C0 Y<|Zv (Dq Y Y)<|Zm Y<|AZ (t:=9) Y V (fun W=>by omega)<|fun W=>Zf Y Y<|Yg (EE Y Y)<|H3 Y Y<|A6<|Ad Y (fun X=>by omega)<|fun X=>AB<|BT<|Ze (Al zeroValue105 #[_])<|AE fun bo=>A6<|C0 Y<|Zv (FB Ge ab Y V) ?_
 (refine BN (iH Y Y ?_ ?_ rfl) ?_;(focus (first|decide|omega|(simp [IntKind.bits];done)|(simp [IntKind.bits];omega)));(focus (first|decide|omega|(simp [IntKind.bits];done)|(simp [IntKind.bits];omega))))
 refine Zm Y ?_
 (refine BN (oz Y Y ?_ ?_ rfl) ?_;(focus (first|decide|omega|(simp [IntKind.bits];done)|(simp [IntKind.bits];omega)));(focus (first|decide|omega|(simp [IntKind.bits];done)|(simp [IntKind.bits];omega))))
 refine Zv (FB Ge ab Y V)<|KH (xA Y Y (xY n O h2)) V rfl ?_;refine Zc [_] Y call170 Y V (ZP _) ?_;rintro _ _ ⟨_,⟨bz,rfl,rfl⟩,rfl⟩;refine Z0<|Zn [4,20] ?_;refine Zx<|AQ<|Zb [4,20] ?_;refine Bi<|RF (H0:=_) (R:=_) (I:=(fun pre H=>∃v s,H=[[(bo,.cells #[v] 105 (0,0))],s]/\Row 5 v ((pre.map gb).map u8v) s)) (asg:=fun x=>[(6,.bool x.2),(5,.int .u8 (x.1:Int)),(22,.bool x.2),(21,.int .u8 (x.1:Int))]) V Y call203 (ZQ bz (zz n) A0) Y V Wp (⟨_,[],V,JZ _⟩) ?ha_2 ?hbd_2 ?hk_2
 case ha_2=>
  intro _ x _ _;refine A2<|AF Y<|Zg<|Za Y<|Z0 ?_;exact q8
 case hbd_2=>
  intro l pre x bf u H1 R1 K hI;obtain ⟨v,s,rfl,M⟩:=hI;have G:=vv _ x (QT K)
  have Z:=eY x G;have af:=congrArg List.length K
  rw [C7,GB]at af;obtain ⟨gv,cv,rfl⟩:=M.form;refine AQ<|C0 Y<|Zv (CR Y)<|A6<|Af Y (fun g=>?_) (fun g=>?_);focus
   have J:x.2=false:=by simpa using g
   refine Zg<|Zm Y<|KH (mu (m:=(x.1:Int)) (n:=128) Y Y (oT x.1 G)) V rfl ?_;refine AF Y<|Zg<|Zl eA Y ?_;refine Zm Y<|Ze (Ah (vs:=[_]) (cs:=[_]) GC KB Pr Y V rfl V rfl V) ?_;rintro _ _ ⟨b2,rfl,rfl⟩
  rotate_left
  focus
   have J:x.2=true:=by simpa using g
   refine B3<|Zg<|Zl eA Y ?_;refine Zm Y<|Ze (Ah (vs:=[_]) (cs:=[_]) GC KB Pr Y V rfl V rfl V) ?_;rintro _ _ ⟨b4,rfl,rfl⟩
  all_goals
   refine Ze (EX (by_:=1) (news:=[_]) GC (V:Tryz.prog.info? 5=some Tryz.t5) V rfl V rfl Y M Y Wo Wh B5 V HH AH (by(simp only [C2];omega)) (by(simp only [C2];omega))) ?_;rintro _ _ ⟨sb,E,rfl⟩;obtain ⟨gb,cb,rfl⟩:=E.form;refine Xe (Zs sizeOf105 Y Y V) ?_;refine Z0<|A8<|Mh V (by
    exact ⟨_,_,V,by
     rw [HD,HD,RK,RK,Z,J];exact E⟩)
 intro D1 H2 U;obtain ⟨v,s,rfl,M⟩:=U;have y:=aP n
 unfold MG at y;obtain ⟨gv,cv,cur,zv,rfl,rfl,d9,bn,cu,ax,cO⟩:=M.some (by rw [C2];exact y);refine Zn [4] ?_;refine A8<|BT<|Zl eA Y ?_;refine Zo Wh (Dm GC IF HM Y (by exact ⟨ax,by simp⟩)) ?_;refine Za Y<|AM Y<|LA V (r4 results123 Y Y) Wo (by exact ⟨V,V⟩)
structure AV where
 t:Int
 k:Int
 v:V3
deriving DecidableEq
abbrev AV.Ax3(c:AV):Array Go.Value:=#[I4 c.t,I4 c.k,I4 c.v.a,I4 c.v.b,I4 c.v.c]
structure Chg where
 t:Int
 k:Int
 had:Bool
 o:V3
 has:Bool
 n:V3
deriving DecidableEq
abbrev Chg.Ax2(c:Chg):Array Go.Value:=#[I4 c.t,I4 c.k,.bool c.had,I4 c.o.a,I4 c.o.b,I4 c.o.c,.bool c.has,I4 c.n.a,I4 c.n.b,I4 c.n.c]
def AV.zero:AV:=⟨0,0,V3.zero⟩
def AV.ok(r:AV):Prop:=r.v.ok/\(0<=r.t/\r.t<=3)/\(1<=r.k/\r.k<=1000000)
instance(r:AV):Decidable r.ok:=inferInstanceAs(Decidable (_/\_/\_))
def Chg.before(c:Chg):AV:=if c.had then⟨c.t,c.k,c.o⟩else AV.zero
def Chg.after(c:Chg):AV:=if c.has then⟨c.t,c.k,c.n⟩else AV.zero
variable{c:Chg}
theorem KE(h:c.had=true):c.before=⟨c.t,c.k,c.o⟩:=B2 h
theorem sV(h:c.had=false):c.before=AV.zero:=Ax (by rw [h];decide)
theorem Hl(h:c.has=true):c.after=⟨c.t,c.k,c.n⟩:=B2 h
theorem wR(h:c.has=false):c.after=AV.zero:=Ax (by rw [h];decide)
def Chg.ok(c:Chg):Prop:=¬((¬c.had/\¬c.has)\/(c.had/\c.has/\c.o=c.n))/\¬((c.had/\¬c.before.ok)\/(c.has/\¬c.after.ok))/\(c.had\/c.o=V3.zero)/\(c.has\/c.n=V3.zero)
instance(c:Chg):Decidable c.ok:=inferInstanceAs(Decidable (_/\_/\_/\_))
theorem Jn(n lo hi:Int):BB prog 97 #[I4 n,I4 lo,I4 hi] [] (.bool (decide (lo<=n/\n<=hi))):=by
 refine Se func97 ntmps97 [0,1,2] ?_;intro u R;refine A2<|AF Y<|A2<|Sk 2 V<|Zv (Fa Y Y)<|Zm Y<|AZ (t:=10) Y V (fun g=>?_) (fun g=>?_);focus
  refine Sk 2 V<|Yg (JB Y Y)<|Zv (Ay Y Y) ?_
 rotate_left
 focus
  refine Sk 4 V ?_
 all_goals
  refine AM Y<|AO V results97 Y (by exact ⟨by simp [g],V⟩)
theorem Ku(c:Chg):BB prog 183 #[.agg c.Ax2] [] (.tuple #[.agg c.before.Ax3,.bool c.had]):=by
 refine Se func183 ntmps183 [0] ?_;intro u R;refine A2<|Ze (Bx #[_,_,_,_,_,_,_,_,_,_])<|AE fun m=>Ze (Al DS #[_,_,_,_,_])<|AE fun y=>CT Y<|A2<|Zh 2 CM V rfl DP Y<|Zl Fc Y ?_;refine Zv (CR Y)<|A6<|Af Y (fun g=>?_) (fun g=>?_);·
  refine A2<|Zv (BK (vs:=[]) (cs:=#[_,_,_,_,_]) Y (AY (pl:=#[(0,1),(1,1),(2,3)]) DS F1 (fun _=>by kernel_rfl) V))<|Xe (Xw AW _) ?_;refine AM Y<|Zt<|Bo V results183 Y Wh (Ai C5 AW Wn (V)) Y (by simp only [eL,S2,da]at g;exact ⟨by(rw [sV g,g];rfl),V⟩)
 refine AB<|BT<|Zh 0 CM V rfl A4 Y<|Zl A5 Y ?_;refine Zh 1 CM V rfl A4 Y<|Zl A5 Y ?_;refine Zh 3 CM V rfl Dg Y<|Zo Wh (Pa #[_,_,_] Hv Dg Y) ?_;refine Zv (BK (vs:=[(0,_),(1,_),(2,_)]) (cs:=#[_,_,_,_,_]) Y (AY (pl:=#[(0,1),(1,1),(2,3)]) DS F1 (fun _=>by kernel_rfl) rfl))<|Xe (Ao AW Y Y (by(simp [Value.oneCell',Value.cells];done)) Wu B5 DO Wn (by exact Aw _)) ?_;refine AN Y<|Zn [2,3] ?_;refine Zx<|AC<|Bo V results183 Y Wh (Ai C5 AW Wn (V)) Y (by simp only [eL,S2,da]at g;exact ⟨by(rw [KE g,g];rfl),V⟩)
theorem IK(c:Chg):BB prog 77 #[.agg c.Ax2] [] (.tuple #[.agg c.after.Ax3,.bool c.has]):=by
 refine Se func77 ntmps77 [0] ?_;intro u R;refine A2<|Ze (Bx #[_,_,_,_,_,_,_,_,_,_])<|AE fun m=>Ze (Al DS #[_,_,_,_,_])<|AE fun y=>CT Y<|A2<|Zh 6 CM V rfl DP Y<|Zl Fc Y ?_;refine Zv (CR Y)<|A6<|Af Y (fun g=>?_) (fun g=>?_);·
  refine A2<|Zv (BK (vs:=[]) (cs:=#[_,_,_,_,_]) Y (AY (pl:=#[(0,1),(1,1),(2,3)]) DS F1 (fun _=>by kernel_rfl) V))<|Xe (Xw AW _) ?_;refine AM Y<|Zt<|Bo V results77 Y Wh (Ai C5 AW Wn (V)) Y (by simp only [eL,S2,da]at g;exact ⟨by(rw [wR g,g];rfl),V⟩)
 refine AB<|BT<|Zh 0 CM V rfl A4 Y<|Zl A5 Y ?_;refine Zh 1 CM V rfl A4 Y<|Zl A5 Y ?_;refine Zh 7 CM V rfl Dg Y<|Zo Wh (Pa #[_,_,_] Hv Dg Y) ?_;refine Zv (BK (vs:=[(0,_),(1,_),(2,_)]) (cs:=#[_,_,_,_,_]) Y (AY (pl:=#[(0,1),(1,1),(2,3)]) DS F1 (fun _=>by kernel_rfl) rfl))<|Xe (Ao AW Y Y (by(simp [Value.oneCell',Value.cells];done)) Wu B5 DO Wn (by exact Aw _)) ?_;refine AN Y<|Zn [2,3] ?_;refine Zx<|AC<|Bo V results77 Y Wh (Ai C5 AW Wn (V)) Y (by simp only [eL,S2,da]at g;exact ⟨by(rw [Hl g,g];rfl),V⟩)
theorem MU(r:AV):BB prog 176 #[.agg r.Ax3] [] (.bool (decide r.ok)):=by
 refine Se func176 ntmps176 [0] ?_;intro u R;refine A2<|Ze (Bx #[_,_,_,_,_])<|AE fun I=>CT Y<|A2<|AF Y<|AQ<|Zb [3,1] ?_;refine Av (e0:=[(3,_)]) (fun m e H=>∃(i:Nat),m=3 -i/\(i<=3/\(∀j,j<i->inV (r.v.get j)))/\e=[(3,I4 (i:Int))]/\H=[]) (by exact ⟨0,V,⟨by omega,by intro j G;omega⟩,V,V⟩) Wp ?_;rintro _ _ _ ⟨i,rfl,⟨hi,y⟩,rfl,rfl⟩;refine C0 Y<|Zv (Ak (n:=3) Y Y)<|A6<|Ad Y (fun z=>?_) (fun z=>?_);·
  refine B3<|Zq<|AQ<|B7 Y<|Zh 2 F1 V rfl Dg Y ?_;refine BN (Cf HS A4 Y Y A0)<|Zl A5 Y (hv:=by rw [MA];exact zM _ _ r.v _ A0) ?_;refine Xr [_,_,_] Y call97 Y V (Jn _ _ _) ?_;refine Zv (Bp Y)<|A6<|Ad Y (fun g=>?_) (fun g=>?_);·
   refine A2<|AM Y<|AX<|Zt<|Zt<|AX<|Zt<|AO rfl results176 Y (by exact ⟨by rw [CC (fun h9:r.ok=>g (wX.1 h9.1 i A0))],rfl⟩)
  refine AB<|A8<|Zx<|Zg<|Zm Y<|Ya (n:=1) Y Y<|AN Y<|HN (by exact ⟨i+1,V,⟨by omega,uI y (Fi.1 g)⟩,V,V⟩)
 refine Az<|Zt<|Zt<|AU<|BT<|Zh 0 F1 V rfl A4 Y<|Zl A5 Y ?_;refine Xr [_,_,_] Y call97 Y V (Jn _ _ _) ?_;refine Zm Y<|AZ (t:=17) Y V (fun E=>?_) (fun E=>?_);focus
  refine Yf 1 F1 V rfl A4 Y<|Yl A5 Y ?_;refine Xr [_,_,_] Y call97 Y V (Jn _ _ _) ?_;refine Zv (Ay Y Y) ?_
 rotate_left
 focus
  refine Sk 4 V ?_
 all_goals
  refine AM Y<|AO V results176 Y (by have hv:r.v.ok:=wX.2 (fun j G=>y j A0);exact ⟨by simp only [AV.ok,hv,E,fX,false_and,eC],V⟩)
theorem VE(c:Chg):BB prog 141 #[.agg c.Ax2] [] (.bool (decide c.ok)):=by
 refine Se func141 ntmps141 [0] ?_;intro u R;refine A2<|Ze (Bx #[_,_,_,_,_,_,_,_,_,_])<|AE fun b1=>AF Y<|A2<|Zo Wh (Pa #[_,_,_,_,_,_,_,_,_,_] G1 D2 Y)<|Xr [_] Y call183 Y V (Ku c)<|Sk 3 V<|Ze (Al DS #[_,_,_,_,_])<|AE fun b2=>Xe (Xw AW _)<|AF Y<|A2<|Zo Wh (Pa #[_,_,_,_,_,_,_,_,_,_] G1 D2 Y)<|Xr [_] Y call77 Y V (IK c)<|Sk 3 V<|Ze (Al DS #[_,_,_,_,_])<|AE fun b3=>Xe (Xw AW _)<|AN Y<|Zn [1,3,4,5,6] ?_;refine Zx<|Zq<|Zb [1,3,4,5,6] ?_;refine C9 (e0:=[]) (H0:=[]) (fun e H=>∃(K:Bool),(K=decide ((¬c.had/\¬c.has)\/(c.had/\c.has/\c.o=c.n)))/\e=[(35,.bool K)]/\H=[]) Wp ?hx_1 ?hy_1
 case hx_1=>
  refine Zg<|Zm Y<|Zv (CR Y)<|Zm Y<|Ae (t:=19) Y V (fun M=>?_) (fun M=>?_);focus
   refine Zf Y Y<|Yg (CR Y)<|Sk 2 V ?_;refine Ae (t:=23) Y V (fun O=>?_) (fun O=>?_);·
    refine Sk 12 V<|Z0<|FF (e:=[(35,_)]) (h:=by exact ⟨_,by simp_all,V,V⟩)
   focus
    refine Sk 2 V ?_;refine Ae (t:=25) Y V (fun U=>?_) (fun U=>?_);focus
     refine Sk 3 V ?_;refine Ae (t:=28) Y V (fun W=>?_) (fun W=>?_);refine Yf 3 CM V rfl Dg Y<|DK Y Wh (Pa #[_,_,_] Hv Dg Y) V rfl<|Yf 7 CM V rfl Dg Y<|DK Y Wh (Pa #[_,_,_] Hv Dg Y) V rfl<|Yg (Li AG HS Ge A5 A4 Y Y) ?_;refine Sk 2 V<|Z0<|FF (e:=[(35,_)]) (h:=by exact ⟨_,by simp_all,V,V⟩)
    rotate_left
    focus
     refine Sk 3 V ?_
  rotate_left 2
  focus
   refine Sk 6 V ?_;refine Ae (t:=25) Y V (fun X=>?_) (fun X=>?_);focus
    refine Sk 3 V ?_;refine Ae (t:=28) Y V (fun Z=>?_) (fun Z=>?_);refine Yf 3 CM V rfl Dg Y<|DK Y Wh (Pa #[_,_,_] Hv Dg Y) V rfl<|Yf 7 CM V rfl Dg Y<|DK Y Wh (Pa #[_,_,_] Hv Dg Y) V rfl<|Yg (Li AG HS Ge A5 A4 Y Y) ?_;refine Sk 2 V<|Z0<|FF (e:=[(35,_)]) (h:=by exact ⟨_,by simp_all,V,V⟩)
   rotate_left
   focus
    refine Sk 3 V ?_
  all_goals
   refine Sk 7 V<|Z0<|FF (e:=[(35,_)]) (h:=by exact ⟨_,by simp_all,V,V⟩)
 rintro _ _ ⟨K,cu,rfl,rfl⟩;refine Af Y (fun af=>?_) (fun af=>?_);rotate_left;focus
  refine B3<|Zq<|Zb [3,5,1,4,6] ?_;refine C9 (e0:=[(3,_),(5,_)]) (H0:=[]) (fun e H=>∃(J:Bool),(J=decide ((c.had/\¬c.before.ok)\/(c.has/\¬c.after.ok)))/\e=[(49,.bool J)]/\H=[]) Wp ?hx_10 ?hy_10
  case' hx_10=>
   refine Zg<|Sk 2 V ?_;refine Ae (t:=37) Y V (fun ax=>?_) (fun ax=>?_);focus
    refine DK Y Wh (Pa #[_,_,_,_,_] C5 AW Y) V rfl<|Xr [_] Y call176 Y V (MU _)<|Yg (Bp Y)<|Sk 2 V ?_;refine AZ (t:=42) Y V (fun bf=>?_) (fun bf=>?_);focus
     refine Sk 7 V ?_
    rotate_left
    focus
     refine Sk 2 V ?_;refine Ae (t:=44) Y V (fun g=>?_) (fun g=>?_);focus
      refine DK Y Wh (Pa #[_,_,_,_,_] C5 AW Y) V rfl<|Xr [_] Y call176 Y V (MU _)<|Yg (Bp Y)<|Sk 2 V ?_
     rotate_left
     focus
      refine Sk 5 V ?_
   rotate_left 3
   focus
    refine Sk 7 V ?_;refine Ae (t:=44) Y V (fun m=>?_) (fun m=>?_);focus
     refine DK Y Wh (Pa #[_,_,_,_,_] C5 AW Y) V rfl<|Xr [_] Y call176 Y V (MU _)<|Yg (Bp Y)<|Sk 2 V ?_
    rotate_left
    focus
     refine Sk 5 V ?_
   all_goals
    refine Z0<|FF (e:=[(49,_)]) (h:=by exact ⟨_,by simp_all,V,V⟩)
  case' hy_10=>
   rintro _ _ ⟨J,bn,rfl,rfl⟩;refine Af Y (fun y=>?_) (fun y=>?_);rotate_left;focus
    refine AB<|BT<|Sk 2 V ?_;refine Ae (t:=51) Y V (fun z=>?_) (fun z=>?_);focus
     refine Sk 8 V ?_;refine Ae (t:=59) Y V (fun E=>?_) (fun E=>?_);refine Sk 6 V<|AN Y<|Zn [2] ?_;refine Zx<|AC<|AO V i1 Y (by exact ⟨by simp_all [Chg.ok],V⟩)
    rotate_left
    focus
     refine Yf 3 CM V rfl Dg Y<|DK Y Wh (Pa #[_,_,_] Hv Dg Y) V rfl<|Yg (BK (vs:=[]) (cs:=#[_,_,_]) Y (DN cL HS A4 V)) ?_;refine Yg (KV AG HS Ge A5 A4 Y Y) ?_;refine Sk 2 V ?_;refine AZ (t:=57) Y V (fun G=>?_) (fun G=>?_);focus
      refine Sk 2 V ?_;refine Ae (t:=59) Y V (fun I=>?_) (fun I=>?_);refine Sk 6 V<|AN Y<|Zn [2] ?_;refine Zx<|AC<|AO V i1 Y (by exact ⟨by simp_all [Chg.ok],V⟩)
     rotate_left
     refine Sk 8 V<|AN Y<|Zn [2] ?_;refine Zx<|AC<|AO V i1 Y (by exact ⟨by simp_all [Chg.ok],V⟩)
    all_goals
     refine Yf 7 CM V rfl Dg Y<|DK Y Wh (Pa #[_,_,_] Hv Dg Y) V rfl<|Yg (BK (vs:=[]) (cs:=#[_,_,_]) Y (DN cL HS A4 V)) ?_;refine Yg (KV AG HS Ge A5 A4 Y Y) ?_;refine Sk 2 V<|AN Y<|Zn [2] ?_;refine Zx<|AC<|AO V i1 Y (by exact ⟨by simp_all [Chg.ok],V⟩)
 all_goals
  refine A2<|AM Y<|Zt<|AO V i1 Y (by exact ⟨by simp_all [Chg.ok],V⟩)
def DJ(M:List AR)(v:A3)(cs:List Chg):Prop:=∃p cap,v= .slice p cs.length cap/\cs.length<=maxLen/\∀(i:Nat) (c:Chg),cs[i]?=some c->∃g off cur T zz,p=some ⟨g,off,none⟩/\(g,Obj.cells cur T zz)∈M/\off+i*10+10<=cur.size/\cur.extract (off+i*10) (off+i*10+10)=c.Ax2
def Chg.lt(b c:Chg):Prop:=b.t<c.t\/b.t=c.t/\b.k<c.k
instance(b c:Chg):Decidable (b.lt c):=inferInstanceAs(Decidable (_\/_))
structure Es(p:Int)(cs:List Chg):Prop where
 pos:1<=p/\p<=10000
 len:1<=cs.length/\cs.length<=8
 all:∀(i:Nat) (c:Chg),cs[i]?=some c->c.ok
 ord:∀(i:Nat) (b c:Chg),cs[i]?=some b->cs[i+1]?=some c->b.lt c
noncomputable instance(p:Int)(cs:List Chg):Decidable (Es p cs):=Classical.propDecidable _
variable{i:Nat}
theorem U5{cs:List Chg}{x:Chg}(h:∀(j:Nat) (c:Chg),j<i->cs[j]?=some c->c.ok)(hx:cs[i]?=some x)(g:x.ok):∀(j:Nat) (c:Chg),j<i+1->cs[j]?=some c->c.ok:=by
 intro j c m hc;rcases FA j i with h9|h9
 · exact h j c h9 hc
 · have e:j=i:=by omega
   rw [e,hx]at hc;injection hc with hc;rw [<-hc];exact g
theorem TG{cs:List Chg}{x:Chg}(h:∀(j:Nat) (b c:Chg),j+1<i->cs[j]?=some b->cs[j+1]?=some c->b.lt c)(hx:cs[i]?=some x)(m:i=0\/∃y,cs[i -1]?=some y/\y.lt x):∀(j:Nat) (b c:Chg),j+1<i+1->cs[j]?=some b->cs[j+1]?=some c->b.lt c:=by
 intro j b c z g hc;rcases FA (j+1) i with h9|h9
 · exact h j b c h9 g hc
 · have e:j+1=i:=by omega
   rw [e,hx]at hc;injection hc with hc
   rcases m with h0|⟨y,hy,hl⟩
   · omega
   · rw [show i -1=j by omega,g]at hy;injection hy with hy;rw [hy,<-hc];exact hl
theorem NH(p:Int)(q:C1)(cap:Nat)(cs:List Chg)(M:List AR)(hO:DJ M (.slice q cs.length cap) cs):BB prog 74 #[.agg #[I4 p,.slice q cs.length cap]] [M] (.bool (decide (Es p cs))):=by
 have gm:=mL;obtain ⟨p9,cO,e9,gq,hg⟩:=hO;injection e9 with e91 e92 e93
 subst e91 e93;refine Se func74 ntmps74 [0] ?_;intro u R;refine A2<|Ze (Bx #[_,_])<|AE fun b1=>CT Y<|A2<|Zh 0 G3 V rfl A4 Y<|Zl A5 Y<|Xr [_,_,_] Y call97 Y V (Jn _ _ _)<|Zv (Bp Y)<|Zm Y<|AZ (t:=10) Y V (fun hp=>?_) (fun hp=>?_);·
  refine Sk 6 V<|Z0<|Zn [1,16] ?_;refine Zx<|BV Y<|A2<|AM Y<|Zt<|AO rfl fL Y (by exact ⟨by rw [CC (fun h9:Es p cs=>by have E:=h9.pos;have X:=h9.len;exact hp E)],rfl⟩)
 refine Yf 1 G3 V rfl ID Y<|Yl J0 Y<|Yg (AJ GF Y)<|Xr [_,_,_] Y call97 Y V (Jn _ _ _)<|Yg (Bp Y)<|H3 Y Y<|Z0<|Zn [1,16] ?_;refine Zx<|Ad Y (fun hl=>?_) (fun hl=>?_);·
  refine A2<|AM Y<|Zt<|AO rfl fL Y (by exact ⟨by rw [CC (fun h9:Es p cs=>by have E:=h9.pos;have X:=h9.len;(apply hl;omega))],rfl⟩)
 refine B3<|Zq<|A2<|AF Y<|AQ<|Zb [3,1] ?_;refine Av (e0:=[(3,_)]) (fun m e H=>∃(i:Nat),m=cs.length -i/\(i<=cs.length/\(∀(j:Nat) (c:Chg),j<i->cs[j]?=some c->c.ok)/\(∀(j:Nat) (b c:Chg),j+1<i->cs[j]?=some b->cs[j+1]?=some c->b.lt c))/\e=[(3,I4 (i:Int))]/\H=[]) (by exact ⟨0,V,⟨by omega,by intro j c hj;omega,by intro j b c hj;omega⟩,V,V⟩) Wp ?_;rintro _ _ _ ⟨i,rfl,⟨hi,G,I⟩,rfl,rfl⟩;refine C0 Y<|Zh 1 G3 V rfl ID Y<|Zl J0 Y<|Zv (AJ GF Y)<|Zv (Ak Y Y)<|A6<|Ad Y (fun O=>?_) (fun O=>?_);·
  refine B3<|Zq<|AQ<|Zq ?_;obtain ⟨x,hx⟩:∃x,cs[i]?=some x:=⟨_,Bk O⟩;obtain ⟨g,off,cur,T,zz,rfl,hm,gy,Z⟩:=hg i x hx;refine Zg<|Zh 1 G3 V rfl ID Y<|Zl J0 Y<|Zm Y<|BN (A9 GF D2 Y Y A0)<|Cj (cs:=[(g,.cells cur T zz)]) (by simp [hm]) (A7 (cs:=x.Ax2) G1 D2 Y A0 Z) V rfl<|Ze (Al MT #[_,_,_,_,_,_,_,_,_,_])<|AE fun b2=>Xe (Xw D2 _)<|A6<|Zq<|A2<|Zo Wh (Pa #[_,_,_,_,_,_,_,_,_,_] G1 D2 Y)<|Xr [_] Y call141 Y V (VE x)<|Zv (Bp Y)<|Z0<|Zn [1,3,4,31] ?_;refine Zx<|Ad Y (fun z=>?_) (fun z=>?_);·
   refine A2<|AM Y<|Zt<|AX<|Zt<|Zt<|AX<|Zt<|AO rfl fL Y (by exact ⟨by rw [CC (fun h9:Es p cs=>z (h9.all i x hx))],rfl⟩)
  refine B3<|B7 Y<|Zv (CW (n:=0) Y Y)<|A6<|Ad Y (fun U=>?_) (fun U=>?_);·
   refine Zq ?_;obtain ⟨y,hy⟩:∃y,cs[i -1]?=some y:=⟨_,Bk A0⟩;obtain ⟨g2,ek,J,T2,cu,W,af,d9,K⟩:=hg (i -1) y hy;injection W with W
   injection W with e21 e22
   subst e21 e22;refine Zg<|Zh 1 G3 V rfl ID Y<|Zl J0 Y<|Zm Y<|Yb (n:=1) Y Y ?_;refine BN (A9 GF D2 Y Y A0)<|Cj (cs:=[(g,.cells J T2 cu)]) (by simp [af]) (A7 (cs:=y.Ax2) G1 D2 Y A0 K) V rfl<|Ze (Al MT #[_,_,_,_,_,_,_,_,_,_])<|AE fun b3=>Xe (Xw D2 _)<|A6<|A2<|Zh 0 CM V rfl A4 Y<|Zl A5 Y<|Zh 0 CM V rfl A4 Y<|Zl A5 Y<|Zv (EE Y Y)<|Zm Y<|AZ (t:=45) Y V (fun ax=>?_) (fun ax=>?_);·
    refine Sk 13 V<|Z0<|Zn [1,3,58] ?_;refine Zx<|BV Y<|A2<|AM Y<|AX<|Zt<|Zt<|AX<|Zt<|AO rfl fL Y (by exact ⟨by rw [CC (fun h9:Es p cs=>by have E:=h9.ord (i -1) y x hy (by rw [show i -1+1=i by omega];exact hx);unfold Chg.lt at E;omega)],rfl⟩)
   refine Yf 0 CM V rfl A4 Y<|Yl A5 Y<|Yf 0 CM V rfl A4 Y<|Yl A5 Y<|Yg (Bd Y Y)<|Zf Y Y<|AZ (t:=51) Y V (fun bf=>?_) (fun bf=>?_);focus
    refine Yf 1 CM V rfl A4 Y<|Yl A5 Y<|Yf 1 CM V rfl A4 Y<|Yl A5 Y<|Yg (Fa Y Y)<|Sk 2 V<|Z0<|Zn [1,3,58] ?_;refine Zx<|Ad Y (fun bn=>?_) (fun bn=>?_);refine A2<|AM Y<|AX<|Zt<|Zt<|AX<|Zt<|AO rfl fL Y (by exact ⟨by rw [CC (fun h9:Es p cs=>by have E:=h9.ord (i -1) y x hy (by rw [show i -1+1=i by omega];exact hx);unfold Chg.lt at E;omega)],rfl⟩)
   rotate_left
   focus
    refine Sk 7 V<|Z0<|Zn [1,3,58] ?_;refine Zx<|DY Y ?_
   all_goals
    refine AB<|A8<|Zx<|Zg<|Zm Y<|Ya (n:=1) Y Y<|AN Y<|HN (by exact ⟨i+1,V,⟨by omega,U5 G hx (Fi.1 z),TG I hx (by(right;refine ⟨y,hy,?_⟩;unfold Chg.lt;omega))⟩,V,V⟩)
  refine AB<|A8<|Zx<|Zg<|Zm Y<|Ya (n:=1) Y Y<|AN Y<|HN (by exact ⟨i+1,V,⟨by omega,U5 G hx (Fi.1 z),TG I hx (by(left;omega))⟩,V,V⟩)
 refine Az<|Zt<|Zt<|AU<|BT<|AM Y<|AO rfl fL Y (by exact ⟨by rw [Cp (⟨by omega,by omega,fun j c hc=>G j c (by have:=(D3.1 hc).1;omega) hc,fun j b c hb hc=>I j b c (by have:=(D3.1 hc).1;omega) hb hc⟩:Es p cs)],rfl⟩)
def fw(M:List AR)(v:A3)(rs:List AV):Prop:=∃p cap,v= .slice p rs.length cap/\rs.length<=maxLen/\∀(i:Nat) (r:AV),rs[i]?=some r->∃g off cur T zz,p=some ⟨g,off,none⟩/\(g,Obj.cells cur T zz)∈M/\off+i*5+5<=cur.size/\cur.extract (off+i*5) (off+i*5+5)=r.Ax3
variable{cur:As}
theorem IU{cs:As}{a n j:Nat}{v:A3}(h:cur.extract a (a+n)=cs)(hv:cs[j]?=some v):cur[a+j]?=some v:=by
 rw [<-h,cU]at hv;split at hv;· exact hv
 · cases hv
def AV.lt2(r:AV)(t k:Int):Prop:=r.t<t\/r.t=t/\r.k<k
instance(r:AV)(t k:Int):Decidable (r.lt2 t k):=inferInstanceAs(Decidable (_\/_))
def AV.is(r:AV)(t k:Int):Prop:=r.t=t/\r.k=k
instance(r:AV)(t k:Int):Decidable (r.is t k):=inferInstanceAs(Decidable (_/\_))
def BP(rs:List AV):Prop:=rs.Pairwise (fun a b=>a.lt2 b.t b.k)
def EL(rs:List AV)(t k:Int):Nat:=(rs.takeWhile (fun r=>decide (r.lt2 t k))).length
theorem VQ:∀{rs:List AV} {t k:Int} {m:Nat},m<=rs.length->(∀(i:Nat) (r:AV),i<m->rs[i]?=some r->r.lt2 t k)->(∀(i:Nat) (r:AV),m<=i->rs[i]?=some r->¬r.lt2 t k)->EL rs t k=m
 |[],t,k,m,hm,_,_=>by simp only [My]at hm;simp [EL];omega
 |r::rs,t,k,0,_,_,h2=>by unfold EL;rw [cC,Ax (by simpa using h2 0 r A0 rfl)];rfl
 |r::rs,t,k,m+1,hm,h1,h2=>by
  unfold EL;rw [cC,B2 (by simpa using h1 0 r A0 rfl),GB];exact congrArg (·+1) (VQ (by simpa using hm) (fun i x hi hx=>h1 (i+1) x A0 hx) (fun i x hi hx=>h2 (i+1) x A0 hx))
variable{k t:Int}
theorem QU{a b:AV}(h:a.lt2 b.t b.k)(g:b.lt2 t k):a.lt2 t k:=by unfold AV.lt2 at*;omega
variable{rs:List AV}
theorem Ur(h:BP rs){j:Nat}{a b:AV}(g:i<j)(m:rs[i]?=some a)(y:rs[j]?=some b):a.lt2 b.t b.k:=by
 obtain ⟨hi,rfl⟩:=D3.1 m;obtain ⟨z,rfl⟩:=D3.1 y;exact lE.1 h i j hi z g
variable{x:AV}
theorem mP(h:BP rs){m:Nat}(hx:rs[m]?=some x)(y:x.lt2 t k):∀(i:Nat) (r:AV),i<m+1->rs[i]?=some r->r.lt2 t k:=by
 intro i r hi g;rcases FA i m with h9|h9
 · exact QU (Ur h h9 g hx) y
 · rw [show i=m by omega,hx]at g;injection g with g;rw [<-g];exact y
theorem WH(h:BP rs){m:Nat}(hx:rs[m]?=some x)(y:¬x.lt2 t k):∀(i:Nat) (r:AV),m<=i->rs[i]?=some r->¬r.lt2 t k:=by
 intro i r hi g hc;rcases FA m i with h9|h9
 · exact y (QU (Ur h h9 hx g) hc)
 · rw [show i=m by omega,hx]at g;injection g with g;rw [<-g]at hc;exact y hc
theorem YO(sp:Nat)(q:C1)(cap:Nat)(p t k:Int)(rs:List AV)(M:List AR)(Z:fw M (.slice q rs.length cap) rs)(hn:rs.length<=1000000)(K:BP rs):BB prog 76 #[I5 sp,I4 t,I4 k] [[(sp,.cells #[.slice q rs.length cap,I4 p] 138 (0,0))],M] (I4 (EL rs t k:Int)):=by
 have bf:=mL;obtain ⟨p9,O,U,bn,hg⟩:=Z;injection U with e91 e92 e93
 subst e91 e93;refine Se func76 ntmps76 [0,1,2] ?_;intro u R;refine A2<|AF Y<|A2<|AF Y<|B7 Y<|Zp Y V<|Zh 0 MD V rfl Cl Y<|Zl DQ Y ?_;refine Zv (AJ B0 Y)<|CT Y<|AQ<|Zb [7,8,0,1,2] ?_;refine Av (e0:=[(7,_),(8,_)]) (fun m e H=>∃(lo hi:Nat),m=hi -lo/\(lo<=hi/\hi<=rs.length/\(∀(i:Nat) (r:AV),i<lo->rs[i]?=some r->r.lt2 t k)/\(∀(i:Nat) (r:AV),hi<=i->rs[i]?=some r->¬r.lt2 t k))/\e=[(7,I4 (lo:Int)),(8,I4 (hi:Int))]/\H=[]) (by exact ⟨0,rs.length,V,⟨by omega,by omega,by intro i r hi;omega,by intro i r hi J;have:=(D3.1 J).1;omega⟩,V,V⟩) Wp ?_;rintro _ _ _ ⟨lo,hi,rfl,⟨ax,af,y,E⟩,rfl,rfl⟩;refine Zq<|A2<|Sk 2 V<|Zv (Ak Y Y)<|A6<|Ad Y (fun G=>?_) (fun G=>?_);·
  refine B3<|AQ<|A2<|Sk 2 V<|Ya Y Y ?_
  (refine BN (L6 (n:=2) Y Y ?_ ?_) ?_;(focus (omega));(focus (omega)))
  refine AF Y<|Zq ?_;obtain ⟨x,hx⟩:∃x,rs[(lo+hi)/2]?=some x:=⟨_,Bk A0⟩;obtain ⟨g,off,cur,T,zz,rfl,I,cu,z⟩:=hg _ x hx;refine Zg<|Zm Y<|Zp Y V<|Zh 0 MD V rfl Cl Y<|Zl DQ Y ?_;refine Zm Y<|BN (A9 B0 AW Y Y A0)<|Zv (Aj (off:=0) F1 V rfl A4 Y)<|Cj (cs:=[(g,.cells cur T zz)]) (by simp [I]) (BZ A5 Y (IU (j:=0) z V)) V rfl ?_;refine Zm Y<|Zv (Dq Y Y)<|Zm Y<|AZ (t:=32) Y V (fun W=>?_) (fun W=>?_);focus
   refine Sk 23 V<|Z0<|Zn [0,1,2,7,8,9,55] ?_;refine Zx<|BV Y ?_
  rotate_left
  focus
   refine Zf Y Y<|Yg (EY Y V)<|Yf 0 MD V rfl Cl Y<|Yl DQ Y ?_;refine Zf Y Y ?_
   (refine ER Y (A9 B0 AW Y Y ?_) rfl rfl ?_;(focus (omega)))
   refine Yg (Aj (off:=0) F1 V rfl A4 Y)<|Mg Y (cs:=[(g,.cells cur T zz)]) (by simp [I]) (BZ A5 Y (IU (j:=0) z V)) V rfl ?_;refine Zf Y Y<|Yg (Bd Y Y)<|Zf Y Y ?_;refine AZ (t:=43) Y V (fun h2=>?_) (fun h2=>?_);focus
    refine Zf Y Y<|Yg (EY Y V)<|Yf 0 MD V rfl Cl Y<|Yl DQ Y ?_;refine Zf Y Y ?_
    (refine ER Y (A9 B0 AW Y Y ?_) rfl rfl ?_;(focus (omega)))
    refine Yg (Aj (off:=1) F1 V rfl A4 Y)<|Mg Y (cs:=[(g,.cells cur T zz)]) (by simp [I]) (BZ A5 Y (IU (j:=1) z V)) V rfl ?_;refine Zf Y Y<|Yg (Dq Y Y)<|Sk 2 V<|Z0<|Zn [0,1,2,7,8,9,55] ?_;refine Zx<|Ad Y (fun X=>?_) (fun X=>?_);rotate_left;refine Zg<|Zm Y<|AN Y<|A8<|HN (by exact ⟨lo,(lo+hi)/2,V,⟨by omega,by omega,y,WH K hx (by unfold AV.lt2;omega)⟩,V,V⟩)
   rotate_left
   refine Sk 12 V<|Z0<|Zn [0,1,2,7,8,9,55] ?_;refine Zx<|DY Y<|Zg<|Zm Y<|AN Y<|A8<|HN (by exact ⟨lo,(lo+hi)/2,V,⟨by omega,by omega,y,WH K hx (by unfold AV.lt2;omega)⟩,V,V⟩)
  all_goals
   refine Zg<|Zm Y<|Ya (n:=1) Y Y<|AN Y<|A8<|HN (by exact ⟨(lo+hi)/2+1,hi,V,⟨by omega,by omega,mP K hx (by unfold AV.lt2;omega),E⟩,V,V⟩)
 refine Az<|Zt<|Zt<|AU<|Zx<|B7 Y<|AM Y<|AO rfl results76 Y (by exact ⟨by rw [VQ A0 y (fun i r hi J=>E i r A0 J)],rfl⟩)
def Gq(rs:List AV)(t k:Int):AV×Bool:=match rs[EL rs t k]?with
 |some r=>if r.is t k then(r,true)else(AV.zero,false)
 |none=>(AV.zero,false)
theorem VR(rs:List AV)(t k:Int):EL rs t k<=rs.length:=by unfold EL;exact List.IsPrefix.length_le (List.takeWhile_prefix _)
theorem lV(hx:rs[EL rs t k]?=some x)(g:x.t=t)(h2:x.k=k):Gq rs t k=(x,true):=by unfold Gq;rw [hx];exact B2 ⟨g,h2⟩
theorem wB(hx:rs[EL rs t k]?=some x)(h:¬(x.t=t/\x.k=k)):Gq rs t k=(AV.zero,false):=by unfold Gq;rw [hx];exact Ax h
theorem rE(h:¬EL rs t k<rs.length):Gq rs t k=(AV.zero,false):=by unfold Gq;rw [RC A0]
theorem oO(sp:Nat)(q:C1)(cap:Nat)(p t k:Int)(rs:List AV)(M:List AR)(I:fw M (.slice q rs.length cap) rs)(hn:rs.length<=1000000)(hs:BP rs):BB prog 75 #[I5 sp,I4 t,I4 k] [[(sp,.cells #[.slice q rs.length cap,I4 p] 138 (0,0))],M] (.tuple #[.agg #[I4 (Gq rs t k).1.t,I4 (Gq rs t k).1.k,I4 (Gq rs t k).1.v.a,I4 (Gq rs t k).1.v.b,I4 (Gq rs t k).1.v.c],.bool (Gq rs t k).2]):=by
 have z:=id I;have W:=mL
 obtain ⟨p9,G,O,X,U⟩:=I;injection O with e91 e92 e93
 subst e91 e93;have Z:=VR rs t k
 refine Se func75 ntmps75 [0,1,2] ?_;intro u R;refine A2<|Ze (Al DS #[_,_,_,_,_])<|AE fun b1=>AF Y<|A2<|Sk 3 V<|Xr [_,_,_] Y call76 Y V (YO sp _ _ p t k rs M z hn hs)<|CT Y<|A2<|Sk 2 V<|Zp Y V<|Zh 0 MD V rfl Cl Y<|Zl DQ Y<|Zv (AJ B0 Y)<|Zv (Ak Y Y)<|Zm Y<|AZ (t:=20) Y V (fun y=>?_) (fun y=>?_);·
  obtain ⟨x,hx⟩:∃x,rs[EL rs t k]?=some x:=⟨_,Bk y⟩;obtain ⟨g,off,cur,T,zz,rfl,E,af,m⟩:=U _ x hx;refine Zf Y Y<|Yg (EY Y V)<|Yf 0 MD V rfl Cl Y<|Yl DQ Y<|Zf Y Y<|ER Y (A9 B0 AW Y Y A0) V rfl ?_;refine Yg (Aj (off:=0) F1 V rfl A4 Y)<|Mg Y (cs:=[(g,.cells cur T zz)]) (by simp [E]) (BZ A5 Y (IU (j:=0) m V)) V rfl ?_;refine Zf Y Y<|Yg (Bd Y Y)<|Sk 2 V ?_;refine AZ (t:=32) Y V (fun K=>?_) (fun K=>?_);focus
   refine Zf Y Y<|Yg (EY Y V)<|Yf 0 MD V rfl Cl Y<|Yl DQ Y<|Zf Y Y<|ER Y (A9 B0 AW Y Y A0) V rfl ?_;refine Yg (Aj (off:=1) F1 V rfl A4 Y)<|Mg Y (cs:=[(g,.cells cur T zz)]) (by simp [E]) (BZ A5 Y (IU (j:=1) m V)) V rfl ?_;refine Zf Y Y<|Yg (Bd Y Y)<|HR Y Y<|Z0<|Zn [0,6,8,43] ?_;refine Zx<|Ad Y (fun J=>?_) (fun J=>?_);refine B7 Y<|Zp Y rfl<|Zh 0 MD rfl rfl Cl Y<|Zl DQ Y<|Zm Y<|BN (A9 B0 AW Y Y A0)<|Cj (cs:=[(g,.cells cur T zz)]) (by simp [E]) (A7 (cs:=x.Ax3) C5 AW Y A0 m) rfl rfl<|Xe (Xw AW _)<|AM Y<|Zt<|Bo rfl results75 Y Wh (Ai C5 AW Wn (rfl)) Y (by exact ⟨by rw [lV hx K J];rfl,rfl⟩)
  rotate_left
  focus
   refine Sk 11 V<|Z0<|Zn [0,6,8,43] ?_;refine Zx<|DY Y ?_
  all_goals
   refine AB<|BT<|Zv (BK (vs:=[]) (cs:=#[_,_,_,_,_]) Y (AY (pl:=#[(0,1),(1,1),(2,3)]) DS F1 (fun _=>by kernel_rfl) V))<|Xe (Xw AW _)<|AM Y<|Bo V results75 Y Wh (Ai C5 AW Wn (V)) Y (by exact ⟨by(rw [wB hx A0];rfl),V⟩)
 refine Sk 23 V<|Z0<|Zn [0,6,8,43] ?_;refine Zx<|DY Y<|AB<|BT<|Zv (BK (vs:=[]) (cs:=#[_,_,_,_,_]) Y (AY (pl:=#[(0,1),(1,1),(2,3)]) DS F1 (fun _=>by kernel_rfl) V))<|Xe (Xw AW _)<|AM Y<|Bo V results75 Y Wh (Ai C5 AW Wn (V)) Y (by exact ⟨by(rw [rE y];rfl),V⟩)
def out(lo hi n:Int):Bool:=decide (n<lo)||decide (hi<n)
def Ip(cur:As)(o:Nat)(ns:List Int):Prop:=∀(i:Nat) (n:Int),ns[i]?=some n->cur[o+i]?=some (I4 n)
theorem mX(p:Int->Bool)(ls:List Int)(i:Nat)(x:Int)(h:ls[i]?=some x):(ls.take (i+1)).any p=((ls.take i).any p||p x):=by
 rw [OK,h];simp
theorem wQ(p:Int->Bool)(ls:List Int)(i:Nat)(x:Int)(h:ls[i]?=some x)(hx:p x=true):ls.any p=true:=by
 rw [me];exact ⟨x,Fm h,hx⟩
theorem xw(y m:Nat)(n lo hi:Int):BB prog 209 #[I4 n,I5 y,I5 m] [[(y,.cells #[I4 lo] 3 (0,0))],[(m,.cells #[I4 hi] 3 (0,0))]] (.bool (out lo hi n)):=by
 refine Se func209 ntmps209 [0,1,2] ?_;intro u R;refine A2<|AF Y<|B7 Y<|Zl A5 Y ?_;refine Zv (Dq Y Y)<|Zm Y<|AZ (t:=8) Y V (fun g=>?_) (fun g=>?_);focus
  refine Sk 4 V ?_
 rotate_left
 focus
  refine Zf Y Y<|Yl A5 Y ?_;refine Yg (EE Y Y)<|Zv (BC Y Y) ?_
 all_goals
  refine AM Y<|AO V results209 Y (by exact ⟨by simp [out,g],V⟩)
theorem eU(J I g off cap:Nat)(lo hi:Int)(cur:As)(T:An)(z:Nat×Nat)(ls:List Int)(K:Ip cur off ls)(hn:ls.length<=1073741824):
 CJ prog 246 #[.slice (some ⟨g,off,none⟩) ls.length cap,.func (.func 209) #[] #[I5 J,I5 I]] [[(J,.cells #[I4 lo] 3 (0,0))],[(I,.cells #[I4 hi] 3 (0,0))],[(g,.cells cur T z)]] (fun r H'=>∃k:Int,r=I4 k/\decide (0<=k)=ls.any (out lo hi)/\H'=[[(J,.cells #[I4 lo] 3 (0,0))],[(I,.cells #[I4 hi] 3 (0,0))],[(g,.cells cur T z)]]):=by
 refine Se func246 ntmps246 [0,1] ?_;intro u R;refine A2<|AF Y<|C0 Y<|Zv (AJ HF Y)<|Zm Y<|A6<|AQ<|Zb [8,0,1,7] ?_;refine Av (e0:=[(8,_)]) (fun m e H=>∃(i:Nat),m=ls.length -i/\(i<=ls.length/\(ls.take i).any (out lo hi)=false)/\e=[(8,I4 (i:Int))]/\H=[]) (by exact ⟨0,V,⟨CD _,V⟩,V,V⟩) Wp ?_;rintro _ _ _ ⟨i,rfl,⟨O,y⟩,rfl,rfl⟩;refine A2<|Zv (Ak Y Y)<|A6<|Zq<|Ad Y (fun G=>?_) (fun G=>?_);·
  refine B3<|Zq<|AQ<|B7 Y<|AF Y<|Zq ?_;obtain ⟨x,hx⟩:∃x,ls[i]?=some x:=⟨_,Bk G⟩;refine Zg<|Sk 3 V ?_;refine BN (BO HF A4 Y Y A0)<|Zl A5 Y (hv:=by exact K i x hx)<|Xr [_] Y call209 Y V (xw J I x lo hi)<|A6<|Af Y (fun E=>?_) (fun E=>?_);·
   refine B7 Y<|AM Y<|AX<|Zt<|Zt<|AX<|Zt<|AO rfl results246 Y (by exact ⟨(i:Int),rfl,by rw [wQ _ ls i x hx E];exact Cp A0,rfl⟩)
  refine AB<|A8<|Zx<|GP Y Y Y<|DH (e:=[(8,_)]) (h:=by exact ⟨i+1,rfl,⟨by omega,by rw [mX _ ls i x hx,y];exact E⟩,rfl,rfl⟩)
 have M:i=ls.length:=by omega
 subst M;rw [HJ]at y;refine Az<|Zt<|Zt<|AU<|BT<|AM Y<|AO rfl results246 Y (by exact ⟨-1,rfl,by rw [y];rfl,rfl⟩)
theorem UU(E y g off cap:Nat)(lo hi:Int)(cur:As)(T:An)(z:Nat×Nat)(ls:List Int)(m:Ip cur off ls)(hn:ls.length<=1073741824):
 BB prog 208 #[.slice (some ⟨g,off,none⟩) ls.length cap,.func (.func 209) #[] #[I5 E,I5 y]] [[(E,.cells #[I4 lo] 3 (0,0))],[(y,.cells #[I4 hi] 3 (0,0))],[(g,.cells cur T z)]] (.bool (ls.any (out lo hi))):=by
 refine Se func208 ntmps208 [0,1] ?_;intro u R;refine A2<|AF Y<|A2<|Sk 2 V<|Zc [_,_] Y call246 Y V (eU E y g off cap lo hi cur T z ls m hn) ?_;rintro _ _ ⟨_,⟨k,rfl,G,rfl⟩,rfl⟩;refine Zv (Fa Y Y)<|AM Y<|AO rfl results208 Y (by exact ⟨by rw [<-G],rfl⟩)
theorem Us(g off cap:Nat)(lo hi:Int)(cur:As)(T:An)(z:Nat×Nat)(ls:List Int)(m:Ip cur off ls)(hn:ls.length<=1073741824):
 BB prog 181 #[I4 lo,I4 hi,.slice (some ⟨g,off,none⟩) ls.length cap] [[(g,.cells cur T z)]] (.bool (!(ls.any (out lo hi)))):=by
 refine Se func181 ntmps181 [0,1,2] ?_;intro u R;refine A2<|Ze (Bx #[_])<|AE fun y=>Ze (Bx #[_])<|AE fun E=>AF Y<|B7 Y<|Zv (CV (vs:=[]) (us:=[_,_]) Y Y)<|Xr [_,_] Y call208 Y V (UU _ _ g off cap lo hi cur T z ls m hn)<|Zv (CR Y)<|AM Y<|AO V results181 Y (by exact ⟨V,V⟩)
def Er(c:Chg)(th:Bool)(v:V3):AV:=if th then⟨c.t,c.k,v⟩else AV.zero
variable{v:V3}
theorem rC{g:Bool}(h:g=true):Er c g v=⟨c.t,c.k,v⟩:=B2 h
theorem yY{g:Bool}(h:g=false):Er c g v=AV.zero:=Ax (by rw [h];decide)
theorem iI(lo hi n:Int):(!(([n]:List Int).any (out lo hi)))=decide (lo<=n/\n<=hi):=by
 simp only [kf,kl,gR,out];by_cases g:n<lo<;>by_cases h2:hi<n<;>simp [g,h2]<;>omega
theorem yA(v:V3):(!(([v.a,v.b,v.c]:List Int).any (out (-1000000000) 1000000000)))=decide v.ok:=by
 have h:∀n,out (-1000000000) 1000000000 n=!decide (inV n):=by
  intro n;have:=iI (-1000000000) 1000000000 n
  simp only [kf,kl,gR]at this;rw [<-Bool.not_not (out _ _ n),this];rfl
 simp only [kf,kl,gR,h,V3.ok];by_cases g:inV v.a<;>by_cases h2:inV v.b<;>by_cases m:inV v.c<;>simp [g,h2,m]
theorem pC{n:Int}(h:cur[o]?=some (I4 n)):Ip cur o [n]:=by
 intro i x hx;rcases i with _|i
 · injection hx with hx;rw [<-hx];exact h
 · cases hx
theorem pB(h0:cur[o]?=some (I4 v.a))(g:cur[o+1]?=some (I4 v.b))(h2:cur[o+2]?=some (I4 v.c)):Ip cur o [v.a,v.b,v.c]:=by
 intro i x hx;rcases i with _|_|_|i
 · injection hx with hx;rw [<-hx];exact h0
 · injection hx with hx;rw [<-hx];exact g
 · injection hx with hx;rw [<-hx];exact h2
 · cases hx
theorem LZ(g off cap:Nat)(lo hi:Int)(cur:As)(T:An)(z:Nat×Nat)(n:Int)(h:cur[off]?=some (I4 n)):
 BB prog 181 #[I4 lo,I4 hi,.slice (some ⟨g,off,none⟩) 1 cap] [[(g,.cells cur T z)]] (.bool (decide (lo<=n/\n<=hi))):=by
 rw [<-iI];exact Us g off cap lo hi cur T z [n] (pC h) C4
theorem bS(g off cap:Nat)(cur:As)(T:An)(z:Nat×Nat)(v:V3)(h:Ip cur off [v.a,v.b,v.c]):
 BB prog 181 #[I4 (-1000000000),I4 1000000000,.slice (some ⟨g,off,none⟩) 3 cap] [[(g,.cells cur T z)]] (.bool (decide v.ok)):=by
 rw [<-yA];exact Us g off cap _ _ cur T z [v.a,v.b,v.c] h C4
theorem WZ(c:Chg)(m:Bool)(v:V3):BB prog 140 #[.agg c.Ax2,.bool m,.agg #[I4 v.a,I4 v.b,I4 v.c]] [] (.tuple #[.agg #[I4 (Er c m v).t,I4 (Er c m v).k,I4 (Er c m v).v.a,I4 (Er c m v).v.b,I4 (Er c m v).v.c],.bool m]):=by
 refine Se func140 ntmps140 [0,1,2] ?_;intro u R;refine A2<|Ze (Bx #[_,_,_,_,_,_,_,_,_,_])<|AE fun y=>Ze (Bx #[_,_,_])<|AE fun z=>Ze (Al DS #[_,_,_,_,_])<|AE fun E=>AF Y<|C0 Y<|Zv (CR Y)<|A6<|Af Y (fun g=>?_) (fun g=>?_);·
  refine A2<|Zv (BK (vs:=[]) (cs:=#[_,_,_,_,_]) Y (AY (pl:=#[(0,1),(1,1),(2,3)]) DS F1 (fun _=>by kernel_rfl) V))<|Xe (Xw AW _) ?_;refine AM Y<|Zt<|Bo V results140 Y Wh (Ai C5 AW Wn (V)) Y (by simp only [eL,S2,da]at g;exact ⟨by(rw [yY g,g];rfl),V⟩)
 refine AB<|BT<|Zh 0 CM V rfl A4 Y<|Zl A5 Y ?_;refine Zh 1 CM V rfl A4 Y<|Zl A5 Y ?_;refine Zo Wh (Pa #[_,_,_] Hv Dg Y) ?_;refine Zv (BK (vs:=[(0,_),(1,_),(2,_)]) (cs:=#[_,_,_,_,_]) Y (AY (pl:=#[(0,1),(1,1),(2,3)]) DS F1 (fun _=>by kernel_rfl) rfl))<|Xe (Ao AW Y Y (by(simp [Value.oneCell',Value.cells];done)) Wu B5 DO Wn (by exact Aw _)) ?_;refine AN Y<|Zn [6,7] ?_;refine Zx<|AC<|Bo V results140 Y Wh (Ai C5 AW Wn (V)) Y (by simp only [eL,S2,da]at g;exact ⟨by(rw [rC g,g];rfl),V⟩)
theorem Rz(r:AV):BB prog 165 #[.agg r.Ax3] [] (.bool (decide r.ok)):=by
 refine Se func165 ntmps165 [0] ?_;intro u R;refine A2<|Ze (Bx #[_,_,_,_,_])<|AE fun E=>AF Y<|A2<|Zh 0 F1 V rfl A4 Y<|Zl A5 Y<|Ze (Ah (vs:=[_]) (cs:=[_]) HF A4 K1 Y V rfl V rfl V)<|AE fun G=>Xr [_,_,_] Y call181 Y V (LZ _ 0 1 _ _ _ _ _ r.t V)<|Zm Y<|AZ (t:=7) Y V (fun g=>?_) (fun g=>?_);·
  refine Yf 1 F1 V rfl A4 Y<|Yl A5 Y<|Ze (Ah (vs:=[_]) (cs:=[_]) HF A4 K1 Y V rfl V rfl V)<|AE fun I=>Xr [_,_,_] Y call181 Y V (LZ _ 0 1 _ _ _ _ _ r.k V)<|Sk 2 V ?_;refine AZ (t:=13) Y V (fun m=>?_) (fun m=>?_);focus
   refine Yf 2 F1 V rfl Dg Y<|Yg (Fv HS A4 Y)<|Xr [_,_,_] Y call181 Y V (bS _ 2 3 _ _ _ r.v (pB V rfl V))<|Zv (Ay Y Y) ?_
  rotate_left
  focus
   refine Sk 4 V ?_
  all_goals
   refine AN Y<|Zn [2] ?_;refine Zx<|AC<|AO V results165 Y (by exact ⟨by(simp_all [AV.ok];done),V⟩)
 refine Sk 10 V<|AN Y<|Zn [2] ?_;refine Zx<|AC<|AO rfl results165 Y (by exact ⟨by rw [CC (fun h9:r.ok=>by have y:=h9.2.1;have z:=h9.2.2;omega)],rfl⟩)
theorem Y3(c:Chg)(g:Bool)(v:V3):BB prog 210 #[.agg c.Ax2,.bool g,.agg #[I4 v.a,I4 v.b,I4 v.c]] [] (.bool (if g then decide (Er c g v).ok else decide (v=V3.zero))):=by
 refine Se func210 ntmps210 [0,1,2] ?_;intro u R;refine A2<|Ze (Bx #[_,_,_,_,_,_,_,_,_,_])<|AE fun G=>Ze (Bx #[_,_,_])<|AE fun I=>AF Y<|A2<|Zo Wh (Pa #[_,_,_,_,_,_,_,_,_,_] G1 D2 Y)<|Zm Y<|Zo Wh (Pa #[_,_,_] Hv Dg Y)<|Xr [_,_,_] Y call140 Y V (WZ c g v)<|Sk 3 V<|Ze (Al DS #[_,_,_,_,_])<|AE fun J=>Xe (Xw AW _)<|AN Y<|Zn [1,5,7] ?_;refine BT<|Sk 2 V ?_;refine Ae (t:=17) Y V (fun m=>?_) (fun m=>?_);focus
  refine DK Y Wh (Pa #[_,_,_,_,_] C5 AW Y) V rfl<|Xr [_] Y call165 Y V (Rz _)<|Sk 2 V ?_;refine AZ (t:=21) Y V (fun y=>?_) (fun y=>?_);focus
   refine Sk 8 V ?_
  rotate_left
  focus
   refine Zf Y Y<|Yg (CR Y)<|Zf Y Y<|Ae (t:=24) Y V (fun z=>?_) (fun z=>?_);focus
    refine DK Y Wh (Pa #[_,_,_] Hv Dg Y) V rfl<|Yg (BK (vs:=[]) (cs:=#[_,_,_]) Y (DN cL HS A4 V)) ?_;refine Yg (KV AG HS Ge A5 A4 Y Y) ?_;refine Sk 2 V ?_
   rotate_left
   focus
    refine Sk 5 V ?_
 rotate_left 3
 focus
  refine Sk 5 V<|Yg (CR Y)<|Zf Y Y<|Ae (t:=24) Y V (fun E=>?_) (fun E=>?_);focus
   refine DK Y Wh (Pa #[_,_,_] Hv Dg Y) V rfl<|Yg (BK (vs:=[]) (cs:=#[_,_,_]) Y (DN cL HS A4 V)) ?_;refine Yg (KV AG HS Ge A5 A4 Y Y) ?_;refine Sk 2 V ?_
  rotate_left
  focus
   refine Sk 5 V ?_
 all_goals
  refine AN Y<|Zn [6] ?_;refine Zx<|AC<|AO V results210 Y (by exact ⟨by simp_all,V⟩)
end Go.Proofs.YtljkoipiekbijaaGreatDoor
