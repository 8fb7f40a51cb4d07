/-
  DERIVED: THE SHELF's CONTRACTS AT THIS DUMP, IN PLAIN WORDS (tools/lay-plain.mjs out of 'TryzShelf.lean', which tools/lay-shelf.mjs wrote): THE SAME DECLARATIONS UNDER THE SAME NAMES: 'import', 'namespace', 'open', 'def', 'theorem' AND NOTHING ELSE: no command of the shelf's: FOR A HAND-IN. Each laying: the table of numbers ('.._ren') and one theorem, a field a fact of the dump's own or the kernel's comparison; each contract: ONE APPLICATION.
-/
import Derived.Shelf.Strings.OnBuilder
import Derived.Shelf.Small.Wraps
import Derived.Shelf.Strings.BuilderCap
import Derived.Shelf.Slices.SearchI
import Derived.Shelf.Slices.Cells
import Derived.Shelf.Slices.Empties2
import Derived.Test.YtlkdhannldcfbaaGreatDoorDg4
set_option linter.unusedVariables false
set_option linter.unusedSimpArgs false
namespace Go.Proofs
open Go.Shelf
def Tryz.lays156_ren:Go.Shelf.Ren:=⟨fun|156=>186|165=>219|166=>220|169=>221|240=>235|241=>236|276=>248|277=>249|n=>n,fun|31=>56|9=>9|3=>3|4=>4|0=>0|20=>20|72=>301|76=>303|70=>299|37=>76|75=>222|127=>320|164=>329|5=>5|80=>243|n=>n,fun|n=>n⟩
theorem Tryz.lays156:Go.Proofs.Lays.n156 prog Tryz.lays156_ren:={
 mixed:=by kernel_rfl
 f156:=func186.trans (congrArg some AG)
 f165:=func219.trans (congrArg some AG)
 f166:=func220.trans (congrArg some AG)
 f169:=func221.trans (congrArg some AG)
 f240:=func235.trans (congrArg some AG)
 f241:=func236.trans (congrArg some AG)
 f276:=func248.trans (congrArg some AG)
 f277:=func249.trans (congrArg some AG)
 t0:=underlying0
 a0:=isAgg0
 z0:=sizeOf0
 v0:=zeroValue0
 t3:=F0
 a3:=AE
 z3:=A5
 v3:=HL
 t4:=On
 a4:=DH
 z4:=Cl
 v4:=ar
 t9:=HE
 a9:=Fm
 z9:=CH
 v9:=HR
 t20:=underlying20
 a20:=isAgg20
 z20:=sizeOf20
 v20:=zeroValue20
 t31:=Bk
 a31:=I0
 z31:=HM
 v31:=cY
 t37:=DS
 a37:=isAgg76
 z37:=sizeOf76
 v37:=zeroValue76
 t70:=underlying299
 a70:=isAgg299
 z70:=sizeOf299
 v70:=zeroValue299
 t72:=underlying301
 a72:=isAgg301
 z72:=sizeOf301
 v72:=zeroValue301
 t75:=hQ
 a75:=isAgg222
 z75:=sizeOf222
 v75:=zeroValue222
 t76:=underlying303
 a76:=isAgg303
 z76:=sizeOf303
 v76:=zeroValue303
 t127:=underlying320
 a127:=isAgg320
 z127:=sizeOf320
 v127:=zeroValue320
 t164:=underlying329
 a164:=isAgg329
 z164:=sizeOf329
 v164:=zeroValue329}
theorem Tryz.Builder_Extra_156:Builder.Extra prog Tryz.lays156_ren:={
 sizeBuilder:=by kernel_rfl
 liesBuilder:=by kernel_rfl
 t5:=HG
 a5:=S6
 z5:=HN
 v5:=Mz
 infoByte:=by kernel_rfl
 cellsByte:=by kernel_rfl
 sizeByte:=by kernel_rfl
 neB5:=by decide}
open Go.RowKit in
theorem Tryz.strings_Join(G o c:Nat)(xs:List ByteArray)(m:ByteArray)(w:A6)(g:∀(j:Nat) x,xs[j]?=some x->w.cell? ⟨G,o+j,none⟩=some (.string x))(I:G<w.heap.size)(J:xs.length<=140737488355328)(y:xs.length<=c)(E:(Lib.join (xs.map (·.data.toList)) m.data.toList).length<=140737488355328):
 Calls prog 186 #[.slice (some ⟨G,o,none⟩) xs.length c,.string m] w fun e K=>e= .returned (.string ⟨(Lib.join (xs.map (·.data.toList)) m.data.toList).toArray⟩)/\Below w.heap.size w K:=Any.strings_Join Tryz.lays156 Tryz.Builder_Extra_156 G o c xs m w g I J y E
def Tryz.lays125_ren:Go.Shelf.Ren:=⟨fun|125=>174|128=>193|129=>194|n=>n,fun|46=>168|3=>3|51=>164|53=>203|4=>4|5=>5|9=>9|n=>n,fun|n=>n⟩
theorem Tryz.lays125:Go.Proofs.Lays.n125 prog Tryz.lays125_ren:={
 mixed:=by kernel_rfl
 f125:=func174.trans (congrArg some AG)
 f128:=func193.trans (congrArg some AG)
 f129:=func194.trans (congrArg some AG)
 t3:=F0
 a3:=AE
 z3:=A5
 v3:=HL
 t4:=On
 a4:=DH
 z4:=Cl
 v4:=ar
 t5:=HG
 a5:=S6
 z5:=HN
 v5:=Mz
 t9:=HE
 a9:=Fm
 z9:=CH
 v9:=HR
 t46:=hG
 a46:=isAgg168
 z46:=sizeOf168
 v46:=zeroValue168
 t51:=MT
 a51:=EV
 z51:=CI
 v51:=Wf
 t53:=UP
 a53:=isAgg203
 z53:=sizeOf203
 v53:=zeroValue203}
theorem Tryz.bits_Len(x:Int)(w:A6)(h0:0<=x)(g:x<=18446744073709551615):
 Calls prog 174 #[.int .u64 x] w fun e m=>e= .returned (I4 (Lib.bitLen x.toNat))/\m=w:=Any.bits_Len Tryz.lays125 x w h0 g
def Tryz.lays122_ren:Go.Shelf.Ren:=⟨fun|122=>150|215=>178|n=>n,fun|3=>3|4=>4|n=>n,fun|n=>n⟩
theorem Tryz.lays122:Go.Proofs.Lays.n122 prog Tryz.lays122_ren:={
 mixed:=by kernel_rfl
 f122:=func150.trans (congrArg some AG)
 f215:=func178.trans (congrArg some AG)
 t3:=F0
 a3:=AE
 z3:=A5
 v3:=HL
 t4:=On
 a4:=DH
 z4:=Cl
 v4:=ar}
open Go.RowKit in
theorem Tryz.cmp_Compare_int(x y:Int)(w:A6):
 Calls prog 150 #[I4 x,I4 y] w fun e g=>e= .returned (I4 (Lib.compareInt x y))/\g=w:=Any.cmp_Compare_int Tryz.lays122 x y w
def Tryz.laysNm217_ren:Go.Shelf.Ren:=⟨fun|17=>160|n=>n,fun|24=>56|9=>9|3=>3|4=>4|0=>0|n=>n,fun|n=>n⟩
theorem Tryz.laysNm217:Go.Proofs.Lays2.n17 prog Tryz.laysNm217_ren:={
 mixed:=by kernel_rfl
 f17:=func160.trans (congrArg some AG)
 t0:=underlying0
 a0:=isAgg0
 z0:=sizeOf0
 v0:=zeroValue0
 t3:=F0
 a3:=AE
 z3:=A5
 v3:=HL
 t4:=On
 a4:=DH
 z4:=Cl
 v4:=ar
 t9:=HE
 a9:=Fm
 z9:=CH
 v9:=HR
 t24:=Bk
 a24:=I0
 z24:=HM
 v24:=cY}
open Go.RowKit Go.Lib Go.Sort in
theorem Tryz.slices_Reverse_string(g off cap:Nat)(zs:List (List UInt8))(w:A6)(y:Holds encStr w g off zs.toArray)(m:zs.length<=9223372036854775807):
 Calls prog 160 #[.slice (some ⟨g,off,none⟩) zs.length cap] w fun e E=>e= .returned (.tuple #[])/\∃n,E=putRow encStr (Sort.ahead w n) g off zs.reverse.toArray:=Any.slices_Reverse_string Tryz.laysNm217 g off cap zs w y m
open Go.RowKit Go.Lib Go.Sort in
theorem Tryz.slices_Reverse_string_empty(a:B7)(cap:Nat)(w:A6):
 Calls prog 160 #[.slice a 0 cap] w fun e g=>e= .returned (.tuple #[])/\g=w:=Any.slices_Reverse_string_empty Tryz.laysNm217 a cap w
end Go.Proofs
namespace Go.Proofs.YtlkdhannldcfbaaGreatDoor
open Go.Proofs.Tryz
open Go Go.RowKit Gw
set_option maxRecDepth 100000
attribute [local irreducible] Gw.At Gw.Nx Gw.Ops
def Ci(l:List UInt8):A4:= .string (str l)
theorem CZ(a b:List UInt8):str a++str b=str (a++b):=by
 apply ByteArray.ext;simp [str]
theorem BO(a:List UInt8):(str a).size=a.length:=by simp [str,ByteArray.size]
theorem Io(a:List UInt8):(str a).data.toList=a:=by simp [str]
theorem ZG(xs:List (List UInt8)):Lib.join xs []=xs.flatten:=by
 unfold Lib.join;induction xs with
 |nil=>rfl
 |cons x r ih=>cases r with
  |nil=>simp
  |cons y r=>rw [List.intercalate_cons_cons];rw [ih];simp
variable{o:Nat}
theorem vQ{w:A6}{b:Nat}{c:AN}{T:AM}{z:Nat×Nat}{cs:List A4}(g:w.heap[b]?=some (.cells c T z))(h:CG c o cs)(j:Nat)(v:A4)(m:cs[j]?=some v):w.cell? ⟨b,o+j,none⟩=some v:=by
 have:=JA g h j v m;rcases Lz j with rfl|h0
 · simpa [Addr.add]using this
 · simpa [Addr.add,Nat.ne_of_gt h0]using this
theorem kM(g o cap:Nat)(cs:AN)(T:AM)(z:Nat×Nat)(xs:List (List UInt8))(hc:CG cs o (xs.map Ci))(J:xs.length<=140737488355328)(m:xs.length<=cap)(E:xs.flatten.length<=140737488355328):
 BC prog 186 #[.slice (some ⟨g,o,none⟩) xs.length cap,.string (str [])] [[(g,.cells cs T z)]] (.string (str xs.flatten)):=
 Ny (Rl:=fun v=>v= .string (str xs.flatten)) (fun w K=>by
  have G:=K (g,.cells cs T z) B3;have h:=Tryz.strings_Join g o cap (xs.map str) (str []) w (fun j x hx=>by
   refine vQ G hc j _ ?_;rw [FG]at hx⊢;cases h1:xs[j]?with
   |none=>rw [h1]at hx;cases hx
   |some y=>rw [h1]at hx;cases hx;rfl) (by
    rcases DP g w.heap.size with h1|h1
    · exact h1
    · rw [I3 h1]at G;cases G) (by simpa using J) (by simpa using m) (by
    rw [gR];have:(xs.map ((fun s:ByteArray=>s.data.toList)∘str))=xs:=by simp [str,fc]
    rw [this,Io,ZG];exact E)
  rw [zu]at h;refine h.mono ?_;rintro e M ⟨rfl,I⟩;refine ⟨_,V,?_,I⟩;rw [gR];have:(xs.map ((fun s:ByteArray=>s.data.toList)∘str))=xs:=by simp [str,fc]
  rw [this,Io,ZG];rfl) (fun v hv=>⟨hv,rfl⟩)
def Jt(head rec:List UInt8):List UInt8:=sha (2::head++rec)
theorem gJ(l:List UInt8)(y:l.length<=140737488355000)(g:AM)(m:Nat×Nat):BC prog 135 #[.string (str l)] [[(1,.cells (Di.map CB).toArray g m)]] (.string (str (sha l))):=by
 have:=mX (str l) (by rw [BO];exact y) g m;rw [Io]at this;exact this
theorem Jp(y o cap G:Nat)(cs:AN)(T K:AM)(z O:Nat×Nat)(xs:List (List UInt8))(m:List UInt8)(hc:CG cs o (xs.map Ci))(M:xs.length<=140737488355328)(g:xs.length<=cap)(I:m.length+xs.flatten.length<=140737488355000)(E:AM)(J:Nat×Nat):
 BC prog 185 #[.slice (some ⟨y,o,none⟩) xs.length cap,I5 G] [[(y,.cells cs T z)],[(G,.cells #[Ci m] K O)],[(1,.cells (Di.map CB).toArray E J)]] (.string (str (sha (m++xs.flatten)))):=by
 refine Jf func185 V ntmps185 V ?_;intro u R;unfold Ci;refine Zb [0,1] ?_;refine A1<|A3 Y<|Zq<|BJ (n:=6) (0::0::2::7::15::31::[]) 20 AG AG V<|B2 0 V Fm Y<|A2 1 V (AJ Y)<|Zz (l:=[2])<|BE [true] [(0,(_,_))] V rfl (Zu [_,_] Y call186 Y V (kM y o cap cs T z xs hc M g A0)) ?_ (fun _ _ h=>h.elim) Ay;rintro _ _ ⟨rfl,rfl⟩;refine BT<|A2 3 rfl (CY Y Y (by rw [BO,BO];omega))<|Yw 4 31 rfl (Zu [_] Y call135 Y rfl ((CZ m xs.flatten)▸gJ (m++xs.flatten) (by rw [zq];omega) E J))<|C3<|A2 5 V (BF Y)<|Ao<|Zx<|AA<|AC V results185 Y (by exact ⟨V,V⟩)
theorem Mm(m:ByteArray):Bz prog 164 #[.string m] [] (fun r H'=>∃b,r= .func (.func 185) #[] #[I5 b]/\H'=[[(b,.cells #[.string m] 9 (0,0))]]):=by
 refine Se func164 ntmps164 [0] ?_;intro u R;refine A1<|Ze (Bx #[_])<|AF fun g=>A3 Y<|A1<|Zv (Bt (vs:=[]) (us:=[_]) Y Y)<|A3 Y<|AA<|AC V results164 Y (by exact ⟨_,V,V⟩)
theorem eu(h r:List UInt8)(g:h.length+r.length<=140737488354999)(m:AM)(G:Nat×Nat):
 BC prog 130 #[.string (str h),.string (str r)] [[(1,.cells (Di.map CB).toArray m G)]] (.string (str (Jt h r))):=by
 refine Se func130 ntmps130 [0,1] ?_;intro u R;refine A1<|A3 Y<|A1<|Zc [_] Y call164 Y V (Mm _) ?_;rintro _ _ ⟨_,⟨E,rfl,rfl⟩,rfl⟩;refine Zm Y<|Zm Y<|Ze (Af (vs:=[_,_]) (cs:=[_,_]) Bk CH HR Y V rfl V rfl V)<|AF fun y=>Xr [_] Y call185 Y V (Jp y 0 2 E #[Ci h,Ci r] _ _ _ _ [h,r] [2] V B3 B3 Lo _ _)<|A3 Y<|AA<|AC V results130 Y (by exact ⟨by simp [Jt],V⟩)
def Mt(z:Nat):List (Nat×Bool):=if h:z<128 then [(z,true)]else(z%128,false)::Mt (z/128)
termination_by z
decreasing_by omega
theorem Gp(z:Nat):Mt z=(z%128,decide (z<128))::(if z<128 then []else Mt (z/128)):=by
 rw [Mt];by_cases h:z<128;· simp [h,WD h]
 · simp [h]
theorem vE(z:Nat):∀x∈Mt z,x.1<128:=by
 induction z using Nat.strongRecOn with
 |_ z ih=>
  intro x hx;rw [Gp]at hx;rcases E4.1 hx with rfl|hx
  · exact eS _ AK
  · by_cases h:z<128
    · rw [B0 h]at hx;cases hx
    · rw [As h]at hx;exact ih (z/128) A0 x hx
theorem qN(z k:Nat)(h:z<128^(k+1)):(Mt z).length<=k+1:=by
 induction k generalizing z with
 |zero=>rw [Gp,B0 (by simpa using h)];simp
 |succ k ih=>
  rw [Gp];by_cases g:z<128;· rw [B0 g];simp
  · rw [As g,D3]
    have:z/128<128^(k+1):=by
     rw [Wc]at h;exact iz (by rw [gS];exact h)
    have:=ih _ this;omega
def gb(x:Nat×Bool):UInt8:=UInt8.ofNat (if x.2 then x.1 else x.1+128)
theorem dn(x:Nat×Bool)(h:x.1<128):u8v (gb x)= .int .u8 ((if x.2 then x.1 else x.1+128:Nat):Int):=by
 unfold u8v gb;rw [fY,WD (by split<;>omega)]
def zz(n:Int):Nat:=(if n<0 then-(2*n) -1 else 2*n).toNat
def JS(n:Int):List UInt8:=(Mt (zz n)).map gb
theorem lY(n:Int)(g:-4611686018427387903<=n)(h2:n<=4611686018427387903):zz n<9223372036854775808:=by unfold zz;split<;>omega
theorem aK(n:Int):0<(JS n).length:=by unfold JS;rw [Gp];simp
theorem I8(n:Int)(g:-4611686018427387903<=n)(h2:n<=4611686018427387903):(JS n).length<=9:=by
 unfold JS;rw [zu];exact qN (zz n) 8 (by have:=lY n g h2;omega)
theorem xm(y:Nat)(h:y<18446744073709551616):bits .and .u64 (y:Int) 127=((y%128:Nat):Int):=by
 have:=u64_and_nat y 127 h AK;rw [nat_mask7]at this;exact this
theorem yO(g:Nat)(h:g<128):bits .or .u8 (g:Int) 128=((g+128:Nat):Int):=by
 have:=u8_or_nat g 128 A0 AK;rw [Nat.or_comm,nat_join 7 128 g AK h,Nat.add_comm]at this;exact this
theorem lg(a:Nat)(h:a<18446744073709551616):a^^^18446744073709551615=18446744073709551615 -a:=by
 have g:BitVec.ofNat 64 a^^^BitVec.allOnes 64= ~~~BitVec.ofNat 64 a:=BitVec.xor_allOnes;have h2:=congrArg BitVec.toNat g
 rw [BitVec.toNat_xor,BitVec.toNat_not,BitVec.toNat_ofNat,WD h]at h2;exact h2
theorem wN(n:Int)(G:-4611686018427387903<=n)(h2:n<=4611686018427387903):bits .xor .u64 (IntKind.u64.wrap (IntKind.u64.wrap n*2^(1:Int).toNat)) (IntKind.u64.wrap (n/2^(63:Int).toNat))=(zz n:Int):=by
 rw [IntKind.wrap_u64,IntKind.wrap_u64,IntKind.wrap_u64];rw [show(2:Int)^(1:Int).toNat=2 from rfl,show(2:Int)^(63:Int).toNat=9223372036854775808 from rfl];by_cases h:n<0
 · obtain ⟨m,E⟩:∃m:Nat,n=-(m:Int):=⟨n.natAbs,by omega⟩
   have g:n%18446744073709551616*2%18446744073709551616=((18446744073709551616 -2*m:Nat):Int):=by omega
   have y:n/9223372036854775808%18446744073709551616=((18446744073709551615:Nat):Int):=by omega
   rw [g,y,u64_xor_nat _ _ A0 A0,lg _ A0];unfold zz;rw [B0 h];omega
 · obtain ⟨m,E⟩:∃m:Nat,n=(m:Int):=⟨n.natAbs,by omega⟩
   have g:n%18446744073709551616*2%18446744073709551616=((2*m:Nat):Int):=by omega
   have y:n/9223372036854775808%18446744073709551616=((0:Nat):Int):=by omega
   rw [g,y,u64_xor_nat _ _ A0 A0,Nat.xor_zero];unfold zz;rw [As h];omega
theorem Bl{P:Program}{cx:Cx}{c:Code}{Q:Exit->Act->A6->Prop}{env:Env}{H:Hp}(h:At P cx c Q env ([]::H)):At P cx c Q env H:=ik (H':=[]::H) rfl h
theorem QV{α:Type}{l pre g:List α}{x:α}(h:l=pre++x::g):x∈l:=by rw [h];simp
theorem ZO(I z:Nat)(hz:z<18446744073709551616):
 UA prog 170 #[I5 I] [[(I,.cells #[.int .u64 (z:Int)] 203 (0,0))]] (fun x=>#[.int .u8 (x.1:Int),.bool x.2]) (Mt z):=by
 intro l J hy s K;refine Se func170 ntmps170 [0,1] ?_;intro u R;refine AX<|Zb [0,1] ?_;refine BB (e0:=[]) (fun m e H=>∃(pre:List (Nat×Bool)) (y:Nat) (s:List AU),m=0+y/\(Mt z=pre++Mt y/\y<18446744073709551616/\J pre s)/\e=[]/\H=[[(I,.cells #[.int .u64 (y:Int)] 203 (0,0))],s]) (by exact ⟨[],z,s,V,⟨V,hz,K⟩,V,V⟩) Wp ?_;rintro _ _ _ ⟨pre,y,s,rfl,⟨g,G,K⟩,rfl,rfl⟩;refine AX<|A1<|Zl isAgg203 Y ?_;refine Zv (Au (n:=128) Y Y)<|A3 Y<|Zq<|Zq ?_;have O:=hy pre (y%128,decide (y<128)) (if y<128 then []else Mt (y/128)) s (by rw [g,<-Gp]) K
 refine Zg<|Zm Y<|Zl isAgg203 Y ?_;refine KY (oM (m:=(y:Int)) (n:=127) Y Y (xm y G)) V rfl ?_;refine Ap (KX UP HG Y A0)<|Zm Y<|Ze (Oa (vs:=[_,_]) Y Y (O) Wp) ?_;rintro _ _ ⟨_,⟨W,rfl,rfl,E⟩,rfl⟩;refine Zv (Cj Y)<|Zm Y<|Ah (t:=13) Y V (fun U=>by cases U)<|fun U=>Zf Y Y<|Zv (AL Y Y)<|Z0<|Zn [0,1,15] ?_;refine Zx<|Ak Y (fun M=>?_) (fun M=>?_);·
  refine AA<|Zt<|Ab<|Zt<|Ab ?_;refine GX V results170 (by
   exact ⟨W,V,by
    have e:Mt z=pre++[(y%128,decide (y<128))]:=by rw [g,Gp y,B0 M]
    rw [e];exact E⟩)
 refine AB<|Zx<|Zg<|Zl isAgg203 Y ?_;refine Ap (QO (n:=7) Y Y (by first|decide|(simp [IntKind.bits];done)|(simp [IntKind.bits];omega)))<|Xe (Zs sizeOf203 Y Y rfl) ?_;refine Z0<|A8<|Zn [0,1] ?_;refine AZ (e':=[]) (by exact ⟨pre++[(y%128,decide (y<128))],y/2^7,W,rfl,⟨by rw [g,Gp y,As M];simp,by omega,E⟩,rfl,rfl⟩)
theorem ZN(z:Int):Bz prog 137 #[.int .u64 z] [] (fun r H'=>∃b,r= .func (.func 170) #[] #[I5 b]/\H'=[[(b,.cells #[.int .u64 z] 203 (0,0))]]):=by
 refine Se func137 ntmps137 [0] ?_;intro u R;refine A1<|Ze (Bx #[_])<|AF fun g=>A3 Y<|A1<|Zv (Bt (vs:=[]) (us:=[_]) Y Y)<|A3 Y<|AA<|AC V results137 Y (by exact ⟨_,V,V⟩)
theorem Me(n:Int)(W:-4611686018427387903<=n)(h2:n<=4611686018427387903):BC prog 71 #[I4 n] [] (.tuple #[.string (str (JS n)),I4 0]):=by
 have gm:=mL;have gq:=lY n W h2
 have J:=I8 n W h2;unfold JS at J;rw [zu]at J;refine GA func71 V ntmps71 V ?_;intro u R;refine Zb [0] ?_;refine A1<|Za Y<|A3 Y<|Zq<|A1<|Zm Y<|Zv (ET Y Y)<|Zm Y<|Ai (t:=9) Y V (fun Z=>by omega)<|fun Z=>Zf Y Y<|Yg (EI Y Y)<|Zv (AL Y Y)<|AD<|Ak Y (fun af=>by omega)<|fun af=>AB<|Zx<|A1<|Ze (Al zeroValue76 #[_])<|AF fun bo=>AD<|Zq<|A1<|Zm Y<|Zv (FB F0 UP Y V) ?_
 (refine Ap (gU Y Y ?_ ?_ rfl) ?_;(focus (first|decide|omega|(simp [IntKind.bits];done)|(simp [IntKind.bits];omega)));(focus (first|decide|omega|(simp [IntKind.bits];done)|(simp [IntKind.bits];omega))))
 refine Zm Y ?_
 (refine Ap (oI Y Y ?_ ?_ rfl) ?_;(focus (first|decide|omega|(simp [IntKind.bits];done)|(simp [IntKind.bits];omega)));(focus (first|decide|omega|(simp [IntKind.bits];done)|(simp [IntKind.bits];omega))))
 refine Zv (FB F0 UP Y V)<|KY (wB Y Y (wN n W h2)) V rfl ?_;refine Zc [_] Y call137 Y V (ZN _) ?_;rintro _ _ ⟨_,⟨bz,rfl,rfl⟩,rfl⟩;refine Z0<|Zn [4,20] ?_;refine Zx<|AX<|Zb [4,20] ?_;refine Bl<|RO (H0:=_) (R:=_) (I:=(fun pre H=>∃v s,H=[[(bo,.cells #[v] 76 (0,0))],s]/\Row 5 v ((pre.map gb).map u8v) s)) (asg:=fun x=>[(6,.bool x.2),(5,.int .u8 (x.1:Int)),(22,.bool x.2),(21,.int .u8 (x.1:Int))]) V Y call170 (ZO bz (zz n) A0) Y V Wp (⟨_,[],V,JO _⟩) ?ha_2 ?hbd_2 ?hk_2
 case ha_2=>
  intro _ x _ _;refine A1<|A3 Y<|Zg<|Za Y<|Z0 ?_;exact om
 case hbd_2=>
  intro l pre x bn u H1 R1 U hI;obtain ⟨v,s,rfl,M⟩:=hI;have O:=vE _ x (QV U)
  have K:=dn x O;have ax:=congrArg List.length U
  rw [zq,D3]at ax;obtain ⟨gv,cv,rfl⟩:=M.form;refine AX<|Zq<|A1<|Zm Y<|Zv (Cj Y)<|AD<|Ad Y (fun y=>?_) (fun y=>?_);·
   have E:x.2=false:=by simpa using y
   refine Zg<|Zm Y<|KY (yM (m:=(x.1:Int)) (n:=128) Y Y (yO x.1 O)) V rfl ?_;refine A3 Y<|Zg<|Zl isAgg76 Y ?_;refine Zm Y<|Ze (Af (vs:=[_]) (cs:=[_]) DS HN Mz Y V rfl V rfl V)<|AF fun b2=>Ze (EQ (by_:=1) (news:=[_]) DS (V:Tryz.prog.info? 5=some Tryz.t5) V rfl V rfl Y M Y Wo Wh An V GF AK (by(simp only [zu];omega)) (by(simp only [zu];omega))) ?_;rintro _ _ ⟨sb,g,rfl⟩;obtain ⟨gb,cb,rfl⟩:=g.form;refine Xe (Zs sizeOf76 Y Y V) ?_;refine Z0<|A8<|L8 V (by
    exact ⟨_,_,V,by
     rw [Dg,Dg,LL,LL,K,E];exact g⟩)
  have E:x.2=true:=by simpa using y
  refine AB<|Zx<|Zg<|Zl isAgg76 Y ?_;refine Zm Y<|Ze (Af (vs:=[_]) (cs:=[_]) DS HN Mz Y V rfl V rfl V)<|AF fun b4=>Ze (EQ (by_:=1) (news:=[_]) DS (V:Tryz.prog.info? 5=some Tryz.t5) V rfl V rfl Y M Y Wo Wh An V GF AK (by(simp only [zu];omega)) (by(simp only [zu];omega))) ?_;rintro _ _ ⟨sb,g,rfl⟩;obtain ⟨gb,cb,rfl⟩:=g.form;refine Xe (Zs sizeOf76 Y Y V) ?_;refine Z0<|A8<|L8 V (by
   exact ⟨_,_,V,by
    rw [Dg,Dg,LL,LL,K,E];exact g⟩)
 intro D1 H2 X;obtain ⟨v,s,rfl,M⟩:=X;have G:=aK n
 unfold JS at G;obtain ⟨gv,cv,cur,zv,rfl,rfl,ek,cu,cO,bf,d9⟩:=M.some (by rw [zu];exact G);refine Zn [4] ?_;refine A8<|Zx<|A1<|Zl isAgg76 Y ?_;refine Zo Wh (Dh DS HG HE Y (by exact ⟨bf,by simp⟩)) ?_;refine Za Y<|A3 Y<|AA<|LA V (zL results71 Y Y) Wo (by exact ⟨V,V⟩)
structure AY where
 t:Int
 k:Int
 v:V3
deriving DecidableEq
abbrev AY.Ao5(c:AY):Array Go.Value:=#[I4 c.t,I4 c.k,I4 c.v.a,I4 c.v.b,I4 c.v.c]
structure Chg where
 t:Int
 k:Int
 had:Bool
 o:V3
 has:Bool
 n:V3
deriving DecidableEq
abbrev Chg.Ao4(c:Chg):Array Go.Value:=#[I4 c.t,I4 c.k,.bool c.had,I4 c.o.a,I4 c.o.b,I4 c.o.c,.bool c.has,I4 c.n.a,I4 c.n.b,I4 c.n.c]
def AY.zero:AY:=⟨0,0,V3.zero⟩
def AY.ok(r:AY):Prop:=r.v.ok/\(0<=r.t/\r.t<=3)/\(1<=r.k/\r.k<=1000000)
instance(r:AY):Decidable r.ok:=inferInstanceAs(Decidable (_/\_/\_))
def Chg.before(c:Chg):AY:=if c.had then⟨c.t,c.k,c.o⟩else AY.zero
def Chg.after(c:Chg):AY:=if c.has then⟨c.t,c.k,c.n⟩else AY.zero
variable{c:Chg}
theorem NA(h:c.had=true):c.before=⟨c.t,c.k,c.o⟩:=B0 h
theorem rY(h:c.had=false):c.before=AY.zero:=As (by rw [h];decide)
theorem KR(h:c.has=true):c.after=⟨c.t,c.k,c.n⟩:=B0 h
theorem vY(h:c.has=false):c.after=AY.zero:=As (by rw [h];decide)
def Chg.ok(c:Chg):Prop:=¬((¬c.had/\¬c.has)\/(c.had/\c.has/\c.o=c.n))/\¬((c.had/\¬c.before.ok)\/(c.has/\¬c.after.ok))/\(c.had\/c.o=V3.zero)/\(c.has\/c.n=V3.zero)
instance(c:Chg):Decidable c.ok:=inferInstanceAs(Decidable (_/\_/\_/\_))
theorem JZ(n lo hi:Int):BC prog 125 #[I4 n,I4 lo,I4 hi] [] (.bool (decide (lo<=n/\n<=hi))):=by
 refine Se func125 ntmps125 [0,1,2] ?_;intro u R;refine A1<|A3 Y<|A1<|Zm Y<|Zm Y<|Zv (I1 Y Y)<|Zm Y<|Ai (t:=10) Y V (fun g=>?_) (fun g=>?_);·
  refine Zf Y Y<|Zf Y Y<|Yg (KI Y Y)<|Zv (AR Y Y)<|A3 Y<|AA<|AC V results125 Y (by exact ⟨by simp [g],V⟩)
 refine A7 Y V<|A7 Y V<|A7 Y V<|Zv (AL Y Y)<|A3 Y<|AA<|AC V results125 Y (by exact ⟨by simp [g],V⟩)
theorem jT(c:Chg):BC prog 163 #[.agg c.Ao4] [] (.tuple #[.agg c.before.Ao5,.bool c.had]):=by
 refine Se func163 ntmps163 [0] ?_;intro u R;refine A1<|Ze (Bx #[_,_,_,_,_,_,_,_,_,_])<|AF fun m=>Ze (Al Dd #[_,_,_,_,_])<|AF fun y=>A3 Y<|Zq<|A1<|Zh 2 B9 V rfl Cl Y<|Zl DH Y ?_;refine Zv (Cj Y)<|AD<|Ad Y (fun g=>?_) (fun g=>?_);·
  refine A1<|Zv (BQ (vs:=[]) (cs:=#[_,_,_,_,_]) Y (Aa (pl:=#[(0,1),(1,1),(2,3)]) Dd Ds (fun _=>by kernel_rfl) V))<|Xe (Xw Ax _) ?_;refine A3 Y<|AA<|Zt<|CJ V results163 Y Wh (Ar C7 Ax Wn (V)) Y (by simp only [cF,ON,al]at g;exact ⟨by(rw [rY g,g];rfl),V⟩)
 refine AB<|Zx<|A1<|Zh 0 B9 V rfl A5 Y<|Zl AE Y ?_;refine Zh 1 B9 V rfl A5 Y<|Zl AE Y ?_;refine Zh 3 B9 V rfl CD Y<|Zo Wh (Pa #[_,_,_] HB CD Y) ?_;refine Zv (BQ (vs:=[(0,_),(1,_),(2,_)]) (cs:=#[_,_,_,_,_]) Y (Aa (pl:=#[(0,1),(1,1),(2,3)]) Dd Ds (fun _=>by kernel_rfl) rfl))<|Xe (BN Ax Y Y (by(simp [Value.oneCell',Value.cells];done)) Wu An Ek Wn (by exact BU _)) ?_;refine AH Y<|Zn [2,3] ?_;refine Zx<|AA<|CJ V results163 Y Wh (Ar C7 Ax Wn (V)) Y (by simp only [cF,ON,al]at g;exact ⟨by(rw [NA g,g];rfl),V⟩)
theorem Sd(c:Chg):BC prog 63 #[.agg c.Ao4] [] (.tuple #[.agg c.after.Ao5,.bool c.has]):=by
 refine Se func63 ntmps63 [0] ?_;intro u R;refine A1<|Ze (Bx #[_,_,_,_,_,_,_,_,_,_])<|AF fun m=>Ze (Al Dd #[_,_,_,_,_])<|AF fun y=>A3 Y<|Zq<|A1<|Zh 6 B9 V rfl Cl Y<|Zl DH Y ?_;refine Zv (Cj Y)<|AD<|Ad Y (fun g=>?_) (fun g=>?_);·
  refine A1<|Zv (BQ (vs:=[]) (cs:=#[_,_,_,_,_]) Y (Aa (pl:=#[(0,1),(1,1),(2,3)]) Dd Ds (fun _=>by kernel_rfl) V))<|Xe (Xw Ax _) ?_;refine A3 Y<|AA<|Zt<|CJ V results63 Y Wh (Ar C7 Ax Wn (V)) Y (by simp only [cF,ON,al]at g;exact ⟨by(rw [vY g,g];rfl),V⟩)
 refine AB<|Zx<|A1<|Zh 0 B9 V rfl A5 Y<|Zl AE Y ?_;refine Zh 1 B9 V rfl A5 Y<|Zl AE Y ?_;refine Zh 7 B9 V rfl CD Y<|Zo Wh (Pa #[_,_,_] HB CD Y) ?_;refine Zv (BQ (vs:=[(0,_),(1,_),(2,_)]) (cs:=#[_,_,_,_,_]) Y (Aa (pl:=#[(0,1),(1,1),(2,3)]) Dd Ds (fun _=>by kernel_rfl) rfl))<|Xe (BN Ax Y Y (by(simp [Value.oneCell',Value.cells];done)) Wu An Ek Wn (by exact BU _)) ?_;refine AH Y<|Zn [2,3] ?_;refine Zx<|AA<|CJ V results63 Y Wh (Ar C7 Ax Wn (V)) Y (by simp only [cF,ON,al]at g;exact ⟨by(rw [KR g,g];rfl),V⟩)
theorem Ox(r:AY):BC prog 151 #[.agg r.Ao5] [] (.bool (decide r.ok)):=by
 refine Se func151 ntmps151 [0] ?_;intro u R;refine A1<|Ze (Bx #[_,_,_,_,_])<|AF fun J=>A3 Y<|Zq<|A1<|A3 Y<|AX<|Zb [3,1] ?_;refine BB (e0:=[(3,_)]) (fun m e H=>∃(i:Nat),m=3 -i/\(i<=3/\(∀j,j<i->inV (r.v.get j)))/\e=[(3,I4 (i:Int))]/\H=[]) (by exact ⟨0,V,⟨by omega,by intro j I;omega⟩,V,V⟩) Wp ?_;rintro _ _ _ ⟨i,rfl,⟨hi,g⟩,rfl,rfl⟩;refine Zq<|A1<|Zm Y<|Zv (Au (n:=3) Y Y)<|AD<|Ak Y (fun E=>?_) (fun E=>?_);·
  refine AB<|Zx<|Zq<|AX<|A1<|Zm Y<|Zh 2 Ds V rfl CD Y ?_;refine Ap (BK G1 A5 Y Y A0)<|Zl AE Y (hv:=by rw [Iv];exact y8 _ _ r.v _ A0) ?_;refine Xr [_,_,_] Y call125 Y V (JZ _ _ _) ?_;refine Zv (C9 Y)<|AD<|Ak Y (fun y=>?_) (fun y=>?_);·
   refine A1<|A3 Y<|AA<|Ab<|Zt<|Zt<|Ab<|Zt<|AC rfl results151 Y (by exact ⟨by rw [Bm (fun h9:r.ok=>y (mJ.1 h9.1 i A0))],rfl⟩)
  refine AB<|A8<|Zx<|Zg<|Zm Y<|Ya (n:=1) Y Y<|AH Y<|Zn [3,1] ?_;refine AZ (e':=[(3,_)]) (by exact ⟨i+1,V,⟨by omega,tJ g (G2.1 y)⟩,V,V⟩)
 refine Aw<|Zt<|Zt<|AQ<|Zx<|A1<|Zh 0 Ds V rfl A5 Y<|Zl AE Y ?_;refine Xr [_,_,_] Y call125 Y V (JZ _ _ _) ?_;refine Zm Y<|Ai (t:=17) Y V (fun G=>?_) (fun G=>?_);·
  refine Yf 1 Ds V rfl A5 Y<|Yl AE Y ?_;refine Xr [_,_,_] Y call125 Y V (JZ _ _ _) ?_;refine Zv (AR Y Y)<|A3 Y<|AA<|AC V results151 Y (by have hv:r.v.ok:=mJ.2 (fun j I=>g j A0);exact ⟨by simp only [AY.ok,hv,G,c7,false_and,X2],V⟩)
 refine A7 Y V<|A7 Y V<|A7 Y V<|Zv (AL Y Y)<|A3 Y<|AA<|AC V results151 Y (by have hv:r.v.ok:=mJ.2 (fun j I=>g j A0);exact ⟨by simp only [AY.ok,hv,G,c7,false_and,X2],V⟩)
theorem jS(c:Chg):BC prog 126 #[.agg c.Ao4] [] (.bool (decide c.ok)):=by
 refine Se func126 ntmps126 [0] ?_;intro u R;refine A1<|Ze (Bx #[_,_,_,_,_,_,_,_,_,_])<|AF fun b1=>A3 Y<|A1<|Zo Wh (Pa #[_,_,_,_,_,_,_,_,_,_] GC C5 Y)<|Xr [_] Y call163 Y V (jT c)<|Zm Y<|Zd Y V<|Zd Y V<|Ze (Al Dd #[_,_,_,_,_])<|AF fun b2=>Xe (Xw Ax _)<|A3 Y<|A1<|Zo Wh (Pa #[_,_,_,_,_,_,_,_,_,_] GC C5 Y)<|Xr [_] Y call63 Y V (Sd c)<|Zm Y<|Zd Y V<|Zd Y V<|Ze (Al Dd #[_,_,_,_,_])<|AF fun b3=>Xe (Xw Ax _)<|AH Y<|Zn [1,3,4,5,6] ?_;refine Zx<|Zq<|Zb [1,3,4,5,6] ?_;refine CL (e0:=[]) (H0:=[]) (fun e H=>∃(M:Bool),(M=decide ((¬c.had/\¬c.has)\/(c.had/\c.has/\c.o=c.n)))/\e=[(35,.bool M)]/\H=[]) Wp ?hx_1 ?hy_1
 case hx_1=>
  refine Zg<|Zm Y<|Zv (Cj Y)<|Zm Y<|Ah (t:=19) Y V (fun O=>?_) (fun O=>?_);·
   refine Zf Y Y<|Yg (Cj Y)<|Zv (AR Y Y)<|Zm Y<|Ah (t:=23) Y V (fun U=>?_) (fun U=>?_);·
    refine A7 Y V<|A7 Y V<|A7 Y V<|A7 Y V<|A7 Y V<|A7 Y V<|A7 Y V<|A7 Y V<|A7 Y V<|A7 Y V<|A7 Y V<|Zv (AR Y Y)<|Z0<|Zn [35,1,3,4,5,6] ?_;refine Aq (e':=[(35,_)]) (by exact ⟨_,by simp_all,V,V⟩)
   refine Zf Y Y<|Zf Y Y<|Ah (t:=25) Y V (fun W=>?_) (fun W=>?_);·
    refine Zf Y Y<|Yg (AR Y Y)<|Zf Y Y<|Ah (t:=28) Y V (fun X=>?_) (fun X=>?_);·
     refine Yf 3 B9 V rfl CD Y<|DF Y Wh (Pa #[_,_,_] HB CD Y) V rfl<|Yf 7 B9 V rfl CD Y<|DF Y Wh (Pa #[_,_,_] HB CD Y) V rfl<|Yg (Lr AG G1 F0 AE A5 Y Y) ?_;refine Yg (AR Y Y)<|Zv (AL Y Y)<|Z0<|Zn [35,1,3,4,5,6] ?_;refine Aq (e':=[(35,_)]) (by exact ⟨_,by simp_all,V,V⟩)
    refine A7 Y V<|A7 Y V<|A7 Y V<|A7 Y V<|A7 Y V<|Yg (AL Y Y)<|Zv (AL Y Y)<|Z0<|Zn [35,1,3,4,5,6] ?_;refine Aq (e':=[(35,_)]) (by exact ⟨_,by simp_all,V,V⟩)
   refine A7 Y V<|Yg (AL Y Y)<|Zf Y Y<|A7 Y V<|A7 Y V<|A7 Y V<|A7 Y V<|A7 Y V<|Yg (AL Y Y)<|Zv (AL Y Y)<|Z0<|Zn [35,1,3,4,5,6] ?_;refine Aq (e':=[(35,_)]) (by exact ⟨_,by simp_all,V,V⟩)
  refine A7 Y V<|A7 Y V<|Zv (AL Y Y)<|Zm Y<|Zf Y Y<|Zf Y Y<|Ah (t:=25) Y V (fun Z=>?_) (fun Z=>?_);·
   refine Zf Y Y<|Yg (AR Y Y)<|Zf Y Y<|Ah (t:=28) Y V (fun af=>?_) (fun af=>?_);·
    refine Yf 3 B9 V rfl CD Y<|DF Y Wh (Pa #[_,_,_] HB CD Y) V rfl<|Yf 7 B9 V rfl CD Y<|DF Y Wh (Pa #[_,_,_] HB CD Y) V rfl<|Yg (Lr AG G1 F0 AE A5 Y Y) ?_;refine Yg (AR Y Y)<|Zv (AL Y Y)<|Z0<|Zn [35,1,3,4,5,6] ?_;refine Aq (e':=[(35,_)]) (by exact ⟨_,by simp_all,V,V⟩)
   refine A7 Y V<|A7 Y V<|A7 Y V<|A7 Y V<|A7 Y V<|Yg (AL Y Y)<|Zv (AL Y Y)<|Z0<|Zn [35,1,3,4,5,6] ?_;refine Aq (e':=[(35,_)]) (by exact ⟨_,by simp_all,V,V⟩)
  refine A7 Y V<|Yg (AL Y Y)<|Zf Y Y<|A7 Y V<|A7 Y V<|A7 Y V<|A7 Y V<|A7 Y V<|Yg (AL Y Y)<|Zv (AL Y Y)<|Z0<|Zn [35,1,3,4,5,6] ?_;refine Aq (e':=[(35,_)]) (by exact ⟨_,by simp_all,V,V⟩)
 rintro _ _ ⟨M,cO,rfl,rfl⟩;refine Ad Y (fun ax=>?_) (fun ax=>?_);·
  refine A1<|A3 Y<|AA<|Zt<|AC V aw Y (by exact ⟨by simp_all [Chg.ok],V⟩)
 refine AB<|Zx<|Zq<|Zb [3,5,1,4,6] ?_;refine CL (e0:=[(3,_),(5,_)]) (H0:=[]) (fun e H=>∃(K:Bool),(K=decide ((c.had/\¬c.before.ok)\/(c.has/\¬c.after.ok)))/\e=[(49,.bool K)]/\H=[]) Wp ?hx_10 ?hy_10
 case hx_10=>
  refine Zg<|Zm Y<|Zm Y<|Ah (t:=37) Y V (fun bf=>?_) (fun bf=>?_);·
   refine DF Y Wh (Pa #[_,_,_,_,_] C7 Ax Y) V rfl<|Xr [_] Y call151 Y V (Ox _)<|Yg (C9 Y)<|Zv (AR Y Y)<|Zm Y<|Ai (t:=42) Y V (fun bn=>?_) (fun bn=>?_);·
    refine A7 Y V<|A7 Y V<|A7 Y V<|A7 Y V<|A7 Y V<|A7 Y V<|Zv (AR Y Y)<|Z0<|Zn [49,1,4,6] ?_;refine Aq (e':=[(49,_)]) (by exact ⟨_,by simp_all,V,V⟩)
   refine Zf Y Y<|Zf Y Y<|Ah (t:=44) Y V (fun g=>?_) (fun g=>?_);·
    refine DF Y Wh (Pa #[_,_,_,_,_] C7 Ax Y) V rfl<|Xr [_] Y call151 Y V (Ox _)<|Yg (C9 Y)<|Yg (AR Y Y)<|Zv (AL Y Y)<|Z0<|Zn [49,1,4,6] ?_;refine Aq (e':=[(49,_)]) (by exact ⟨_,by simp_all,V,V⟩)
   refine A7 Y V<|A7 Y V<|A7 Y V<|Yg (AL Y Y)<|Zv (AL Y Y)<|Z0<|Zn [49,1,4,6] ?_;refine Aq (e':=[(49,_)]) (by exact ⟨_,by simp_all,V,V⟩)
  refine A7 Y V<|A7 Y V<|A7 Y V<|Zv (AL Y Y)<|Zm Y<|Zf Y Y<|Zf Y Y<|Ah (t:=44) Y V (fun m=>?_) (fun m=>?_);·
   refine DF Y Wh (Pa #[_,_,_,_,_] C7 Ax Y) V rfl<|Xr [_] Y call151 Y V (Ox _)<|Yg (C9 Y)<|Yg (AR Y Y)<|Zv (AL Y Y)<|Z0<|Zn [49,1,4,6] ?_;refine Aq (e':=[(49,_)]) (by exact ⟨_,by simp_all,V,V⟩)
  refine A7 Y V<|A7 Y V<|A7 Y V<|Yg (AL Y Y)<|Zv (AL Y Y)<|Z0<|Zn [49,1,4,6] ?_;refine Aq (e':=[(49,_)]) (by exact ⟨_,by simp_all,V,V⟩)
 rintro _ _ ⟨K,cu,rfl,rfl⟩;refine Ad Y (fun y=>?_) (fun y=>?_);·
  refine A1<|A3 Y<|AA<|Zt<|AC V aw Y (by exact ⟨by simp_all [Chg.ok],V⟩)
 refine AB<|Zx<|A1<|Zm Y<|Zm Y<|Ah (t:=51) Y V (fun E=>?_) (fun E=>?_);·
  refine A7 Y V<|A7 Y V<|A7 Y V<|A7 Y V<|Zv (AR Y Y)<|Zm Y<|Zf Y Y<|Zf Y Y<|Ah (t:=59) Y V (fun G=>?_) (fun G=>?_);·
   refine A7 Y V<|A7 Y V<|A7 Y V<|A7 Y V<|Yg (AR Y Y)<|Zv (AR Y Y)<|AH Y<|Zn [2] ?_;refine Zx<|AA<|AC V aw Y (by exact ⟨by simp_all [Chg.ok],V⟩)
  refine Yf 7 B9 V rfl CD Y<|DF Y Wh (Pa #[_,_,_] HB CD Y) V rfl<|Yg (BQ (vs:=[]) (cs:=#[_,_,_]) Y (Cv V0 G1 A5 V)) ?_;refine Yg (J2 AG G1 F0 AE A5 Y Y) ?_;refine Yg (AL Y Y)<|Zv (AR Y Y)<|AH Y<|Zn [2] ?_;refine Zx<|AA<|AC V aw Y (by exact ⟨by simp_all [Chg.ok],V⟩)
 refine Yf 3 B9 V rfl CD Y<|DF Y Wh (Pa #[_,_,_] HB CD Y) V rfl<|Yg (BQ (vs:=[]) (cs:=#[_,_,_]) Y (Cv V0 G1 A5 V)) ?_;refine Yg (J2 AG G1 F0 AE A5 Y Y) ?_;refine Zv (AL Y Y)<|Zm Y<|Ai (t:=57) Y V (fun I=>?_) (fun I=>?_);·
  refine Zf Y Y<|Zf Y Y<|Ah (t:=59) Y V (fun J=>?_) (fun J=>?_);·
   refine A7 Y V<|A7 Y V<|A7 Y V<|A7 Y V<|Yg (AR Y Y)<|Zv (AR Y Y)<|AH Y<|Zn [2] ?_;refine Zx<|AA<|AC V aw Y (by exact ⟨by simp_all [Chg.ok],V⟩)
  refine Yf 7 B9 V rfl CD Y<|DF Y Wh (Pa #[_,_,_] HB CD Y) V rfl<|Yg (BQ (vs:=[]) (cs:=#[_,_,_]) Y (Cv V0 G1 A5 V)) ?_;refine Yg (J2 AG G1 F0 AE A5 Y Y) ?_;refine Yg (AL Y Y)<|Zv (AR Y Y)<|AH Y<|Zn [2] ?_;refine Zx<|AA<|AC V aw Y (by exact ⟨by simp_all [Chg.ok],V⟩)
 refine A7 Y V<|A7 Y V<|A7 Y V<|A7 Y V<|A7 Y V<|A7 Y V<|A7 Y V<|Zv (AL Y Y)<|AH Y<|Zn [2] ?_;refine Zx<|AA<|AC V aw Y (by exact ⟨by simp_all [Chg.ok],V⟩)
def Dq(M:List AU)(v:A4)(cs:List Chg):Prop:=∃p cap,v= .slice p cs.length cap/\cs.length<=maxLen/\∀(i:Nat) (c:Chg),cs[i]?=some c->∃g off cur T zz,p=some ⟨g,off,none⟩/\(g,Obj.cells cur T zz)∈M/\off+i*10+10<=cur.size/\cur.extract (off+i*10) (off+i*10+10)=c.Ao4
def Chg.lt(b c:Chg):Prop:=b.t<c.t\/b.t=c.t/\b.k<c.k
instance(b c:Chg):Decidable (b.lt c):=inferInstanceAs(Decidable (_\/_))
structure E9(p:Int)(cs:List Chg):Prop where
 pos:1<=p/\p<=10000
 len:1<=cs.length/\cs.length<=8
 all:∀(i:Nat) (c:Chg),cs[i]?=some c->c.ok
 ord:∀(i:Nat) (b c:Chg),cs[i]?=some b->cs[i+1]?=some c->b.lt c
noncomputable instance(p:Int)(cs:List Chg):Decidable (E9 p cs):=Classical.propDecidable _
variable{i:Nat}
theorem NB{cs:List Chg}{x:Chg}(h:∀(j:Nat) (c:Chg),j<i->cs[j]?=some c->c.ok)(hx:cs[i]?=some x)(g:x.ok):∀(j:Nat) (c:Chg),j<i+1->cs[j]?=some c->c.ok:=by
 intro j c m hc;rcases DP j i with h9|h9
 · exact h j c h9 hc
 · have e:j=i:=by omega
   rw [e,hx]at hc;injection hc with hc;rw [<-hc];exact g
theorem Mi{cs:List Chg}{x:Chg}(h:∀(j:Nat) (b c:Chg),j+1<i->cs[j]?=some b->cs[j+1]?=some c->b.lt c)(hx:cs[i]?=some x)(m:i=0\/∃y,cs[i -1]?=some y/\y.lt x):∀(j:Nat) (b c:Chg),j+1<i+1->cs[j]?=some b->cs[j+1]?=some c->b.lt c:=by
 intro j b c E g hc;rcases DP (j+1) i with h9|h9
 · exact h j b c h9 g hc
 · have e:j+1=i:=by omega
   rw [e,hx]at hc;injection hc with hc
   rcases m with h0|⟨y,hy,hl⟩
   · omega
   · rw [show i -1=j by omega,g]at hy;injection hy with hy;rw [hy,<-hc];exact hl
theorem QD(p:Int)(q:B7)(cap:Nat)(cs:List Chg)(M:List AU)(hO:Dq M (.slice q cs.length cap) cs):BC prog 60 #[.agg #[I4 p,.slice q cs.length cap]] [M] (.bool (decide (E9 p cs))):=by
 have gq:=mL;obtain ⟨p9,d9,e9,gy,hg⟩:=hO;injection e9 with e91 e92 e93
 subst e91 e93;refine Se func60 ntmps60 [0] ?_;intro u R;refine A1<|Ze (Bx #[_,_])<|AF fun b1=>A3 Y<|Zq<|A1<|Zh 0 Ft V rfl A5 Y<|Zl AE Y<|Xr [_,_,_] Y call125 Y V (JZ _ _ _)<|Zv (C9 Y)<|Zm Y<|Ai (t:=10) Y V (fun hp=>?_) (fun hp=>?_);·
  refine A7 Y V<|A7 Y V<|A7 Y V<|A7 Y V<|A7 Y V<|Zv (AR Y Y)<|Z0<|Zn [1,16] ?_;refine Zx<|CQ Y<|A1<|A3 Y<|AA<|Zt<|AC rfl db Y (by exact ⟨by rw [Bm (fun h9:E9 p cs=>by have J:=h9.pos;have Z:=h9.len;exact hp J)],rfl⟩)
 refine Yf 1 Ft V rfl Hx Y<|Yl J1 Y<|Yg (AP Fk Y)<|Xr [_,_,_] Y call125 Y V (JZ _ _ _)<|Yg (C9 Y)<|Zv (AL Y Y)<|Z0<|Zn [1,16] ?_;refine Zx<|Ak Y (fun hl=>?_) (fun hl=>?_);·
  refine A1<|A3 Y<|AA<|Zt<|AC rfl db Y (by exact ⟨by rw [Bm (fun h9:E9 p cs=>by have J:=h9.pos;have Z:=h9.len;(apply hl;omega))],rfl⟩)
 refine AB<|Zx<|Zq<|A1<|A3 Y<|AX<|Zb [3,1] ?_;refine BB (e0:=[(3,_)]) (fun m e H=>∃(i:Nat),m=cs.length -i/\(i<=cs.length/\(∀(j:Nat) (c:Chg),j<i->cs[j]?=some c->c.ok)/\(∀(j:Nat) (b c:Chg),j+1<i->cs[j]?=some b->cs[j+1]?=some c->b.lt c))/\e=[(3,I4 (i:Int))]/\H=[]) (by exact ⟨0,V,⟨by omega,by intro j c hj;omega,by intro j b c hj;omega⟩,V,V⟩) Wp ?_;rintro _ _ _ ⟨i,rfl,⟨hi,G,I⟩,rfl,rfl⟩;refine Zq<|A1<|Zm Y<|Zh 1 Ft V rfl Hx Y<|Zl J1 Y<|Zv (AP Fk Y)<|Zv (Au Y Y)<|AD<|Ak Y (fun U=>?_) (fun U=>?_);·
  refine AB<|Zx<|Zq<|AX<|Zq ?_;obtain ⟨x,hx⟩:∃x,cs[i]?=some x:=⟨_,zn U⟩;obtain ⟨g,off,cur,T,zz,rfl,hm,kv,af⟩:=hg i x hx;refine Zg<|Zh 1 Ft V rfl Hx Y<|Zl J1 Y<|Zm Y<|Ap (AO Fk C5 Y Y A0)<|Ca (cs:=[(g,.cells cur T zz)]) (by simp [hm]) (A9 (cs:=x.Ao4) GC C5 Y A0 af) V rfl<|Ze (Al K1 #[_,_,_,_,_,_,_,_,_,_])<|AF fun b2=>Xe (Xw C5 _)<|AD<|Zq<|A1<|Zo Wh (Pa #[_,_,_,_,_,_,_,_,_,_] GC C5 Y)<|Xr [_] Y call126 Y V (jS x)<|Zv (C9 Y)<|Z0<|Zn [1,3,4,31] ?_;refine Zx<|Ak Y (fun E=>?_) (fun E=>?_);·
   refine A1<|A3 Y<|AA<|Zt<|Ab<|Zt<|Zt<|Ab<|Zt<|AC rfl db Y (by exact ⟨by rw [Bm (fun h9:E9 p cs=>E (h9.all i x hx))],rfl⟩)
  refine AB<|Zx<|A1<|Zm Y<|Zv (CO (n:=0) Y Y)<|AD<|Ak Y (fun W=>?_) (fun W=>?_);·
   refine Zq ?_;obtain ⟨y,hy⟩:∃y,cs[i -1]?=some y:=⟨_,zn A0⟩;obtain ⟨g2,gm,K,T2,cO,X,ax,ek,O⟩:=hg (i -1) y hy;injection X with X
   injection X with e21 e22
   subst e21 e22;refine Zg<|Zh 1 Ft V rfl Hx Y<|Zl J1 Y<|Zm Y<|Yb (n:=1) Y Y ?_;refine Ap (AO Fk C5 Y Y A0)<|Ca (cs:=[(g,.cells K T2 cO)]) (by simp [ax]) (A9 (cs:=y.Ao4) GC C5 Y A0 O) V rfl<|Ze (Al K1 #[_,_,_,_,_,_,_,_,_,_])<|AF fun b3=>Xe (Xw C5 _)<|AD<|A1<|Zh 0 B9 V rfl A5 Y<|Zl AE Y<|Zh 0 B9 V rfl A5 Y<|Zl AE Y<|Zv (EI Y Y)<|Zm Y<|Ai (t:=45) Y V (fun bf=>?_) (fun bf=>?_);·
    refine A7 Y V<|A7 Y V<|A7 Y V<|A7 Y V<|A7 Y V<|A7 Y V<|A7 Y V<|A7 Y V<|A7 Y V<|A7 Y V<|A7 Y V<|A7 Y V<|Zv (AR Y Y)<|Z0<|Zn [1,3,58] ?_;refine Zx<|CQ Y<|A1<|A3 Y<|AA<|Ab<|Zt<|Zt<|Ab<|Zt<|AC rfl db Y (by exact ⟨by rw [Bm (fun h9:E9 p cs=>by have J:=h9.ord (i -1) y x hy (by rw [show i -1+1=i by omega];exact hx);unfold Chg.lt at J;omega)],rfl⟩)
   refine Yf 0 B9 V rfl A5 Y<|Yl AE Y<|Yf 0 B9 V rfl A5 Y<|Yl AE Y<|Yg (Br Y Y)<|Zf Y Y<|Ai (t:=51) Y V (fun bn=>?_) (fun bn=>?_);·
    refine Yf 1 B9 V rfl A5 Y<|Yl AE Y<|Yf 1 B9 V rfl A5 Y<|Yl AE Y<|Yg (I1 Y Y)<|Yg (AR Y Y)<|Zv (AL Y Y)<|Z0<|Zn [1,3,58] ?_;refine Zx<|Ak Y (fun cu=>?_) (fun cu=>?_);·
     refine A1<|A3 Y<|AA<|Ab<|Zt<|Zt<|Ab<|Zt<|AC rfl db Y (by exact ⟨by rw [Bm (fun h9:E9 p cs=>by have J:=h9.ord (i -1) y x hy (by rw [show i -1+1=i by omega];exact hx);unfold Chg.lt at J;omega)],rfl⟩)
    refine AB<|A8<|Zx<|Zg<|Zm Y<|Ya (n:=1) Y Y<|AH Y<|Zn [3,1] ?_;refine AZ (e':=[(3,_)]) (by exact ⟨i+1,V,⟨by omega,NB G hx (G2.1 E),Mi I hx (by(right;refine ⟨y,hy,?_⟩;unfold Chg.lt;omega))⟩,V,V⟩)
   refine A7 Y V<|A7 Y V<|A7 Y V<|A7 Y V<|A7 Y V<|Yg (AL Y Y)<|Zv (AL Y Y)<|Z0<|Zn [1,3,58] ?_;refine Zx<|Dj Y<|AB<|A8<|Zx<|Zg<|Zm Y<|Ya (n:=1) Y Y<|AH Y<|Zn [3,1] ?_;refine AZ (e':=[(3,_)]) (by exact ⟨i+1,V,⟨by omega,NB G hx (G2.1 E),Mi I hx (by(right;refine ⟨y,hy,?_⟩;unfold Chg.lt;omega))⟩,V,V⟩)
  refine AB<|A8<|Zx<|Zg<|Zm Y<|Ya (n:=1) Y Y<|AH Y<|Zn [3,1] ?_;refine AZ (e':=[(3,_)]) (by exact ⟨i+1,V,⟨by omega,NB G hx (G2.1 E),Mi I hx (by(left;omega))⟩,V,V⟩)
 refine Aw<|Zt<|Zt<|AQ<|Zx<|A1<|A3 Y<|AA<|AC rfl db Y (by exact ⟨by rw [CA (⟨by omega,by omega,fun j c hc=>G j c (by have:=(zt.1 hc).1;omega) hc,fun j b c hb hc=>I j b c (by have:=(zt.1 hc).1;omega) hb hc⟩:E9 p cs)],rfl⟩)
def fP(M:List AU)(v:A4)(rs:List AY):Prop:=∃p cap,v= .slice p rs.length cap/\rs.length<=maxLen/\∀(i:Nat) (r:AY),rs[i]?=some r->∃g off cur T zz,p=some ⟨g,off,none⟩/\(g,Obj.cells cur T zz)∈M/\off+i*5+5<=cur.size/\cur.extract (off+i*5) (off+i*5+5)=r.Ao5
variable{cur:AN}
theorem Tq{cs:AN}{a n j:Nat}{v:A4}(h:cur.extract a (a+n)=cs)(hv:cs[j]?=some v):cur[a+j]?=some v:=by
 rw [<-h,Z1]at hv;split at hv;· exact hv
 · cases hv
def AY.lt2(r:AY)(t k:Int):Prop:=r.t<t\/r.t=t/\r.k<k
instance(r:AY)(t k:Int):Decidable (r.lt2 t k):=inferInstanceAs(Decidable (_\/_))
def AY.is(r:AY)(t k:Int):Prop:=r.t=t/\r.k=k
instance(r:AY)(t k:Int):Decidable (r.is t k):=inferInstanceAs(Decidable (_/\_))
def BL(rs:List AY):Prop:=rs.Pairwise (fun a b=>a.lt2 b.t b.k)
def EL(rs:List AY)(t k:Int):Nat:=(rs.takeWhile (fun r=>decide (r.lt2 t k))).length
theorem VP:∀{rs:List AY} {t k:Int} {m:Nat},m<=rs.length->(∀(i:Nat) (r:AY),i<m->rs[i]?=some r->r.lt2 t k)->(∀(i:Nat) (r:AY),m<=i->rs[i]?=some r->¬r.lt2 t k)->EL rs t k=m
 |[],t,k,m,hm,_,_=>by simp only [KK]at hm;simp [EL];omega
 |r::rs,t,k,0,_,_,h2=>by unfold EL;rw [W8,As (by simpa using h2 0 r A0 rfl)];rfl
 |r::rs,t,k,m+1,hm,h1,h2=>by
  unfold EL;rw [W8,B0 (by simpa using h1 0 r A0 rfl),D3];exact congrArg (·+1) (VP (by simpa using hm) (fun i x hi hx=>h1 (i+1) x A0 hx) (fun i x hi hx=>h2 (i+1) x A0 hx))
variable{k t:Int}
theorem QW{a b:AY}(h:a.lt2 b.t b.k)(g:b.lt2 t k):a.lt2 t k:=by unfold AY.lt2 at*;omega
variable{rs:List AY}
theorem Uy(h:BL rs){j:Nat}{a b:AY}(g:i<j)(m:rs[i]?=some a)(y:rs[j]?=some b):a.lt2 b.t b.k:=by
 obtain ⟨hi,rfl⟩:=zt.1 m;obtain ⟨E,rfl⟩:=zt.1 y;exact ia.1 h i j hi E g
variable{x:AY}
theorem WG(h:BL rs){m:Nat}(hx:rs[m]?=some x)(y:x.lt2 t k):∀(i:Nat) (r:AY),i<m+1->rs[i]?=some r->r.lt2 t k:=by
 intro i r hi g;rcases DP i m with h9|h9
 · exact QW (Uy h h9 g hx) y
 · rw [show i=m by omega,hx]at g;injection g with g;rw [<-g];exact y
theorem WJ(h:BL rs){m:Nat}(hx:rs[m]?=some x)(y:¬x.lt2 t k):∀(i:Nat) (r:AY),m<=i->rs[i]?=some r->¬r.lt2 t k:=by
 intro i r hi g hc;rcases DP m i with h9|h9
 · exact y (QW (Uy h h9 hx g) hc)
 · rw [show i=m by omega,hx]at g;injection g with g;rw [<-g]at hc;exact y hc
theorem YU(sp:Nat)(q:B7)(cap:Nat)(p t k:Int)(rs:List AY)(M:List AU)(hO:fP M (.slice q rs.length cap) rs)(hn:rs.length<=1000000)(I:BL rs):BC prog 62 #[I5 sp,I4 t,I4 k] [[(sp,.cells #[.slice q rs.length cap,I4 p] 130 (0,0))],M] (I4 (EL rs t k:Int)):=by
 have bf:=mL;obtain ⟨p9,U,W,bn,hg⟩:=hO;injection W with e91 e92 e93
 subst e91 e93;refine Se func62 ntmps62 [0,1,2] ?_;intro u R;refine A1<|A3 Y<|A1<|A3 Y<|A1<|Zm Y<|Zp Y V<|Zh 0 Hs V rfl C4 Y<|Zl DO Y ?_;refine Zv (AP B4 Y)<|A3 Y<|Zq<|AX<|Zb [7,8,0,1,2] ?_;refine BB (e0:=[(7,_),(8,_)]) (fun m e H=>∃(lo hi:Nat),m=hi -lo/\(lo<=hi/\hi<=rs.length/\(∀(i:Nat) (r:AY),i<lo->rs[i]?=some r->r.lt2 t k)/\(∀(i:Nat) (r:AY),hi<=i->rs[i]?=some r->¬r.lt2 t k))/\e=[(7,I4 (lo:Int)),(8,I4 (hi:Int))]/\H=[]) (by exact ⟨0,rs.length,V,⟨by omega,by omega,by intro i r hi;omega,by intro i r hi O;have:=(zt.1 O).1;omega⟩,V,V⟩) Wp ?_;rintro _ _ _ ⟨lo,hi,rfl,⟨ax,af,E,y⟩,rfl,rfl⟩;refine Zq<|A1<|Zm Y<|Zm Y<|Zv (Au Y Y)<|AD<|Ak Y (fun J=>?_) (fun J=>?_);·
  refine AB<|Zx<|AX<|A1<|Zm Y<|Zm Y<|Ya Y Y ?_
  (refine Ap (Kw (n:=2) Y Y ?_ ?_) ?_;(focus (omega));(focus (omega)))
  refine A3 Y<|Zq ?_;obtain ⟨x,hx⟩:∃x,rs[(lo+hi)/2]?=some x:=⟨_,zn A0⟩;obtain ⟨g,off,cur,T,zz,rfl,K,cu,G⟩:=hg _ x hx;refine Zg<|Zm Y<|Zp Y V<|Zh 0 Hs V rfl C4 Y<|Zl DO Y ?_;refine Zm Y<|Ap (AO B4 Ax Y Y A0)<|Zv (Aj (off:=0) Ds V rfl A5 Y)<|Ca (cs:=[(g,.cells cur T zz)]) (by simp [K]) (Bj AE Y (Tq (j:=0) G V)) V rfl ?_;refine Zm Y<|Zv (ET Y Y)<|Zm Y<|Ai (t:=32) Y V (fun X=>?_) (fun X=>?_);·
   refine A7 Y V<|A7 Y V<|A7 Y V<|A7 Y V<|A7 Y V<|A7 Y V<|A7 Y V<|A7 Y V<|A7 Y V<|A7 Y V<|A7 Y V<|A7 Y V<|A7 Y V<|A7 Y V<|A7 Y V<|A7 Y V<|A7 Y V<|A7 Y V<|A7 Y V<|A7 Y V<|A7 Y V<|A7 Y V<|Zv (AR Y Y)<|Z0<|Zn [0,1,2,7,8,9,55] ?_;refine Zx<|CQ Y<|Zg<|Zm Y<|Ya (n:=1) Y Y<|AH Y<|A8<|Zn [7,8,0,1,2] ?_;refine AZ (e':=[(7,_),(8,_)]) (by exact ⟨(lo+hi)/2+1,hi,V,⟨by omega,by omega,WG I hx (by unfold AY.lt2;omega),y⟩,V,V⟩)
  refine Zf Y Y<|Yg (EY Y V)<|Yf 0 Hs V rfl C4 Y<|Yl DO Y ?_;refine Zf Y Y ?_
  (refine DV Y (AO B4 Ax Y Y ?_) rfl rfl ?_;(focus (omega)))
  refine Yg (Aj (off:=0) Ds V rfl A5 Y)<|TG Y (cs:=[(g,.cells cur T zz)]) (by simp [K]) (Bj AE Y (Tq (j:=0) G V)) V rfl ?_;refine Zf Y Y<|Yg (Br Y Y)<|Zf Y Y ?_;refine Ai (t:=43) Y V (fun h2=>?_) (fun h2=>?_);·
   refine Zf Y Y<|Yg (EY Y V)<|Yf 0 Hs V rfl C4 Y<|Yl DO Y ?_;refine Zf Y Y ?_
   (refine DV Y (AO B4 Ax Y Y ?_) rfl rfl ?_;(focus (omega)))
   refine Yg (Aj (off:=1) Ds V rfl A5 Y)<|TG Y (cs:=[(g,.cells cur T zz)]) (by simp [K]) (Bj AE Y (Tq (j:=1) G V)) V rfl ?_;refine Zf Y Y<|Yg (ET Y Y)<|Yg (AR Y Y)<|Zv (AL Y Y)<|Z0<|Zn [0,1,2,7,8,9,55] ?_;refine Zx<|Ak Y (fun Z=>?_) (fun Z=>?_);·
    refine Zg<|Zm Y<|Ya (n:=1) Y Y<|AH Y<|A8<|Zn [7,8,0,1,2] ?_;refine AZ (e':=[(7,_),(8,_)]) (by exact ⟨(lo+hi)/2+1,hi,V,⟨by omega,by omega,WG I hx (by unfold AY.lt2;omega),y⟩,V,V⟩)
   refine Zg<|Zm Y<|AH Y<|A8<|Zn [7,8,0,1,2] ?_;refine AZ (e':=[(7,_),(8,_)]) (by exact ⟨lo,(lo+hi)/2,V,⟨by omega,by omega,E,WJ I hx (by unfold AY.lt2;omega)⟩,V,V⟩)
  refine A7 Y V<|A7 Y V<|A7 Y V<|A7 Y V<|A7 Y V<|A7 Y V<|A7 Y V<|A7 Y V<|A7 Y V<|A7 Y V<|Yg (AL Y Y)<|Zv (AL Y Y)<|Z0<|Zn [0,1,2,7,8,9,55] ?_;refine Zx<|Dj Y<|Zg<|Zm Y<|AH Y<|A8<|Zn [7,8,0,1,2] ?_;refine AZ (e':=[(7,_),(8,_)]) (by exact ⟨lo,(lo+hi)/2,V,⟨by omega,by omega,E,WJ I hx (by unfold AY.lt2;omega)⟩,V,V⟩)
 refine Aw<|Zt<|Zt<|AQ<|Zx<|A1<|Zm Y<|A3 Y<|AA<|AC rfl results62 Y (by exact ⟨by rw [VP A0 E (fun i r hi O=>y i r A0 O)],rfl⟩)
def GZ(rs:List AY)(t k:Int):AY×Bool:=match rs[EL rs t k]?with
 |some r=>if r.is t k then(r,true)else(AY.zero,false)
 |none=>(AY.zero,false)
theorem VQ(rs:List AY)(t k:Int):EL rs t k<=rs.length:=by unfold EL;exact List.IsPrefix.length_le (List.takeWhile_prefix _)
theorem kg(hx:rs[EL rs t k]?=some x)(g:x.t=t)(h2:x.k=k):GZ rs t k=(x,true):=by unfold GZ;rw [hx];exact B0 ⟨g,h2⟩
theorem iM(hx:rs[EL rs t k]?=some x)(h:¬(x.t=t/\x.k=k)):GZ rs t k=(AY.zero,false):=by unfold GZ;rw [hx];exact As h
theorem qO(h:¬EL rs t k<rs.length):GZ rs t k=(AY.zero,false):=by unfold GZ;rw [Mb A0]
theorem nk(sp:Nat)(q:B7)(cap:Nat)(p t k:Int)(rs:List AY)(M:List AU)(J:fP M (.slice q rs.length cap) rs)(hn:rs.length<=1000000)(hs:BL rs):BC prog 61 #[I5 sp,I4 t,I4 k] [[(sp,.cells #[.slice q rs.length cap,I4 p] 130 (0,0))],M] (.tuple #[.agg #[I4 (GZ rs t k).1.t,I4 (GZ rs t k).1.k,I4 (GZ rs t k).1.v.a,I4 (GZ rs t k).1.v.b,I4 (GZ rs t k).1.v.c],.bool (GZ rs t k).2]):=by
 have E:=id J;have X:=mL
 obtain ⟨p9,I,U,Z,W⟩:=J;injection U with e91 e92 e93
 subst e91 e93;have af:=VQ rs t k
 refine Se func61 ntmps61 [0,1,2] ?_;intro u R;refine A1<|Ze (Al Dd #[_,_,_,_,_])<|AF fun b1=>A3 Y<|A1<|Zm Y<|Zm Y<|Zm Y<|Xr [_,_,_] Y call62 Y V (YU sp _ _ p t k rs M E hn hs)<|A3 Y<|Zq<|A1<|Zm Y<|Zm Y<|Zp Y V<|Zh 0 Hs V rfl C4 Y<|Zl DO Y<|Zv (AP B4 Y)<|Zv (Au Y Y)<|Zm Y<|Ai (t:=20) Y V (fun y=>?_) (fun y=>?_);·
  obtain ⟨x,hx⟩:∃x,rs[EL rs t k]?=some x:=⟨_,zn y⟩;obtain ⟨g,off,cur,T,zz,rfl,G,ax,m⟩:=W _ x hx;refine Zf Y Y<|Yg (EY Y V)<|Yf 0 Hs V rfl C4 Y<|Yl DO Y<|Zf Y Y<|DV Y (AO B4 Ax Y Y A0) V rfl ?_;refine Yg (Aj (off:=0) Ds V rfl A5 Y)<|TG Y (cs:=[(g,.cells cur T zz)]) (by simp [G]) (Bj AE Y (Tq (j:=0) m V)) V rfl ?_;refine Zf Y Y<|Yg (Br Y Y)<|Zv (AR Y Y)<|Zm Y<|Ai (t:=32) Y V (fun O=>?_) (fun O=>?_);·
   refine Zf Y Y<|Yg (EY Y V)<|Yf 0 Hs V rfl C4 Y<|Yl DO Y<|Zf Y Y<|DV Y (AO B4 Ax Y Y A0) V rfl ?_;refine Yg (Aj (off:=1) Ds V rfl A5 Y)<|TG Y (cs:=[(g,.cells cur T zz)]) (by simp [G]) (Bj AE Y (Tq (j:=1) m V)) V rfl ?_;refine Zf Y Y<|Yg (Br Y Y)<|Zv (AR Y Y)<|Z0<|Zn [0,6,8,43] ?_;refine Zx<|Ak Y (fun K=>?_) (fun K=>?_);·
    refine A1<|Zm Y<|Zp Y rfl<|Zh 0 Hs rfl rfl C4 Y<|Zl DO Y<|Zm Y<|Ap (AO B4 Ax Y Y A0)<|Ca (cs:=[(g,.cells cur T zz)]) (by simp [G]) (A9 (cs:=x.Ao5) C7 Ax Y A0 m) rfl rfl<|Xe (Xw Ax _)<|A3 Y<|AA<|Zt<|CJ rfl results61 Y Wh (Ar C7 Ax Wn (rfl)) Y (by exact ⟨by rw [kg hx O K];rfl,rfl⟩)
   refine AB<|Zx<|A1<|Zv (BQ (vs:=[]) (cs:=#[_,_,_,_,_]) Y (Aa (pl:=#[(0,1),(1,1),(2,3)]) Dd Ds (fun _=>by kernel_rfl) V))<|Xe (Xw Ax _)<|A3 Y<|AA<|CJ V results61 Y Wh (Ar C7 Ax Wn (V)) Y (by exact ⟨by(rw [iM hx A0];rfl),V⟩)
  refine A7 Y V<|A7 Y V<|A7 Y V<|A7 Y V<|A7 Y V<|A7 Y V<|A7 Y V<|A7 Y V<|A7 Y V<|A7 Y V<|Zv (AL Y Y)<|Z0<|Zn [0,6,8,43] ?_;refine Zx<|Dj Y<|AB<|Zx<|A1<|Zv (BQ (vs:=[]) (cs:=#[_,_,_,_,_]) Y (Aa (pl:=#[(0,1),(1,1),(2,3)]) Dd Ds (fun _=>by kernel_rfl) V))<|Xe (Xw Ax _)<|A3 Y<|AA<|CJ V results61 Y Wh (Ar C7 Ax Wn (V)) Y (by exact ⟨by(rw [iM hx A0];rfl),V⟩)
 refine A7 Y V<|A7 Y V<|A7 Y V<|A7 Y V<|A7 Y V<|A7 Y V<|A7 Y V<|A7 Y V<|A7 Y V<|A7 Y V<|Zv (AL Y Y)<|Zm Y<|A7 Y V<|A7 Y V<|A7 Y V<|A7 Y V<|A7 Y V<|A7 Y V<|A7 Y V<|A7 Y V<|A7 Y V<|A7 Y V<|Zv (AL Y Y)<|Z0<|Zn [0,6,8,43] ?_;refine Zx<|Dj Y<|AB<|Zx<|A1<|Zv (BQ (vs:=[]) (cs:=#[_,_,_,_,_]) Y (Aa (pl:=#[(0,1),(1,1),(2,3)]) Dd Ds (fun _=>by kernel_rfl) V))<|Xe (Xw Ax _)<|A3 Y<|AA<|CJ V results61 Y Wh (Ar C7 Ax Wn (V)) Y (by exact ⟨by(rw [qO y];rfl),V⟩)
def out(lo hi n:Int):Bool:=decide (n<lo)||decide (hi<n)
def Ic(cur:AN)(o:Nat)(ns:List Int):Prop:=∀(i:Nat) (n:Int),ns[i]?=some n->cur[o+i]?=some (I4 n)
theorem lW(p:Int->Bool)(ls:List Int)(i:Nat)(x:Int)(h:ls[i]?=some x):(ls.take (i+1)).any p=((ls.take i).any p||p x):=by
 rw [Kx,h];simp
theorem vU(p:Int->Bool)(ls:List Int)(i:Nat)(x:Int)(h:ls[i]?=some x)(hx:p x=true):ls.any p=true:=by
 rw [eM];exact ⟨x,Cd h,hx⟩
theorem wZ(y m:Nat)(n lo hi:Int):BC prog 188 #[I4 n,I5 y,I5 m] [[(y,.cells #[I4 lo] 3 (0,0))],[(m,.cells #[I4 hi] 3 (0,0))]] (.bool (out lo hi n)):=by
 refine Se func188 ntmps188 [0,1,2] ?_;intro u R;refine A1<|A3 Y<|A1<|Zm Y<|Zl AE Y ?_;refine Zv (ET Y Y)<|Zm Y<|Ai (t:=8) Y V (fun g=>?_) (fun g=>?_);·
  refine A7 Y V<|A7 Y V<|A7 Y V<|Zv (AR Y Y)<|A3 Y<|AA<|AC V results188 Y (by exact ⟨by simp [out,g],V⟩)
 refine Zf Y Y<|Yl AE Y ?_;refine Yg (EI Y Y)<|Zv (AL Y Y)<|A3 Y<|AA<|AC V results188 Y (by exact ⟨by simp [out,g],V⟩)
theorem di(J I g off cap:Nat)(lo hi:Int)(cur:AN)(T:AM)(z:Nat×Nat)(ls:List Int)(K:Ic cur off ls)(hn:ls.length<=1073741824):
 Bz prog 222 #[.slice (some ⟨g,off,none⟩) ls.length cap,.func (.func 188) #[] #[I5 J,I5 I]] [[(J,.cells #[I4 lo] 3 (0,0))],[(I,.cells #[I4 hi] 3 (0,0))],[(g,.cells cur T z)]] (fun r H'=>∃k:Int,r=I4 k/\decide (0<=k)=ls.any (out lo hi)/\H'=[[(J,.cells #[I4 lo] 3 (0,0))],[(I,.cells #[I4 hi] 3 (0,0))],[(g,.cells cur T z)]]):=by
 refine Se func222 ntmps222 [0,1] ?_;intro u R;refine A1<|A3 Y<|Zq<|A1<|Zm Y<|Zv (AP Fi Y)<|Zm Y<|AD<|AX<|Zb [8,0,1,7] ?_;refine BB (e0:=[(8,_)]) (fun m e H=>∃(i:Nat),m=ls.length -i/\(i<=ls.length/\(ls.take i).any (out lo hi)=false)/\e=[(8,I4 (i:Int))]/\H=[]) (by exact ⟨0,V,⟨C2 _,V⟩,V,V⟩) Wp ?_;rintro _ _ _ ⟨i,rfl,⟨O,y⟩,rfl,rfl⟩;refine A1<|Zv (Au Y Y)<|AD<|Zq<|Ak Y (fun G=>?_) (fun G=>?_);·
  refine AB<|Zx<|Zq<|AX<|A1<|Zm Y<|A3 Y<|Zq ?_;obtain ⟨x,hx⟩:∃x,ls[i]?=some x:=⟨_,zn G⟩;refine Zg<|Zm Y<|Zm Y<|Zm Y<|Ap (BP Fi A5 Y Y A0)<|Zl AE Y (hv:=by exact K i x hx)<|Xr [_] Y call188 Y V (wZ J I x lo hi)<|AD<|Ad Y (fun E=>?_) (fun E=>?_);·
   refine A1<|Zm Y<|A3 Y<|AA<|Ab<|Zt<|Zt<|Ab<|Zt<|AC rfl results222 Y (by exact ⟨(i:Int),rfl,by rw [vU _ ls i x hx E];exact CA A0,rfl⟩)
  refine AB<|A8<|Zx<|Zg<|Ya (n:=1) Y Y<|Zm Y<|Z0<|Zn [8,0,1,7] ?_;refine AZ (e':=[(8,_)]) (by exact ⟨i+1,rfl,⟨by omega,by rw [lW _ ls i x hx,y];exact E⟩,rfl,rfl⟩)
 have M:i=ls.length:=by omega
 subst M;rw [G0]at y;refine Aw<|Zt<|Zt<|AQ<|Zx<|A1<|A3 Y<|AA<|AC rfl results222 Y (by exact ⟨-1,rfl,by rw [y];rfl,rfl⟩)
theorem UV(E y g off cap:Nat)(lo hi:Int)(cur:AN)(T:AM)(z:Nat×Nat)(ls:List Int)(m:Ic cur off ls)(hn:ls.length<=1073741824):
 BC prog 187 #[.slice (some ⟨g,off,none⟩) ls.length cap,.func (.func 188) #[] #[I5 E,I5 y]] [[(E,.cells #[I4 lo] 3 (0,0))],[(y,.cells #[I4 hi] 3 (0,0))],[(g,.cells cur T z)]] (.bool (ls.any (out lo hi))):=by
 refine Se func187 ntmps187 [0,1] ?_;intro u R;refine A1<|A3 Y<|A1<|Zm Y<|Zm Y<|Zc [_,_] Y call222 Y V (di E y g off cap lo hi cur T z ls m hn) ?_;rintro _ _ ⟨_,⟨k,rfl,G,rfl⟩,rfl⟩;refine Zv (I1 Y Y)<|A3 Y<|AA<|AC rfl results187 Y (by exact ⟨by rw [<-G],rfl⟩)
theorem Uz(g off cap:Nat)(lo hi:Int)(cur:AN)(T:AM)(z:Nat×Nat)(ls:List Int)(m:Ic cur off ls)(hn:ls.length<=1073741824):
 BC prog 165 #[I4 lo,I4 hi,.slice (some ⟨g,off,none⟩) ls.length cap] [[(g,.cells cur T z)]] (.bool (!(ls.any (out lo hi)))):=by
 refine Se func165 ntmps165 [0,1,2] ?_;intro u R;refine A1<|Ze (Bx #[_])<|AF fun y=>Ze (Bx #[_])<|AF fun E=>A3 Y<|A1<|Zm Y<|Zv (Bt (vs:=[]) (us:=[_,_]) Y Y)<|Xr [_,_] Y call187 Y V (UV _ _ g off cap lo hi cur T z ls m hn)<|Zv (Cj Y)<|A3 Y<|AA<|AC V results165 Y (by exact ⟨V,V⟩)
def Eo(c:Chg)(th:Bool)(v:V3):AY:=if th then⟨c.t,c.k,v⟩else AY.zero
variable{v:V3}
theorem qM{g:Bool}(h:g=true):Eo c g v=⟨c.t,c.k,v⟩:=B0 h
theorem xS{g:Bool}(h:g=false):Eo c g v=AY.zero:=As (by rw [h];decide)
theorem gW(lo hi n:Int):(!(([n]:List Int).any (out lo hi)))=decide (lo<=n/\n<=hi):=by
 simp only [gC,gi,eR,out];by_cases g:n<lo<;>by_cases h2:hi<n<;>simp [g,h2]<;>omega
theorem xC(v:V3):(!(([v.a,v.b,v.c]:List Int).any (out (-1000000000) 1000000000)))=decide v.ok:=by
 have h:∀n,out (-1000000000) 1000000000 n=!decide (inV n):=by
  intro n;have:=gW (-1000000000) 1000000000 n
  simp only [gC,gi,eR]at this;rw [<-Bool.not_not (out _ _ n),this];rfl
 simp only [gC,gi,eR,h,V3.ok];by_cases g:inV v.a<;>by_cases h2:inV v.b<;>by_cases m:inV v.c<;>simp [g,h2,m]
theorem yU{n:Int}(h:cur[o]?=some (I4 n)):Ic cur o [n]:=by
 intro i x hx;rcases i with _|i
 · injection hx with hx;rw [<-hx];exact h
 · cases hx
theorem yT(h0:cur[o]?=some (I4 v.a))(g:cur[o+1]?=some (I4 v.b))(h2:cur[o+2]?=some (I4 v.c)):Ic cur o [v.a,v.b,v.c]:=by
 intro i x hx;rcases i with _|_|_|i
 · injection hx with hx;rw [<-hx];exact h0
 · injection hx with hx;rw [<-hx];exact g
 · injection hx with hx;rw [<-hx];exact h2
 · cases hx
theorem Ld(g off cap:Nat)(lo hi:Int)(cur:AN)(T:AM)(z:Nat×Nat)(n:Int)(h:cur[off]?=some (I4 n)):
 BC prog 165 #[I4 lo,I4 hi,.slice (some ⟨g,off,none⟩) 1 cap] [[(g,.cells cur T z)]] (.bool (decide (lo<=n/\n<=hi))):=by
 rw [<-gW];exact Uz g off cap lo hi cur T z [n] (yU h) B3
theorem bQ(g off cap:Nat)(cur:AN)(T:AM)(z:Nat×Nat)(v:V3)(h:Ic cur off [v.a,v.b,v.c]):
 BC prog 165 #[I4 (-1000000000),I4 1000000000,.slice (some ⟨g,off,none⟩) 3 cap] [[(g,.cells cur T z)]] (.bool (decide v.ok)):=by
 rw [<-xC];exact Uz g off cap _ _ cur T z [v.a,v.b,v.c] h B3
theorem We(c:Chg)(m:Bool)(v:V3):BC prog 145 #[.agg c.Ao4,.bool m,.agg #[I4 v.a,I4 v.b,I4 v.c]] [] (.tuple #[.agg #[I4 (Eo c m v).t,I4 (Eo c m v).k,I4 (Eo c m v).v.a,I4 (Eo c m v).v.b,I4 (Eo c m v).v.c],.bool m]):=by
 refine Se func145 ntmps145 [0,1,2] ?_;intro u R;refine A1<|Ze (Bx #[_,_,_,_,_,_,_,_,_,_])<|AF fun y=>Ze (Bx #[_,_,_])<|AF fun E=>Ze (Al Dd #[_,_,_,_,_])<|AF fun G=>A3 Y<|Zq<|A1<|Zm Y<|Zv (Cj Y)<|AD<|Ad Y (fun g=>?_) (fun g=>?_);·
  refine A1<|Zv (BQ (vs:=[]) (cs:=#[_,_,_,_,_]) Y (Aa (pl:=#[(0,1),(1,1),(2,3)]) Dd Ds (fun _=>by kernel_rfl) V))<|Xe (Xw Ax _) ?_;refine A3 Y<|AA<|Zt<|CJ V results145 Y Wh (Ar C7 Ax Wn (V)) Y (by simp only [cF,ON,al]at g;exact ⟨by(rw [xS g,g];rfl),V⟩)
 refine AB<|Zx<|A1<|Zh 0 B9 V rfl A5 Y<|Zl AE Y ?_;refine Zh 1 B9 V rfl A5 Y<|Zl AE Y ?_;refine Zo Wh (Pa #[_,_,_] HB CD Y) ?_;refine Zv (BQ (vs:=[(0,_),(1,_),(2,_)]) (cs:=#[_,_,_,_,_]) Y (Aa (pl:=#[(0,1),(1,1),(2,3)]) Dd Ds (fun _=>by kernel_rfl) rfl))<|Xe (BN Ax Y Y (by(simp [Value.oneCell',Value.cells];done)) Wu An Ek Wn (by exact BU _)) ?_;refine AH Y<|Zn [6,7] ?_;refine Zx<|AA<|CJ V results145 Y Wh (Ar C7 Ax Wn (V)) Y (by simp only [cF,ON,al]at g;exact ⟨by(rw [qM g,g];rfl),V⟩)
theorem SF(r:AY):BC prog 132 #[.agg r.Ao5] [] (.bool (decide r.ok)):=by
 refine Se func132 ntmps132 [0] ?_;intro u R;refine A1<|Ze (Bx #[_,_,_,_,_])<|AF fun G=>A3 Y<|A1<|Zh 0 Ds V rfl A5 Y<|Zl AE Y<|Ze (Af (vs:=[_]) (cs:=[_]) Fi A5 HL Y V rfl V rfl V)<|AF fun I=>Xr [_,_,_] Y call165 Y V (Ld _ 0 1 _ _ _ _ _ r.t V)<|Zm Y<|Ai (t:=7) Y V (fun g=>?_) (fun g=>?_);·
  refine Yf 1 Ds V rfl A5 Y<|Yl AE Y<|Ze (Af (vs:=[_]) (cs:=[_]) Fi A5 HL Y V rfl V rfl V)<|AF fun J=>Xr [_,_,_] Y call165 Y V (Ld _ 0 1 _ _ _ _ _ r.k V)<|Zv (AR Y Y)<|Zm Y<|Ai (t:=13) Y V (fun m=>?_) (fun m=>?_);·
   refine Yf 2 Ds V rfl CD Y<|Yg (Fg G1 A5 Y)<|Xr [_,_,_] Y call165 Y V (bQ _ 2 3 _ _ _ r.v (yT V rfl V))<|Zv (AR Y Y)<|AH Y<|Zn [2] ?_;refine Zx<|AA<|AC V results132 Y (by exact ⟨by(simp_all [AY.ok];done),V⟩)
  refine A7 Y V<|A7 Y V<|A7 Y V<|Zv (AL Y Y)<|AH Y<|Zn [2] ?_;refine Zx<|AA<|AC V results132 Y (by exact ⟨by(simp_all [AY.ok];done),V⟩)
 refine A7 Y V<|A7 Y V<|A7 Y V<|A7 Y V<|Zv (AL Y Y)<|Zm Y<|A7 Y V<|A7 Y V<|A7 Y V<|Zv (AL Y Y)<|AH Y<|Zn [2] ?_;refine Zx<|AA<|AC rfl results132 Y (by exact ⟨by rw [Bm (fun h9:r.ok=>by have y:=h9.2.1;have E:=h9.2.2;omega)],rfl⟩)
theorem YB(c:Chg)(g:Bool)(v:V3):BC prog 195 #[.agg c.Ao4,.bool g,.agg #[I4 v.a,I4 v.b,I4 v.c]] [] (.bool (if g then decide (Eo c g v).ok else decide (v=V3.zero))):=by
 refine Se func195 ntmps195 [0,1,2] ?_;intro u R;refine A1<|Ze (Bx #[_,_,_,_,_,_,_,_,_,_])<|AF fun I=>Ze (Bx #[_,_,_])<|AF fun J=>A3 Y<|A1<|Zo Wh (Pa #[_,_,_,_,_,_,_,_,_,_] GC C5 Y)<|Zm Y<|Zo Wh (Pa #[_,_,_] HB CD Y)<|Xr [_,_,_] Y call145 Y V (We c g v)<|Zm Y<|Zd Y V<|Zd Y V<|Ze (Al Dd #[_,_,_,_,_])<|AF fun K=>Xe (Xw Ax _)<|AH Y<|Zn [1,5,7] ?_;refine Zx<|A1<|Zm Y<|Zm Y<|Ah (t:=17) Y V (fun m=>?_) (fun m=>?_);·
  refine DF Y Wh (Pa #[_,_,_,_,_] C7 Ax Y) V rfl<|Xr [_] Y call132 Y V (SF _)<|Zv (AR Y Y)<|Zm Y<|Ai (t:=21) Y V (fun y=>?_) (fun y=>?_);·
   refine A7 Y V<|A7 Y V<|A7 Y V<|A7 Y V<|A7 Y V<|A7 Y V<|A7 Y V<|Zv (AR Y Y)<|AH Y<|Zn [6] ?_;refine Zx<|AA<|AC V ef Y (by exact ⟨by simp_all,V⟩)
  refine Zf Y Y<|Yg (Cj Y)<|Zf Y Y<|Ah (t:=24) Y V (fun E=>?_) (fun E=>?_);·
   refine DF Y Wh (Pa #[_,_,_] HB CD Y) V rfl<|Yg (BQ (vs:=[]) (cs:=#[_,_,_]) Y (Cv V0 G1 A5 V)) ?_;refine Yg (J2 AG G1 F0 AE A5 Y Y) ?_;refine Yg (AR Y Y)<|Zv (AL Y Y)<|AH Y<|Zn [6] ?_;refine Zx<|AA<|AC V ef Y (by exact ⟨by simp_all,V⟩)
  refine A7 Y V<|A7 Y V<|A7 Y V<|Yg (AL Y Y)<|Zv (AL Y Y)<|AH Y<|Zn [6] ?_;refine Zx<|AA<|AC V ef Y (by exact ⟨by simp_all,V⟩)
 refine A7 Y V<|A7 Y V<|Zv (AL Y Y)<|Zm Y<|Zf Y Y<|Yg (Cj Y)<|Zf Y Y<|Ah (t:=24) Y V (fun G=>?_) (fun G=>?_);·
  refine DF Y Wh (Pa #[_,_,_] HB CD Y) V rfl<|Yg (BQ (vs:=[]) (cs:=#[_,_,_]) Y (Cv V0 G1 A5 V)) ?_;refine Yg (J2 AG G1 F0 AE A5 Y Y) ?_;refine Yg (AR Y Y)<|Zv (AL Y Y)<|AH Y<|Zn [6] ?_;refine Zx<|AA<|AC V ef Y (by exact ⟨by simp_all,V⟩)
 refine A7 Y V<|A7 Y V<|A7 Y V<|Yg (AL Y Y)<|Zv (AL Y Y)<|AH Y<|Zn [6] ?_;refine Zx<|AA<|AC V ef Y (by exact ⟨by simp_all,V⟩)
end Go.Proofs.YtlkdhannldcfbaaGreatDoor
