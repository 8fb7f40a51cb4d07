/-
  DERIVED: THE SHELF's CONTRACTS AT THIS DUMP, IN PLAIN WORDS (tools/lay-plain.mjs out of 'TryzShelf.lean', which tools/lay-shelf.mjs wrote): THE SAME DECLARATIONS UNDER THE SAME NAMES: 'import', 'namespace', 'open', 'def', 'theorem' AND NOTHING ELSE: no command of the shelf's: FOR A HAND-IN. Each laying: the table of numbers ('.._ren') and one theorem, a field a fact of the dump's own or the kernel's comparison; each contract: ONE APPLICATION.
-/
import Derived.Shelf.Strings.OnBuilder
import Derived.Shelf.Small.Bits
import Derived.Shelf.Small.Wraps
import Derived.Shelf.Strconv.Itoa3
import Derived.Shelf.Sort.Plain
import Derived.Shelf.Strings.BuilderCap
import Derived.Shelf.Slices.Clone
import Derived.Shelf.Slices.SearchI
import Derived.Shelf.Slices.Cells
import Derived.Shelf.Slices.In.SortNone
import Derived.Shelf.Slices.Empties2
import Derived.Shelf.SlicesE.Clone
import Derived.Test.YtfhjaegddfehhabGreatDoorDg4
set_option linter.unusedVariables false
set_option linter.unusedSimpArgs false
namespace Go.Proofs
open Go.Shelf
def Tryz.lays156_ren:Go.Shelf.Ren:=⟨fun|156=>312|165=>328|166=>37|169=>41|240=>92|241=>335|276=>150|277=>338|n=>n,fun|31=>45|9=>9|3=>3|4=>4|0=>0|20=>20|72=>112|76=>115|70=>109|37=>110|75=>114|127=>188|164=>249|5=>5|80=>124|n=>n,fun|n=>n⟩
theorem Tryz.lays156:Go.Proofs.Lays.n156 prog Tryz.lays156_ren:={
 mixed:=by kernel_rfl
 f156:=func312.trans (congrArg some AE)
 f165:=func328.trans (congrArg some AE)
 f166:=func37.trans (congrArg some AE)
 f169:=func41.trans (congrArg some AE)
 f240:=func92.trans (congrArg some AE)
 f241:=func335.trans (congrArg some AE)
 f276:=func150.trans (congrArg some AE)
 f277:=func338.trans (congrArg some AE)
 t0:=ec
 a0:=isAgg0
 z0:=sizeOf0
 v0:=dc
 t3:=CM
 a3:=AF
 z3:=A6
 v3:=HG
 t4:=LS
 a4:=E6
 z4:=Cp
 v4:=W5
 t9:=H4
 a9:=HK
 z9:=Fo
 v9:=Hs
 t20:=underlying20
 a20:=isAgg20
 z20:=sizeOf20
 v20:=zeroValue20
 t31:=DA
 a31:=I3
 z31:=HI
 v31:=W4
 t37:=HM
 a37:=Ss
 z37:=Of
 v37:=zeroValue110
 t70:=fp
 a70:=isAgg109
 z70:=eh
 v70:=zeroValue109
 t72:=SZ
 a72:=isAgg112
 z72:=sizeOf112
 v72:=zeroValue112
 t75:=underlying114
 a75:=isAgg114
 z75:=sizeOf114
 v75:=zeroValue114
 t76:=underlying115
 a76:=isAgg115
 z76:=sizeOf115
 v76:=zeroValue115
 t127:=underlying188
 a127:=isAgg188
 z127:=sizeOf188
 v127:=zeroValue188
 t164:=underlying249
 a164:=isAgg249
 z164:=sizeOf249
 v164:=zeroValue249}
theorem Tryz.Builder_Extra_156:Builder.Extra prog Tryz.lays156_ren:={
 sizeBuilder:=by kernel_rfl
 liesBuilder:=by kernel_rfl
 t5:=N1
 a5:=UP
 z5:=K0
 v5:=Sp
 infoByte:=by kernel_rfl
 cellsByte:=by kernel_rfl
 sizeByte:=by kernel_rfl
 neB5:=by decide}
open Go.RowKit in
theorem Tryz.strings_Join(I o c:Nat)(xs:List Bk)(m:Bk)(w:AD)(g:∀(j:Nat) x,xs[j]?=some x->w.cell? ⟨I,o+j,none⟩=some (.string x))(J:I<w.heap.size)(O:xs.length<=140737488355328)(B:xs.length<=c)(G:(Lib.join (xs.map (·.data.toList)) m.data.toList).length<=140737488355328):
 Calls prog 312 #[.slice (some ⟨I,o,none⟩) xs.length c,.string m] w fun e U=>e= .returned (.string ⟨(Lib.join (xs.map (·.data.toList)) m.data.toList).toArray⟩)/\Below w.heap.size w U:=Any.strings_Join Tryz.lays156 Tryz.Builder_Extra_156 I o c xs m w g J O B G
def Tryz.lays125_ren:Go.Shelf.Ren:=⟨fun|125=>108|128=>173|129=>174|n=>n,fun|46=>205|3=>3|51=>291|53=>293|4=>4|5=>5|9=>9|n=>n,fun|n=>n⟩
theorem Tryz.lays125:Go.Proofs.Lays.n125 prog Tryz.lays125_ren:={
 mixed:=by kernel_rfl
 f125:=func108.trans (congrArg some AE)
 f128:=func173.trans (congrArg some AE)
 f129:=func174.trans (congrArg some AE)
 t3:=CM
 a3:=AF
 z3:=A6
 v3:=HG
 t4:=LS
 a4:=E6
 z4:=Cp
 v4:=W5
 t5:=N1
 a5:=UP
 z5:=K0
 v5:=Sp
 t9:=H4
 a9:=HK
 z9:=Fo
 v9:=Hs
 t46:=Wk
 a46:=isAgg205
 z46:=el
 v46:=gA
 t51:=Tl
 a51:=Hv
 z51:=G1
 v51:=gC
 t53:=Wr
 a53:=Z3
 z53:=dj
 v53:=gE}
theorem Tryz.bits_Len(x:Int)(w:AD)(h0:0<=x)(g:x<=18446744073709551615):
 Calls prog 108 #[.int .u64 x] w fun e m=>e= .returned (I4 (Lib.bitLen x.toNat))/\m=w:=Any.bits_Len Tryz.lays125 x w h0 g
def Tryz.lays122_ren:Go.Shelf.Ren:=⟨fun|122=>201|215=>250|n=>n,fun|3=>3|4=>4|n=>n,fun|n=>n⟩
theorem Tryz.lays122:Go.Proofs.Lays.n122 prog Tryz.lays122_ren:={
 mixed:=by kernel_rfl
 f122:=func201.trans (congrArg some AE)
 f215:=func250.trans (congrArg some AE)
 t3:=CM
 a3:=AF
 z3:=A6
 v3:=HG
 t4:=LS
 a4:=E6
 z4:=Cp
 v4:=W5}
open Go.RowKit in
theorem Tryz.cmp_Compare_int(x y:Int)(w:AD):
 Calls prog 201 #[I4 x,I4 y] w fun e g=>e= .returned (I4 (Lib.compareInt x y))/\g=w:=Any.cmp_Compare_int Tryz.lays122 x y w
def Tryz.laysM171_ren:Go.Shelf.Ren:=⟨fun|171=>40|243=>93|246=>151|283=>202|284=>203|285=>204|286=>205|129=>174|317=>251|318=>252|319=>253|320=>254|337=>288|338=>289|n=>n,fun|3=>3|9=>9|2=>2|4=>4|171=>316|0=>0|53=>293|37=>110|5=>5|173=>318|212=>357|51=>291|20=>20|213=>358|46=>205|232=>422|233=>425|n=>n,fun|17=>1|18=>3|19=>4|n=>n⟩
theorem Tryz.laysM171:Go.Proofs.LaysM.n171 prog Tryz.laysM171_ren:={
 mixed:=by kernel_rfl
 f129:=func174.trans (congrArg some AE)
 f171:=func40.trans (congrArg some AE)
 f243:=func93.trans (congrArg some AE)
 f246:=func151.trans (congrArg some AE)
 f283:=func202.trans (congrArg some AE)
 f284:=func203.trans (congrArg some AE)
 f285:=func204.trans (congrArg some AE)
 f286:=func205.trans (congrArg some AE)
 f317:=func251.trans (congrArg some AE)
 f318:=func252.trans (congrArg some AE)
 f319:=func253.trans (congrArg some AE)
 f320:=func254.trans (congrArg some AE)
 f337:=func288.trans (congrArg some AE)
 f338:=func289.trans (congrArg some AE)
 t0:=ec
 a0:=isAgg0
 z0:=sizeOf0
 v0:=dc
 t2:=underlying2
 a2:=isAgg2
 z2:=sizeOf2
 v2:=zeroValue2
 t3:=CM
 a3:=AF
 z3:=A6
 v3:=HG
 t4:=LS
 a4:=E6
 z4:=Cp
 v4:=W5
 t5:=N1
 a5:=UP
 z5:=K0
 v5:=Sp
 t9:=H4
 a9:=HK
 z9:=Fo
 v9:=Hs
 t20:=underlying20
 a20:=isAgg20
 z20:=sizeOf20
 v20:=zeroValue20
 t37:=HM
 a37:=Ss
 z37:=Of
 v37:=zeroValue110
 t46:=Wk
 a46:=isAgg205
 z46:=el
 v46:=gA
 t51:=Tl
 a51:=Hv
 z51:=G1
 v51:=gC
 t53:=Wr
 a53:=Z3
 z53:=dj
 v53:=gE
 t171:=underlying316
 a171:=isAgg316
 z171:=sizeOf316
 v171:=zeroValue316
 t173:=underlying318
 a173:=isAgg318
 z173:=sizeOf318
 v173:=zeroValue318
 t212:=underlying357
 a212:=isAgg357
 z212:=sizeOf357
 v212:=zeroValue357
 t213:=underlying358
 a213:=isAgg358
 z213:=sizeOf358
 t232:=underlying422
 a232:=isAgg422
 z232:=sizeOf422
 v232:=zeroValue422
 t233:=underlying425
 a233:=isAgg425
 z233:=sizeOf425
 v233:=zeroValue425
 g17:=by kernel_rfl
 g18:=by kernel_rfl
 g19:=by kernel_rfl
 i0:=by kernel_rfl
 i2:=by kernel_rfl
 i3:=by kernel_rfl
 i4:=by kernel_rfl
 i5:=by kernel_rfl
 i9:=by kernel_rfl
 i20:=by kernel_rfl
 i37:=by kernel_rfl
 i46:=by kernel_rfl
 i51:=by kernel_rfl
 i53:=by kernel_rfl
 i171:=by kernel_rfl
 i173:=by kernel_rfl
 i212:=by kernel_rfl
 i232:=by kernel_rfl
 i233:=by kernel_rfl
 m17:=by kernel_rfl
 m18:=by kernel_rfl
 m19:=by kernel_rfl}
open Go.RowKit Go.Sort Go.Lib in
theorem Tryz.strconv_Itoa(n:Int)(h0:-9223372036854775808≤n)(h1:n≤9223372036854775807)(w:AD)(htab:Lib.TabIs prog w "internal/strconv.uint64pow10" .u64 Lib.pow10Tab):
 Calls prog 40 #[I4 n] w fun e w'=>e= .returned (.string ⟨(Lib.itoa n).toArray⟩)/\∃k os,w'=grow (w.drewN k) os:=Any.strconv_Itoa Tryz.laysM171 n h0 h1 w htab
def Tryz.lays189_ren:Go.Shelf.Ren:=⟨fun|189=>162|125=>108|257=>231|128=>173|129=>174|294=>263|295=>264|296=>265|297=>266|298=>267|299=>268|216=>269|300=>270|301=>271|328=>308|329=>233|330=>234|331=>309|332=>310|215=>250|343=>327|n=>n,fun|28=>31|3=>3|46=>205|0=>0|51=>291|53=>293|4=>4|183=>283|182=>282|131=>288|5=>5|9=>9|218=>334|222=>121|228=>374|229=>375|n=>n,fun|n=>n⟩
theorem Tryz.lays189:Go.Proofs.Lays.n189 prog Tryz.lays189_ren:={
 mixed:=by kernel_rfl
 f125:=func108.trans (congrArg some AE)
 f128:=func173.trans (congrArg some AE)
 f129:=func174.trans (congrArg some AE)
 f189:=func162.trans (congrArg some AE)
 f215:=func250.trans (congrArg some AE)
 f216:=func269.trans (congrArg some AE)
 f257:=func231.trans (congrArg some AE)
 f294:=func263.trans (congrArg some AE)
 f295:=func264.trans (congrArg some AE)
 f296:=func265.trans (congrArg some AE)
 f297:=func266.trans (congrArg some AE)
 f298:=func267.trans (congrArg some AE)
 f299:=func268.trans (congrArg some AE)
 f300:=func270.trans (congrArg some AE)
 f301:=func271.trans (congrArg some AE)
 f328:=func308.trans (congrArg some AE)
 f329:=func233.trans (congrArg some AE)
 f330:=func234.trans (congrArg some AE)
 f331:=func309.trans (congrArg some AE)
 f332:=func310.trans (congrArg some AE)
 f343:=func327.trans (congrArg some AE)
 t0:=ec
 a0:=isAgg0
 z0:=sizeOf0
 v0:=dc
 t3:=CM
 a3:=AF
 z3:=A6
 v3:=HG
 t4:=LS
 a4:=E6
 z4:=Cp
 v4:=W5
 t5:=N1
 a5:=UP
 z5:=K0
 v5:=Sp
 t9:=H4
 a9:=HK
 z9:=Fo
 v9:=Hs
 t28:=DH
 a28:=cJ
 z28:=du
 v28:=zeroValue31
 t46:=Wk
 a46:=isAgg205
 z46:=el
 v46:=gA
 t51:=Tl
 a51:=Hv
 z51:=G1
 v51:=gC
 t53:=Wr
 a53:=Z3
 z53:=dj
 v53:=gE
 t131:=ki
 a131:=isAgg288
 z131:=sizeOf288
 v131:=l3
 t182:=kj
 a182:=isAgg282
 z182:=sizeOf282
 v182:=l4
 t183:=kk
 a183:=isAgg283
 z183:=sizeOf283
 v183:=lA
 t218:=kl
 a218:=isAgg334
 z218:=sizeOf334
 v218:=lB
 t222:=kn
 a222:=isAgg121
 z222:=Tr
 v222:=Xs
 t228:=kq
 a228:=isAgg374
 z228:=sizeOf374
 v228:=lE
 t229:=kx
 a229:=isAgg375
 z229:=sizeOf375
 v229:=lO}
open Go.Sort Go.RowKit in
theorem Tryz.slices_Sort_int(g off cap:Nat)(zs:List Int)(w:AD)(G:Holds (Value.int .i64) w g off zs.toArray)(m:g<w.heap.size)(B:zs.length<4611686018427387904):
 Calls prog 162 #[.slice (some ⟨g,off,none⟩) zs.length cap] w fun e I=>
  e= .returned (.tuple #[])/\∃n os,I=grow (putRow (Value.int .i64) (Sort.ahead w n) g off (zs.mergeSort fun x y=>decide (x<=y)).toArray) os:=Any.slices_Sort_int Tryz.lays189 g off cap zs w G m B
def Tryz.lays190_ren:Go.Shelf.Ren:=⟨fun|190=>51|125=>108|258=>107|128=>173|129=>174|302=>164|303=>165|304=>166|305=>167|306=>168|307=>169|308=>170|309=>171|310=>172|333=>232|329=>233|330=>234|334=>235|335=>236|336=>237|344=>272|n=>n,fun|31=>45|9=>9|3=>3|46=>205|0=>0|51=>291|53=>293|4=>4|183=>283|182=>282|131=>288|5=>5|218=>334|222=>121|228=>374|229=>375|n=>n,fun|n=>n⟩
theorem Tryz.lays190:Go.Proofs.Lays.n190 prog Tryz.lays190_ren:={
 mixed:=by kernel_rfl
 f125:=func108.trans (congrArg some AE)
 f128:=func173.trans (congrArg some AE)
 f129:=func174.trans (congrArg some AE)
 f190:=func51.trans (congrArg some AE)
 f258:=func107.trans (congrArg some AE)
 f302:=func164.trans (congrArg some AE)
 f303:=func165.trans (congrArg some AE)
 f304:=func166.trans (congrArg some AE)
 f305:=func167.trans (congrArg some AE)
 f306:=func168.trans (congrArg some AE)
 f307:=func169.trans (congrArg some AE)
 f308:=func170.trans (congrArg some AE)
 f309:=func171.trans (congrArg some AE)
 f310:=func172.trans (congrArg some AE)
 f329:=func233.trans (congrArg some AE)
 f330:=func234.trans (congrArg some AE)
 f333:=func232.trans (congrArg some AE)
 f334:=func235.trans (congrArg some AE)
 f335:=func236.trans (congrArg some AE)
 f336:=func237.trans (congrArg some AE)
 f344:=func272.trans (congrArg some AE)
 t0:=ec
 a0:=isAgg0
 z0:=sizeOf0
 v0:=dc
 t3:=CM
 a3:=AF
 z3:=A6
 v3:=HG
 t4:=LS
 a4:=E6
 z4:=Cp
 v4:=W5
 t5:=N1
 a5:=UP
 z5:=K0
 v5:=Sp
 t9:=H4
 a9:=HK
 z9:=Fo
 v9:=Hs
 t31:=DA
 a31:=I3
 z31:=HI
 v31:=W4
 t46:=Wk
 a46:=isAgg205
 z46:=el
 v46:=gA
 t51:=Tl
 a51:=Hv
 z51:=G1
 v51:=gC
 t53:=Wr
 a53:=Z3
 z53:=dj
 v53:=gE
 t131:=ki
 a131:=isAgg288
 z131:=sizeOf288
 v131:=l3
 t182:=kj
 a182:=isAgg282
 z182:=sizeOf282
 v182:=l4
 t183:=kk
 a183:=isAgg283
 z183:=sizeOf283
 v183:=lA
 t218:=kl
 a218:=isAgg334
 z218:=sizeOf334
 v218:=lB
 t222:=kn
 a222:=isAgg121
 z222:=Tr
 v222:=Xs
 t228:=kq
 a228:=isAgg374
 z228:=sizeOf374
 v228:=lE
 t229:=kx
 a229:=isAgg375
 z229:=sizeOf375
 v229:=lO}
open Go.Sort Go.RowKit in
theorem Tryz.slices_Sort_string(g off cap:Nat)(B:List (List UInt8))(w:AD)(I:Holds encStr w g off B.toArray)(m:g<w.heap.size)(G:B.length<4611686018427387904):
 Calls prog 51 #[.slice (some ⟨g,off,none⟩) B.length cap] w fun e J=>
  e= .returned (.tuple #[])/\∃n os,J=grow (putRow encStr (Sort.ahead w n) g off (B.mergeSort fun x y=>decide (x<=y)).toArray) os:=Any.slices_Sort_string Tryz.lays190 g off cap B w I m G
def Tryz.laysNm217_ren:Go.Shelf.Ren:=⟨fun|17=>197|n=>n,fun|24=>45|9=>9|3=>3|4=>4|0=>0|n=>n,fun|n=>n⟩
theorem Tryz.laysNm217:Go.Proofs.Lays2.n17 prog Tryz.laysNm217_ren:={
 mixed:=by kernel_rfl
 f17:=func197.trans (congrArg some AE)
 t0:=ec
 a0:=isAgg0
 z0:=sizeOf0
 v0:=dc
 t3:=CM
 a3:=AF
 z3:=A6
 v3:=HG
 t4:=LS
 a4:=E6
 z4:=Cp
 v4:=W5
 t9:=H4
 a9:=HK
 z9:=Fo
 v9:=Hs
 t24:=DA
 a24:=I3
 z24:=HI
 v24:=W4}
open Go.RowKit Go.Lib Go.Sort in
theorem Tryz.slices_Reverse_string(g off cap:Nat)(zs:List (List UInt8))(w:AD)(B:Holds encStr w g off zs.toArray)(m:zs.length<=9223372036854775807):
 Calls prog 197 #[.slice (some ⟨g,off,none⟩) zs.length cap] w fun e G=>e= .returned (.tuple #[])/\∃n,G=putRow encStr (Sort.ahead w n) g off zs.reverse.toArray:=Any.slices_Reverse_string Tryz.laysNm217 g off cap zs w B m
open Go.RowKit Go.Lib Go.Sort in
theorem Tryz.slices_Reverse_string_empty(a:B6)(cap:Nat)(w:AD):
 Calls prog 197 #[.slice a 0 cap] w fun e g=>e= .returned (.tuple #[])/\g=w:=Any.slices_Reverse_string_empty Tryz.laysNm217 a cap w
open Go.RowKit Go.Sort in
theorem Tryz.slices_Sort_string_none(p:B6)(cap:Nat)(w:AD):
 Calls prog 51 #[.slice p 0 cap] w fun e g=>e= .returned (.tuple #[])/\g=w:=Any.slices_Sort_string_none Tryz.lays190 p cap w
open Go.RowKit Go.Sort in
theorem Tryz.slices_Sort_int_none(p:B6)(cap:Nat)(w:AD):
 Calls prog 162 #[.slice p 0 cap] w fun e g=>e= .returned (.tuple #[])/\g=w:=Any.slices_Sort_int_none Tryz.lays189 p cap w
end Go.Proofs
namespace Go.Proofs.YtfhjaegddfehhabGreatDoor
open Go.Proofs.Tryz
open Go Go.RowKit Gw
set_option maxRecDepth 100000
attribute [local irreducible] Gw.At Gw.Nx Gw.Ops
def GJ(l:List UInt8):A3:= .string (str l)
theorem Rk(a b:List UInt8):str a++str b=str (a++b):=by
 apply ByteArray.ext;simp [str]
theorem Gt(a:List UInt8):(str a).size=a.length:=by simp [str,ByteArray.size]
theorem Lm(a:List UInt8):(str a).data.toList=a:=by simp [str]
theorem aM(xs:List (List UInt8)):Lib.join xs []=xs.flatten:=by
 unfold Lib.join;induction xs with
 |nil=>rfl
 |cons x r ih=>cases r with
  |nil=>simp
  |cons y r=>rw [List.intercalate_cons_cons];rw [ih];simp
variable{o:Nat}
theorem yx{w:AD}{b:Nat}{c:AH}{T:AK}{z:Nat×Nat}{cs:List A3}(g:w.heap[b]?=some (.cells c T z))(h:C9 c o cs)(j:Nat)(v:A3)(m:cs[j]?=some v):w.cell? ⟨b,o+j,none⟩=some v:=by
 have:=H9 g h j v m;rcases RC j with rfl|h0
 · simpa [Addr.add]using this
 · simpa [Addr.add,Nat.ne_of_gt h0]using this
theorem nT(g o cap:Nat)(cs:AH)(T:AK)(z:Nat×Nat)(xs:List (List UInt8))(hc:C9 cs o (xs.map GJ))(J:xs.length<=140737488355328)(m:xs.length<=cap)(B:xs.flatten.length<=140737488355328):
 BB prog 312 #[.slice (some ⟨g,o,none⟩) xs.length cap,.string (str [])] [[(g,.cells cs T z)]] (.string (str xs.flatten)):=
 SK (Rl:=fun v=>v= .string (str xs.flatten)) (fun w O=>by
  have G:=O (g,.cells cs T z) B4;have h:=Tryz.strings_Join g o cap (xs.map str) (str []) w (fun j x hx=>by
   refine yx G hc j _ ?_;rw [E0]at hx⊢;cases h1:xs[j]?with
   |none=>rw [h1]at hx;cases hx
   |some y=>rw [h1]at hx;cases hx;rfl) (by
    rcases E4 g w.heap.size with h1|h1
    · exact h1
    · rw [IF h1]at G;cases G) (by simpa using J) (by simpa using m) (by
    rw [LN];have:(xs.map ((fun s:Bk=>s.data.toList)∘str))=xs:=by simp [str,mw]
    rw [this,Lm,aM];exact B)
  rw [B8]at h;refine h.mono ?_;rintro e U ⟨rfl,I⟩;refine ⟨_,V,?_,I⟩;rw [LN];have:(xs.map ((fun s:Bk=>s.data.toList)∘str))=xs:=by simp [str,mw]
  rw [this,Lm,aM];rfl) (fun v hv=>⟨hv,rfl⟩)
def uv(head rec:List UInt8):List UInt8:=sha (2::head++rec)
theorem jU(l:List UInt8)(B:l.length<=140737488355000)(g:AK)(m:Nat×Nat):BB prog 247 #[.string (str l)] [[(2,.cells (Er.map Ct).toArray g m)]] (.string (str (sha l))):=by
 have:=qM (str l) (by rw [Gt];exact B) g m;rw [Lm]at this;exact this
theorem MO(B o cap I:Nat)(cs:AH)(T U:AK)(z X:Nat×Nat)(xs:List (List UInt8))(m:List UInt8)(hc:C9 cs o (xs.map GJ))(W:xs.length<=140737488355328)(g:xs.length<=cap)(J:m.length+xs.flatten.length<=140737488355000)(G:AK)(O:Nat×Nat):
 BB prog 311 #[.slice (some ⟨B,o,none⟩) xs.length cap,I5 I] [[(B,.cells cs T z)],[(I,.cells #[GJ m] U X)],[(2,.cells (Er.map Ct).toArray G O)]] (.string (str (sha (m++xs.flatten)))):=by
 refine Kn func311 V ntmps311 V ?_;intro u R;unfold GJ;refine Zb [0,1] ?_;refine A0<|A4 Y<|Zq<|Az (n:=6) (0::0::2::7::15::31::[]) 20 AE AE V<|B9 0 V HK Y<|A2 1 V (AP Y)<|Zz (l:=[2])<|B5 [true] [(0,(_,_))] V rfl (Zu [_,_] Y call312 Y V (nT B o cap cs T z xs hc W g A1)) ?_ (fun _ _ h=>h.elim) Ah;rintro _ _ ⟨rfl,rfl⟩;refine BT<|A2 3 rfl (N7 Y Y (by rw [Gt,Gt];omega))<|Yw 4 31 rfl (Zu [_] Y call247 Y rfl ((Rk m xs.flatten)▸jU (m++xs.flatten) (by rw [BW];omega) G O))<|D4<|A2 5 V (Aw Y)<|Ag<|Zx<|AJ<|AO V results311 Y (by exact ⟨V,V⟩)
theorem R9(m:Bk):BZ prog 275 #[.string m] [] (fun r H'=>∃b,r= .func (.func 311) #[] #[I5 b]/\H'=[[(b,.cells #[.string m] 9 (0,0))]]):=by
 refine Se func275 ntmps275 [0] ?_;intro u R;refine A0<|Ze (Bx #[_])<|AG fun g=>A4 Y<|A0<|Zv (Bh (vs:=[]) (us:=[_]) Y Y)<|A4 Y<|AJ<|AO V results275 Y (by exact ⟨_,V,V⟩)
def Rb(z:Nat):List (Nat×Bool):=if h:z<128 then [(z,true)]else(z%128,false)::Rb (z/128)
termination_by z
decreasing_by omega
theorem LF(z:Nat):Rb z=(z%128,decide (z<128))::(if z<128 then []else Rb (z/128)):=by
 rw [Rb];by_cases h:z<128;· simp [h,eE h]
 · simp [h]
theorem yZ(z:Nat):∀x∈Rb z,x.1<128:=by
 induction z using Nat.strongRecOn with
 |_ z ih=>
  intro x hx;rw [LF]at hx;rcases DB.1 hx with rfl|hx
  · exact bm _ AW
  · by_cases h:z<128
    · rw [Ax h]at hx;cases hx
    · rw [An h]at hx;exact ih (z/128) A1 x hx
theorem uh(z k:Nat)(h:z<128^(k+1)):(Rb z).length<=k+1:=by
 induction k generalizing z with
 |zero=>rw [LF,Ax (by simpa using h)];simp
 |succ k ih=>
  rw [LF];by_cases g:z<128;· rw [Ax g];simp
  · rw [An g,Dd]
    have:z/128<128^(k+1):=by
     rw [fm]at h;exact pA (by rw [nm];exact h)
    have:=ih _ this;omega
def gb(x:Nat×Bool):UInt8:=UInt8.ofNat (if x.2 then x.1 else x.1+128)
theorem uc(x:Nat×Bool)(h:x.1<128):u8v (gb x)= .int .u8 ((if x.2 then x.1 else x.1+128:Nat):Int):=by
 unfold u8v gb;rw [mn,eE (by split<;>omega)]
def zz(n:Int):Nat:=(if n<0 then-(2*n) -1 else 2*n).toNat
def UI(n:Int):List UInt8:=(Rb (zz n)).map gb
theorem zO(n:Int)(g:-4611686018427387903<=n)(h2:n<=4611686018427387903):zz n<9223372036854775808:=by unfold zz;split<;>omega
theorem vN(n:Int):0<(UI n).length:=by unfold UI;rw [LF];simp
theorem Ph(n:Int)(g:-4611686018427387903<=n)(h2:n<=4611686018427387903):(UI n).length<=9:=by
 unfold UI;rw [B8];exact uh (zz n) 8 (by have:=zO n g h2;omega)
theorem vc(y:Nat)(h:y<18446744073709551616):bits .and .u64 (y:Int) 127=((y%128:Nat):Int):=by
 have:=u64_and_nat y 127 h AW;rw [nat_mask7]at this;exact this
theorem wi(g:Nat)(h:g<128):bits .or .u8 (g:Int) 128=((g+128:Nat):Int):=by
 have:=u8_or_nat g 128 A1 AW;rw [Nat.or_comm,nat_join 7 128 g AW h,Nat.add_comm]at this;exact this
theorem pX(a:Nat)(h:a<18446744073709551616):a^^^18446744073709551615=18446744073709551615 -a:=by
 have g:BitVec.ofNat 64 a^^^BitVec.allOnes 64= ~~~BitVec.ofNat 64 a:=BitVec.xor_allOnes;have h2:=congrArg BitVec.toNat g
 rw [BitVec.toNat_xor,BitVec.toNat_not,BitVec.toNat_ofNat,eE h]at h2;exact h2
theorem A07(n:Int)(B:-4611686018427387903<=n)(h2:n<=4611686018427387903):bits .xor .u64 (IntKind.u64.wrap (IntKind.u64.wrap n*2^(1:Int).toNat)) (IntKind.u64.wrap (n/2^(63:Int).toNat))=(zz n:Int):=by
 rw [IntKind.wrap_u64,IntKind.wrap_u64,IntKind.wrap_u64];rw [show(2:Int)^(1:Int).toNat=2 from rfl,show(2:Int)^(63:Int).toNat=9223372036854775808 from rfl];by_cases h:n<0
 · obtain ⟨m,g⟩:∃m:Nat,n=-(m:Int):=⟨n.natAbs,by omega⟩
   have e1:n%18446744073709551616*2%18446744073709551616=((18446744073709551616 -2*m:Nat):Int):=by omega
   have e2:n/9223372036854775808%18446744073709551616=((18446744073709551615:Nat):Int):=by omega
   rw [e1,e2,u64_xor_nat _ _ A1 A1,pX _ A1];unfold zz;rw [Ax h];omega
 · obtain ⟨m,g⟩:∃m:Nat,n=(m:Int):=⟨n.natAbs,by omega⟩
   have e1:n%18446744073709551616*2%18446744073709551616=((2*m:Nat):Int):=by omega
   have e2:n/9223372036854775808%18446744073709551616=((0:Nat):Int):=by omega
   rw [e1,e2,u64_xor_nat _ _ A1 A1,Nat.xor_zero];unfold zz;rw [An h];omega
theorem BX{P:Program}{cx:Cx}{c:Code}{Q:Exit->Act->AD->Prop}{env:Env}{H:Hp}(h:At P cx c Q env ([]::H)):At P cx c Q env H:=YD (H':=[]::H) rfl h
theorem WA{α:Type}{l pre g:List α}{x:α}(h:l=pre++x::g):x∈l:=by rw [h];simp
theorem ae(I z:Nat)(hz:z<18446744073709551616):
 Uc prog 274 #[I5 I] [[(I,.cells #[.int .u64 (z:Int)] 293 (0,0))]] (fun x=>#[.int .u8 (x.1:Int),.bool x.2]) (Rb z):=by
 intro l J hy s O;refine Se func274 ntmps274 [0,1] ?_;intro u R;refine AQ<|Zb [0,1] ?_;refine BA (e0:=[]) (fun m e H=>∃(pre:List (Nat×Bool)) (y:Nat) (s:List A9),m=0+y/\(Rb z=pre++Rb y/\y<18446744073709551616/\J pre s)/\e=[]/\H=[[(I,.cells #[.int .u64 (y:Int)] 293 (0,0))],s]) (by exact ⟨[],z,s,V,⟨V,hz,O⟩,V,V⟩) Wp ?_;rintro _ _ _ ⟨pre,y,s,rfl,⟨g,G,O⟩,rfl,rfl⟩;refine AQ<|A0<|Zl Z3 Y ?_;refine Zv (Au (n:=128) Y Y)<|A4 Y<|Zq<|Zq ?_;have W:=hy pre (y%128,decide (y<128)) (if y<128 then []else Rb (y/128)) s (by rw [g,<-LF]) O
 refine Zg<|Zm Y<|Zl Z3 Y ?_;refine Kz (sS (m:=(y:Int)) (n:=127) Y Y (vc y G)) V rfl ?_;refine BV (Us Wr N1 Y A1)<|Zm Y<|Ze (Ga (vs:=[_,_]) Y Y (W) Wp) ?_;rintro _ _ ⟨_,⟨Z,rfl,rfl,B⟩,rfl⟩;refine Zv (Br Y)<|Zm Y<|Ae (t:=13) Y V (fun X=>by cases X)<|fun X=>Zf Y Y<|Zv (AL Y Y)<|Z0<|Zn [0,1,15] ?_;refine Zx<|Aq Y (fun U=>?_) (fun U=>?_);·
  refine AJ<|Zt<|Ac<|Zt<|Ac ?_;refine Cw V results274 (by
   exact ⟨Z,V,by
    have e:Rb z=pre++[(y%128,decide (y<128))]:=by rw [g,LF y,Ax U]
    rw [e];exact B⟩)
 refine AC<|Zx<|Zg<|Zl Z3 Y ?_;refine BV (QQ (n:=7) Y Y (by first|decide|(simp [IntKind.bits];done)|(simp [IntKind.bits];omega)))<|Xe (Zs dj Y Y rfl) ?_;refine Z0<|A8<|Zn [0,1] ?_;refine Ab (e':=[]) (by exact ⟨pre++[(y%128,decide (y<128))],y/2^7,Z,rfl,⟨by rw [g,LF y,An U];simp,by omega,B⟩,rfl,rfl⟩)
theorem aa(z:Int):BZ prog 244 #[.int .u64 z] [] (fun r H'=>∃b,r= .func (.func 274) #[] #[I5 b]/\H'=[[(b,.cells #[.int .u64 z] 293 (0,0))]]):=by
 refine Se func244 ntmps244 [0] ?_;intro u R;refine A0<|Ze (Bx #[_])<|AG fun g=>A4 Y<|A0<|Zv (Bh (vs:=[]) (us:=[_]) Y Y)<|A4 Y<|AJ<|AO V results244 Y (by exact ⟨_,V,V⟩)
theorem Qy(n:Int)(h1:-4611686018427387903<=n)(h2:n<=4611686018427387903):BB prog 194 #[I4 n] [] (.tuple #[.string (str (UI n)),I4 0]):=by
 have ic:=mL;have j3:=zO n h1 h2
 have O:=Ph n h1 h2;unfold UI at O;rw [B8]at O;refine DT func194 V ntmps194 V ?_;intro u R;refine Zb [0] ?_;refine A0<|Za Y<|A4 Y<|Zq<|A0<|Zm Y<|Zv (Dw Y Y)<|Zm Y<|Aj (t:=9) Y V (fun ax=>by omega)<|fun ax=>Zf Y Y<|Yg (Et Y Y)<|Zv (AL Y Y)<|A5<|Aq Y (fun bn=>by omega)<|fun bn=>AC<|Zx<|A0<|Ze (Al zeroValue110 #[_])<|AG fun bo=>A5<|Zq<|A0<|Zm Y<|Zv (Ep CM Wr Y V) ?_
 (refine BV (je Y Y ?_ ?_ rfl) ?_;(focus (first|decide|omega|(simp [IntKind.bits];done)|(simp [IntKind.bits];omega)));(focus (first|decide|omega|(simp [IntKind.bits];done)|(simp [IntKind.bits];omega))))
 refine Zm Y ?_
 (refine BV (sF Y Y ?_ ?_ rfl) ?_;(focus (first|decide|omega|(simp [IntKind.bits];done)|(simp [IntKind.bits];omega)));(focus (first|decide|omega|(simp [IntKind.bits];done)|(simp [IntKind.bits];omega))))
 refine Zv (Ep CM Wr Y V)<|Kz (zU Y Y (A07 n h1 h2)) V rfl ?_;refine Zc [_] Y call244 Y V (aa _) ?_;rintro _ _ ⟨_,⟨bz,rfl,rfl⟩,rfl⟩;refine Z0<|Zn [4,20] ?_;refine Zx<|AQ<|Zb [4,20] ?_;refine BX<|RN (H0:=_) (R:=_) (I:=(fun pre H=>∃v s,H=[[(bo,.cells #[v] 110 (0,0))],s]/\Row 5 v ((pre.map gb).map u8v) s)) (asg:=fun x=>[(6,.bool x.2),(5,.int .u8 (x.1:Int)),(22,.bool x.2),(21,.int .u8 (x.1:Int))]) V Y call274 (ae bz (zz n) A1) Y V Wp (⟨_,[],V,Gb _⟩) ?ha_2 ?hbd_2 ?hk_2
 case ha_2=>
  intro _ x _ _;refine A0<|A4 Y<|Zg<|Za Y<|Z0 ?_;exact tJ
 case hbd_2=>
  intro l pre x d9 u H1 R1 Z hI;obtain ⟨v,s,rfl,W⟩:=hI;have X:=yZ _ x (WA Z)
  have U:=uc x X;have cu:=congrArg List.length Z
  rw [BW,Dd]at cu;obtain ⟨gv,cv,rfl⟩:=W.form;refine AQ<|Zq<|A0<|Zm Y<|Zv (Br Y)<|A5<|AU Y (fun B=>?_) (fun B=>?_);·
   have G:x.2=false:=by simpa using B
   refine Zg<|Zm Y<|Kz (qT (m:=(x.1:Int)) (n:=128) Y Y (wi x.1 X)) V rfl ?_;refine A4 Y<|Zg<|Zl Ss Y ?_;refine Zm Y<|Ze (Ai (vs:=[_]) (cs:=[_]) HM K0 Sp Y V rfl V rfl V)<|AG fun b2=>Ze (Eb (by_:=1) (news:=[_]) HM (V:Tryz.prog.info? 5=some Tryz.t5) V rfl V rfl Y W Y Wo Wh As V GP AW (by(simp only [B8];omega)) (by(simp only [B8];omega))) ?_;rintro _ _ ⟨sb,g,rfl⟩;obtain ⟨gb,cb,rfl⟩:=g.form;refine Xe (Zs Of Y Y V) ?_;refine Z0<|A8<|F7 V (by
    exact ⟨_,_,V,by
     rw [C2,C2,Mp,Mp,U,G];exact g⟩)
  have G:x.2=true:=by simpa using B
  refine AC<|Zx<|Zg<|Zl Ss Y ?_;refine Zm Y<|Ze (Ai (vs:=[_]) (cs:=[_]) HM K0 Sp Y V rfl V rfl V)<|AG fun b4=>Ze (Eb (by_:=1) (news:=[_]) HM (V:Tryz.prog.info? 5=some Tryz.t5) V rfl V rfl Y W Y Wo Wh As V GP AW (by(simp only [B8];omega)) (by(simp only [B8];omega))) ?_;rintro _ _ ⟨sb,g,rfl⟩;obtain ⟨gb,cb,rfl⟩:=g.form;refine Xe (Zs Of Y Y V) ?_;refine Z0<|A8<|F7 V (by
   exact ⟨_,_,V,by
    rw [C2,C2,Mp,Mp,U,G];exact g⟩)
 intro D1 H2 af;obtain ⟨v,s,rfl,W⟩:=af;have J:=vN n
 unfold UI at J;obtain ⟨gv,cv,cur,zv,rfl,rfl,gy,ek,gm,cO,gq⟩:=W.some (by rw [B8];exact J);refine Zn [4] ?_;refine A8<|Zx<|A0<|Zl Ss Y ?_;refine Zo Wh (KR HM N1 H4 Y (by exact ⟨cO,by simp⟩)) ?_;refine Za Y<|A4 Y<|AJ<|GR V (rG results194 Y Y) Wo (by exact ⟨V,V⟩)
structure AX where
 t:Int
 k:Int
 v:V3
deriving DecidableEq
abbrev AX.A97(c:AX):Array Go.Value:=#[I4 c.t,I4 c.k,I4 c.v.a,I4 c.v.b,I4 c.v.c]
structure Chg where
 t:Int
 k:Int
 had:Bool
 o:V3
 has:Bool
 n:V3
deriving DecidableEq
abbrev Chg.A96(c:Chg):Array Go.Value:=#[I4 c.t,I4 c.k,.bool c.had,I4 c.o.a,I4 c.o.b,I4 c.o.c,.bool c.has,I4 c.n.a,I4 c.n.b,I4 c.n.c]
def AX.zero:AX:=⟨0,0,V3.zero⟩
def AX.ok(r:AX):Prop:=r.v.ok/\(0<=r.t/\r.t<=3)/\(1<=r.k/\r.k<=1000000)
instance(r:AX):Decidable r.ok:=inferInstanceAs(Decidable (_/\_/\_))
def Chg.before(c:Chg):AX:=if c.had then⟨c.t,c.k,c.o⟩else AX.zero
def Chg.after(c:Chg):AX:=if c.has then⟨c.t,c.k,c.n⟩else AX.zero
variable{c:Chg}
theorem Po(h:c.had=true):c.before=⟨c.t,c.k,c.o⟩:=Ax h
theorem wD(h:c.had=false):c.before=AX.zero:=An (by rw [h];decide)
theorem LV(h:c.has=true):c.after=⟨c.t,c.k,c.n⟩:=Ax h
theorem A06(h:c.has=false):c.after=AX.zero:=An (by rw [h];decide)
def Chg.ok(c:Chg):Prop:=¬((¬c.had/\¬c.has)\/(c.had/\c.has/\c.o=c.n))/\¬((c.had/\¬c.before.ok)\/(c.has/\¬c.after.ok))/\(c.had\/c.o=V3.zero)/\(c.has\/c.n=V3.zero)
instance(c:Chg):Decidable c.ok:=inferInstanceAs(Decidable (_/\_/\_/\_))
theorem KJ(n lo hi:Int):BB prog 120 #[I4 n,I4 lo,I4 hi] [] (.bool (decide (lo<=n/\n<=hi))):=by
 refine Se func120 ntmps120 [0,1,2] ?_;intro u R;refine A0<|A4 Y<|A0<|Zm Y<|Zm Y<|Zv (He Y Y)<|Zm Y<|Aj (t:=10) Y V (fun g=>?_) (fun g=>?_);·
  refine Zf Y Y<|Zf Y Y<|Yg (NY Y Y)<|Zv (AV Y Y)<|A4 Y<|AJ<|AO V results120 Y (by exact ⟨by simp [g],V⟩)
 refine A7 Y V<|A7 Y V<|A7 Y V<|Zv (AL Y Y)<|A4 Y<|AJ<|AO V results120 Y (by exact ⟨by simp [g],V⟩)
theorem lg(c:Chg):BB prog 177 #[.agg c.A96] [] (.tuple #[.agg c.before.A97,.bool c.had]):=by
 refine Se func177 ntmps177 [0] ?_;intro u R;refine A0<|Ze (Bx #[_,_,_,_,_,_,_,_,_,_])<|AG fun m=>Ze (Al F0 #[_,_,_,_,_])<|AG fun B=>A4 Y<|Zq<|A0<|Zh 2 C0 V rfl Cp Y<|Zl E6 Y ?_;refine Zv (Br Y)<|A5<|AU Y (fun g=>?_) (fun g=>?_);·
  refine A0<|Zv (BL (vs:=[]) (cs:=#[_,_,_,_,_]) Y (AZ (pl:=#[(0,1),(1,1),(2,3)]) F0 G0 (fun _=>by kernel_rfl) V))<|Xe (Xw B0 _) ?_;refine A4 Y<|AJ<|Zt<|Bj V results177 Y Wh (Am D0 B0 Wn (V)) Y (by simp only [fX,SR,eK]at g;exact ⟨by(rw [wD g,g];rfl),V⟩)
 refine AC<|Zx<|A0<|Zh 0 C0 V rfl A6 Y<|Zl AF Y ?_;refine Zh 1 C0 V rfl A6 Y<|Zl AF Y ?_;refine Zh 3 C0 V rfl DO Y<|Zo Wh (Pa #[_,_,_] HB DO Y) ?_;refine Zv (BL (vs:=[(0,_),(1,_),(2,_)]) (cs:=#[_,_,_,_,_]) Y (AZ (pl:=#[(0,1),(1,1),(2,3)]) F0 G0 (fun _=>by kernel_rfl) rfl))<|Xe (BM B0 Y Y (by(simp [Value.oneCell',Value.cells];done)) Wu As Fc Wn (by exact BC _)) ?_;refine AN Y<|Zn [2,3] ?_;refine Zx<|AJ<|Bj V results177 Y Wh (Am D0 B0 Wn (V)) Y (by simp only [fX,SR,eK]at g;exact ⟨by(rw [Po g,g];rfl),V⟩)
theorem Sw(c:Chg):BB prog 66 #[.agg c.A96] [] (.tuple #[.agg c.after.A97,.bool c.has]):=by
 refine Se func66 ntmps66 [0] ?_;intro u R;refine A0<|Ze (Bx #[_,_,_,_,_,_,_,_,_,_])<|AG fun m=>Ze (Al F0 #[_,_,_,_,_])<|AG fun B=>A4 Y<|Zq<|A0<|Zh 6 C0 V rfl Cp Y<|Zl E6 Y ?_;refine Zv (Br Y)<|A5<|AU Y (fun g=>?_) (fun g=>?_);·
  refine A0<|Zv (BL (vs:=[]) (cs:=#[_,_,_,_,_]) Y (AZ (pl:=#[(0,1),(1,1),(2,3)]) F0 G0 (fun _=>by kernel_rfl) V))<|Xe (Xw B0 _) ?_;refine A4 Y<|AJ<|Zt<|Bj V results66 Y Wh (Am D0 B0 Wn (V)) Y (by simp only [fX,SR,eK]at g;exact ⟨by(rw [A06 g,g];rfl),V⟩)
 refine AC<|Zx<|A0<|Zh 0 C0 V rfl A6 Y<|Zl AF Y ?_;refine Zh 1 C0 V rfl A6 Y<|Zl AF Y ?_;refine Zh 7 C0 V rfl DO Y<|Zo Wh (Pa #[_,_,_] HB DO Y) ?_;refine Zv (BL (vs:=[(0,_),(1,_),(2,_)]) (cs:=#[_,_,_,_,_]) Y (AZ (pl:=#[(0,1),(1,1),(2,3)]) F0 G0 (fun _=>by kernel_rfl) rfl))<|Xe (BM B0 Y Y (by(simp [Value.oneCell',Value.cells];done)) Wu As Fc Wn (by exact BC _)) ?_;refine AN Y<|Zn [2,3] ?_;refine Zx<|AJ<|Bj V results66 Y Wh (Am D0 B0 Wn (V)) Y (by simp only [fX,SR,eK]at g;exact ⟨by(rw [LV g,g];rfl),V⟩)
theorem Sv(r:AX):BB prog 178 #[.agg r.A97] [] (.bool (decide r.ok)):=by
 refine Se func178 ntmps178 [0] ?_;intro u R;refine A0<|Ze (Bx #[_,_,_,_,_])<|AG fun O=>A4 Y<|Zq<|A0<|A4 Y<|AQ<|Zb [3,1] ?_;refine BA (e0:=[(3,_)]) (fun m e H=>∃(i:Nat),m=3 -i/\(i<=3/\(∀j,j<i->inV (r.v.get j)))/\e=[(3,I4 (i:Int))]/\H=[]) (by exact ⟨0,V,⟨by omega,by intro j J;omega⟩,V,V⟩) Wp ?_;rintro _ _ _ ⟨i,rfl,⟨hi,g⟩,rfl,rfl⟩;refine Zq<|A0<|Zm Y<|Zv (Au (n:=3) Y Y)<|A5<|Aq Y (fun G=>?_) (fun G=>?_);·
  refine AC<|Zx<|Zq<|AQ<|A0<|Zm Y<|Zh 2 G0 V rfl DO Y ?_;refine BV (Cr Hh A6 Y Y A1)<|Zl AF Y (hv:=by rw [Mz];exact vq _ _ r.v _ A1) ?_;refine Xr [_,_,_] Y call120 Y V (KJ _ _ _) ?_;refine Zv (Cn Y)<|A5<|Aq Y (fun B=>?_) (fun B=>?_);·
   refine A0<|A4 Y<|AJ<|Ac<|Zt<|Zt<|Ac<|Zt<|AO rfl results178 Y (by exact ⟨by rw [Cd (fun h9:r.ok=>B (qG.1 h9.1 i A1))],rfl⟩)
  refine AC<|A8<|Zx<|Zg<|Zm Y<|Ya (n:=1) Y Y<|AN Y<|Zn [3,1] ?_;refine Ab (e':=[(3,_)]) (by exact ⟨i+1,V,⟨by omega,xI g (HL.1 B)⟩,V,V⟩)
 refine Ay<|Zt<|Zt<|AR<|Zx<|A0<|Zh 0 G0 V rfl A6 Y<|Zl AF Y ?_;refine Xr [_,_,_] Y call120 Y V (KJ _ _ _) ?_;refine Zm Y<|Aj (t:=17) Y V (fun I=>?_) (fun I=>?_);·
  refine Yf 1 G0 V rfl A6 Y<|Yl AF Y ?_;refine Xr [_,_,_] Y call120 Y V (KJ _ _ _) ?_;refine Zv (AV Y Y)<|A4 Y<|AJ<|AO V results178 Y (by have hv:r.v.ok:=qG.2 (fun j J=>g j A1);exact ⟨by simp only [AX.ok,hv,I,W6,ij,aE],V⟩)
 refine A7 Y V<|A7 Y V<|A7 Y V<|Zv (AL Y Y)<|A4 Y<|AJ<|AO V results178 Y (by have hv:r.v.ok:=qG.2 (fun j J=>g j A1);exact ⟨by simp only [AX.ok,hv,I,W6,ij,aE],V⟩)
theorem lc(c:Chg):BB prog 121 #[.agg c.A96] [] (.bool (decide c.ok)):=by
 refine Se func121 ntmps121 [0] ?_;intro u R;refine A0<|Ze (Bx #[_,_,_,_,_,_,_,_,_,_])<|AG fun b1=>A4 Y<|A0<|Zo Wh (Pa #[_,_,_,_,_,_,_,_,_,_] G2 C7 Y)<|Xr [_] Y call177 Y V (lg c)<|Zm Y<|Zd Y V<|Zd Y V<|Ze (Al F0 #[_,_,_,_,_])<|AG fun b2=>Xe (Xw B0 _)<|A4 Y<|A0<|Zo Wh (Pa #[_,_,_,_,_,_,_,_,_,_] G2 C7 Y)<|Xr [_] Y call66 Y V (Sw c)<|Zm Y<|Zd Y V<|Zd Y V<|Ze (Al F0 #[_,_,_,_,_])<|AG fun b3=>Xe (Xw B0 _)<|AN Y<|Zn [1,3,4,5,6] ?_;refine Zx<|Zq<|Zb [1,3,4,5,6] ?_;refine DL (e0:=[]) (H0:=[]) (fun e H=>∃(W:Bool),(W=decide ((¬c.had/\¬c.has)\/(c.had/\c.has/\c.o=c.n)))/\e=[(35,.bool W)]/\H=[]) Wp ?hx_1 ?hy_1
 case hx_1=>
  refine Zg<|Zm Y<|Zv (Br Y)<|Zm Y<|Ae (t:=19) Y V (fun X=>?_) (fun X=>?_);·
   refine Zf Y Y<|Yg (Br Y)<|Zv (AV Y Y)<|Zm Y<|Ae (t:=23) Y V (fun Z=>?_) (fun Z=>?_);·
    refine A7 Y V<|A7 Y V<|A7 Y V<|A7 Y V<|A7 Y V<|A7 Y V<|A7 Y V<|A7 Y V<|A7 Y V<|A7 Y V<|A7 Y V<|Zv (AV Y Y)<|Z0<|Zn [35,1,3,4,5,6] ?_;refine BN (e':=[(35,_)]) (by exact ⟨_,by simp_all,V,V⟩)
   refine Zf Y Y<|Zf Y Y<|Ae (t:=25) Y V (fun af=>?_) (fun af=>?_);·
    refine Zf Y Y<|Yg (AV Y Y)<|Zf Y Y<|Ae (t:=28) Y V (fun ax=>?_) (fun ax=>?_);·
     refine Yf 3 C0 V rfl DO Y<|Db Y Wh (Pa #[_,_,_] HB DO Y) V rfl<|Yf 7 C0 V rfl DO Y<|Db Y Wh (Pa #[_,_,_] HB DO Y) V rfl<|Yg (Ky AE Hh CM AF A6 Y Y) ?_;refine Yg (AV Y Y)<|Zv (AL Y Y)<|Z0<|Zn [35,1,3,4,5,6] ?_;refine BN (e':=[(35,_)]) (by exact ⟨_,by simp_all,V,V⟩)
    refine A7 Y V<|A7 Y V<|A7 Y V<|A7 Y V<|A7 Y V<|Yg (AL Y Y)<|Zv (AL Y Y)<|Z0<|Zn [35,1,3,4,5,6] ?_;refine BN (e':=[(35,_)]) (by exact ⟨_,by simp_all,V,V⟩)
   refine A7 Y V<|Yg (AL Y Y)<|Zf Y Y<|A7 Y V<|A7 Y V<|A7 Y V<|A7 Y V<|A7 Y V<|Yg (AL Y Y)<|Zv (AL Y Y)<|Z0<|Zn [35,1,3,4,5,6] ?_;refine BN (e':=[(35,_)]) (by exact ⟨_,by simp_all,V,V⟩)
  refine A7 Y V<|A7 Y V<|Zv (AL Y Y)<|Zm Y<|Zf Y Y<|Zf Y Y<|Ae (t:=25) Y V (fun bn=>?_) (fun bn=>?_);·
   refine Zf Y Y<|Yg (AV Y Y)<|Zf Y Y<|Ae (t:=28) Y V (fun cu=>?_) (fun cu=>?_);·
    refine Yf 3 C0 V rfl DO Y<|Db Y Wh (Pa #[_,_,_] HB DO Y) V rfl<|Yf 7 C0 V rfl DO Y<|Db Y Wh (Pa #[_,_,_] HB DO Y) V rfl<|Yg (Ky AE Hh CM AF A6 Y Y) ?_;refine Yg (AV Y Y)<|Zv (AL Y Y)<|Z0<|Zn [35,1,3,4,5,6] ?_;refine BN (e':=[(35,_)]) (by exact ⟨_,by simp_all,V,V⟩)
   refine A7 Y V<|A7 Y V<|A7 Y V<|A7 Y V<|A7 Y V<|Yg (AL Y Y)<|Zv (AL Y Y)<|Z0<|Zn [35,1,3,4,5,6] ?_;refine BN (e':=[(35,_)]) (by exact ⟨_,by simp_all,V,V⟩)
  refine A7 Y V<|Yg (AL Y Y)<|Zf Y Y<|A7 Y V<|A7 Y V<|A7 Y V<|A7 Y V<|A7 Y V<|Yg (AL Y Y)<|Zv (AL Y Y)<|Z0<|Zn [35,1,3,4,5,6] ?_;refine BN (e':=[(35,_)]) (by exact ⟨_,by simp_all,V,V⟩)
 rintro _ _ ⟨W,gq,rfl,rfl⟩;refine AU Y (fun cO=>?_) (fun cO=>?_);·
  refine A0<|A4 Y<|AJ<|Zt<|AO V dd Y (by exact ⟨by simp_all [Chg.ok],V⟩)
 refine AC<|Zx<|Zq<|Zb [3,5,1,4,6] ?_;refine DL (e0:=[(3,_),(5,_)]) (H0:=[]) (fun e H=>∃(U:Bool),(U=decide ((c.had/\¬c.before.ok)\/(c.has/\¬c.after.ok)))/\e=[(49,.bool U)]/\H=[]) Wp ?hx_10 ?hy_10
 case hx_10=>
  refine Zg<|Zm Y<|Zm Y<|Ae (t:=37) Y V (fun d9=>?_) (fun d9=>?_);·
   refine Db Y Wh (Pa #[_,_,_,_,_] D0 B0 Y) V rfl<|Xr [_] Y call178 Y V (Sv _)<|Yg (Cn Y)<|Zv (AV Y Y)<|Zm Y<|Aj (t:=42) Y V (fun ek=>?_) (fun ek=>?_);·
    refine A7 Y V<|A7 Y V<|A7 Y V<|A7 Y V<|A7 Y V<|A7 Y V<|Zv (AV Y Y)<|Z0<|Zn [49,1,4,6] ?_;refine BN (e':=[(49,_)]) (by exact ⟨_,by simp_all,V,V⟩)
   refine Zf Y Y<|Zf Y Y<|Ae (t:=44) Y V (fun g=>?_) (fun g=>?_);·
    refine Db Y Wh (Pa #[_,_,_,_,_] D0 B0 Y) V rfl<|Xr [_] Y call178 Y V (Sv _)<|Yg (Cn Y)<|Yg (AV Y Y)<|Zv (AL Y Y)<|Z0<|Zn [49,1,4,6] ?_;refine BN (e':=[(49,_)]) (by exact ⟨_,by simp_all,V,V⟩)
   refine A7 Y V<|A7 Y V<|A7 Y V<|Yg (AL Y Y)<|Zv (AL Y Y)<|Z0<|Zn [49,1,4,6] ?_;refine BN (e':=[(49,_)]) (by exact ⟨_,by simp_all,V,V⟩)
  refine A7 Y V<|A7 Y V<|A7 Y V<|Zv (AL Y Y)<|Zm Y<|Zf Y Y<|Zf Y Y<|Ae (t:=44) Y V (fun m=>?_) (fun m=>?_);·
   refine Db Y Wh (Pa #[_,_,_,_,_] D0 B0 Y) V rfl<|Xr [_] Y call178 Y V (Sv _)<|Yg (Cn Y)<|Yg (AV Y Y)<|Zv (AL Y Y)<|Z0<|Zn [49,1,4,6] ?_;refine BN (e':=[(49,_)]) (by exact ⟨_,by simp_all,V,V⟩)
  refine A7 Y V<|A7 Y V<|A7 Y V<|Yg (AL Y Y)<|Zv (AL Y Y)<|Z0<|Zn [49,1,4,6] ?_;refine BN (e':=[(49,_)]) (by exact ⟨_,by simp_all,V,V⟩)
 rintro _ _ ⟨U,gm,rfl,rfl⟩;refine AU Y (fun B=>?_) (fun B=>?_);·
  refine A0<|A4 Y<|AJ<|Zt<|AO V dd Y (by exact ⟨by simp_all [Chg.ok],V⟩)
 refine AC<|Zx<|A0<|Zm Y<|Zm Y<|Ae (t:=51) Y V (fun G=>?_) (fun G=>?_);·
  refine A7 Y V<|A7 Y V<|A7 Y V<|A7 Y V<|Zv (AV Y Y)<|Zm Y<|Zf Y Y<|Zf Y Y<|Ae (t:=59) Y V (fun I=>?_) (fun I=>?_);·
   refine A7 Y V<|A7 Y V<|A7 Y V<|A7 Y V<|Yg (AV Y Y)<|Zv (AV Y Y)<|AN Y<|Zn [2] ?_;refine Zx<|AJ<|AO V dd Y (by exact ⟨by simp_all [Chg.ok],V⟩)
  refine Yf 7 C0 V rfl DO Y<|Db Y Wh (Pa #[_,_,_] HB DO Y) V rfl<|Yg (BL (vs:=[]) (cs:=#[_,_,_]) Y (DI cy Hh A6 V)) ?_;refine Yg (Ib AE Hh CM AF A6 Y Y) ?_;refine Yg (AL Y Y)<|Zv (AV Y Y)<|AN Y<|Zn [2] ?_;refine Zx<|AJ<|AO V dd Y (by exact ⟨by simp_all [Chg.ok],V⟩)
 refine Yf 3 C0 V rfl DO Y<|Db Y Wh (Pa #[_,_,_] HB DO Y) V rfl<|Yg (BL (vs:=[]) (cs:=#[_,_,_]) Y (DI cy Hh A6 V)) ?_;refine Yg (Ib AE Hh CM AF A6 Y Y) ?_;refine Zv (AL Y Y)<|Zm Y<|Aj (t:=57) Y V (fun J=>?_) (fun J=>?_);·
  refine Zf Y Y<|Zf Y Y<|Ae (t:=59) Y V (fun O=>?_) (fun O=>?_);·
   refine A7 Y V<|A7 Y V<|A7 Y V<|A7 Y V<|Yg (AV Y Y)<|Zv (AV Y Y)<|AN Y<|Zn [2] ?_;refine Zx<|AJ<|AO V dd Y (by exact ⟨by simp_all [Chg.ok],V⟩)
  refine Yf 7 C0 V rfl DO Y<|Db Y Wh (Pa #[_,_,_] HB DO Y) V rfl<|Yg (BL (vs:=[]) (cs:=#[_,_,_]) Y (DI cy Hh A6 V)) ?_;refine Yg (Ib AE Hh CM AF A6 Y Y) ?_;refine Yg (AL Y Y)<|Zv (AV Y Y)<|AN Y<|Zn [2] ?_;refine Zx<|AJ<|AO V dd Y (by exact ⟨by simp_all [Chg.ok],V⟩)
 refine A7 Y V<|A7 Y V<|A7 Y V<|A7 Y V<|A7 Y V<|A7 Y V<|A7 Y V<|Zv (AL Y Y)<|AN Y<|Zn [2] ?_;refine Zx<|AJ<|AO V dd Y (by exact ⟨by simp_all [Chg.ok],V⟩)
def Cf(M:List A9)(v:A3)(cs:List Chg):Prop:=∃p cap,v= .slice p cs.length cap/\cs.length<=maxLen/\∀(i:Nat) (c:Chg),cs[i]?=some c->∃g off cur T zz,p=some ⟨g,off,none⟩/\(g,Obj.cells cur T zz)∈M/\off+i*10+10<=cur.size/\cur.extract (off+i*10) (off+i*10+10)=c.A96
def Chg.lt(b c:Chg):Prop:=b.t<c.t\/b.t=c.t/\b.k<c.k
instance(b c:Chg):Decidable (b.lt c):=inferInstanceAs(Decidable (_\/_))
structure EM(p:Int)(cs:List Chg):Prop where
 pos:1<=p/\p<=10000
 len:1<=cs.length/\cs.length<=8
 all:∀(i:Nat) (c:Chg),cs[i]?=some c->c.ok
 ord:∀(i:Nat) (b c:Chg),cs[i]?=some b->cs[i+1]?=some c->b.lt c
noncomputable instance(p:Int)(cs:List Chg):Decidable (EM p cs):=Classical.propDecidable _
variable{i:Nat}
theorem Mf{cs:List Chg}{x:Chg}(h:∀(j:Nat) (c:Chg),j<i->cs[j]?=some c->c.ok)(hx:cs[i]?=some x)(g:x.ok):∀(j:Nat) (c:Chg),j<i+1->cs[j]?=some c->c.ok:=by
 intro j c m hc;rcases E4 j i with h9|h9
 · exact h j c h9 hc
 · have e:j=i:=by omega
   rw [e,hx]at hc;injection hc with hc;rw [<-hc];exact g
theorem M9{cs:List Chg}{x:Chg}(h:∀(j:Nat) (b c:Chg),j+1<i->cs[j]?=some b->cs[j+1]?=some c->b.lt c)(hx:cs[i]?=some x)(m:i=0\/∃y,cs[i -1]?=some y/\y.lt x):∀(j:Nat) (b c:Chg),j+1<i+1->cs[j]?=some b->cs[j+1]?=some c->b.lt c:=by
 intro j b c B g hc;rcases E4 (j+1) i with h9|h9
 · exact h j b c h9 g hc
 · have e:j+1=i:=by omega
   rw [e,hx]at hc;injection hc with hc
   rcases m with h0|⟨y,hy,hl⟩
   · omega
   · rw [show i -1=j by omega,g]at hy;injection hy with hy;rw [hy,<-hc];exact hl
theorem lZ(p:Int)(q:B6)(cap:Nat)(cs:List Chg)(M:List A9)(hO:Cf M (.slice q cs.length cap) cs):BB prog 65 #[.agg #[I4 p,.slice q cs.length cap]] [M] (.bool (decide (EM p cs))):=by
 have gy:=mL;obtain ⟨p9,ek,e9,ic,hg⟩:=hO;injection e9 with e91 e92 e93
 subst e91 e93;refine Se func65 ntmps65 [0] ?_;intro u R;refine A0<|Ze (Bx #[_,_])<|AG fun b1=>A4 Y<|Zq<|A0<|Zh 0 Ge V rfl A6 Y<|Zl AF Y<|Xr [_,_,_] Y call120 Y V (KJ _ _ _)<|Zv (Cn Y)<|Zm Y<|Aj (t:=10) Y V (fun hp=>?_) (fun hp=>?_);·
  refine A7 Y V<|A7 Y V<|A7 Y V<|A7 Y V<|A7 Y V<|Zv (AV Y Y)<|Z0<|Zn [1,16] ?_;refine Zx<|Co Y<|A0<|A4 Y<|AJ<|Zt<|AO rfl en Y (by exact ⟨by rw [Cd (fun h9:EM p cs=>by have J:=h9.pos;have Z:=h9.len;exact hp J)],rfl⟩)
 refine Yf 1 Ge V rfl Lq Y<|Yl N4 Y<|Yg (AY GF Y)<|Xr [_,_,_] Y call120 Y V (KJ _ _ _)<|Yg (Cn Y)<|Zv (AL Y Y)<|Z0<|Zn [1,16] ?_;refine Zx<|Aq Y (fun hl=>?_) (fun hl=>?_);·
  refine A0<|A4 Y<|AJ<|Zt<|AO rfl en Y (by exact ⟨by rw [Cd (fun h9:EM p cs=>by have J:=h9.pos;have Z:=h9.len;(apply hl;omega))],rfl⟩)
 refine AC<|Zx<|Zq<|A0<|A4 Y<|AQ<|Zb [3,1] ?_;refine BA (e0:=[(3,_)]) (fun m e H=>∃(i:Nat),m=cs.length -i/\(i<=cs.length/\(∀(j:Nat) (c:Chg),j<i->cs[j]?=some c->c.ok)/\(∀(j:Nat) (b c:Chg),j+1<i->cs[j]?=some b->cs[j+1]?=some c->b.lt c))/\e=[(3,I4 (i:Int))]/\H=[]) (by exact ⟨0,V,⟨by omega,by intro j c hj;omega,by intro j b c hj;omega⟩,V,V⟩) Wp ?_;rintro _ _ _ ⟨i,rfl,⟨hi,G,I⟩,rfl,rfl⟩;refine Zq<|A0<|Zm Y<|Zh 1 Ge V rfl Lq Y<|Zl N4 Y<|Zv (AY GF Y)<|Zv (Au Y Y)<|A5<|Aq Y (fun W=>?_) (fun W=>?_);·
  refine AC<|Zx<|Zq<|AQ<|Zq ?_;obtain ⟨x,hx⟩:∃x,cs[i]?=some x:=⟨_,B7 W⟩;obtain ⟨g,off,cur,T,zz,rfl,hm,j3,af⟩:=hg i x hx;refine Zg<|Zh 1 Ge V rfl Lq Y<|Zl N4 Y<|Zm Y<|BV (Ad GF C7 Y Y A1)<|CG (cs:=[(g,.cells cur T zz)]) (by simp [hm]) (AA (cs:=x.A96) G2 C7 Y A1 af) V rfl<|Ze (Al MA #[_,_,_,_,_,_,_,_,_,_])<|AG fun b2=>Xe (Xw C7 _)<|A5<|Zq<|A0<|Zo Wh (Pa #[_,_,_,_,_,_,_,_,_,_] G2 C7 Y)<|Xr [_] Y call121 Y V (lc x)<|Zv (Cn Y)<|Z0<|Zn [1,3,4,31] ?_;refine Zx<|Aq Y (fun B=>?_) (fun B=>?_);·
   refine A0<|A4 Y<|AJ<|Zt<|Ac<|Zt<|Zt<|Ac<|Zt<|AO rfl en Y (by exact ⟨by rw [Cd (fun h9:EM p cs=>B (h9.all i x hx))],rfl⟩)
  refine AC<|Zx<|A0<|Zm Y<|Zv (DK (n:=0) Y Y)<|A5<|Aq Y (fun X=>?_) (fun X=>?_);·
   refine Zq ?_;obtain ⟨y,hy⟩:∃y,cs[i -1]?=some y:=⟨_,B7 A1⟩;obtain ⟨g2,gq,O,T2,d9,e2,ax,gm,U⟩:=hg (i -1) y hy;injection e2 with e2
   injection e2 with e21 e22
   subst e21 e22;refine Zg<|Zh 1 Ge V rfl Lq Y<|Zl N4 Y<|Zm Y<|Yb (n:=1) Y Y ?_;refine BV (Ad GF C7 Y Y A1)<|CG (cs:=[(g,.cells O T2 d9)]) (by simp [ax]) (AA (cs:=y.A96) G2 C7 Y A1 U) V rfl<|Ze (Al MA #[_,_,_,_,_,_,_,_,_,_])<|AG fun b3=>Xe (Xw C7 _)<|A5<|A0<|Zh 0 C0 V rfl A6 Y<|Zl AF Y<|Zh 0 C0 V rfl A6 Y<|Zl AF Y<|Zv (Et Y Y)<|Zm Y<|Aj (t:=45) Y V (fun bn=>?_) (fun bn=>?_);·
    refine A7 Y V<|A7 Y V<|A7 Y V<|A7 Y V<|A7 Y V<|A7 Y V<|A7 Y V<|A7 Y V<|A7 Y V<|A7 Y V<|A7 Y V<|A7 Y V<|Zv (AV Y Y)<|Z0<|Zn [1,3,58] ?_;refine Zx<|Co Y<|A0<|A4 Y<|AJ<|Ac<|Zt<|Zt<|Ac<|Zt<|AO rfl en Y (by exact ⟨by rw [Cd (fun h9:EM p cs=>by have J:=h9.ord (i -1) y x hy (by rw [show i -1+1=i by omega];exact hx);unfold Chg.lt at J;omega)],rfl⟩)
   refine Yf 0 C0 V rfl A6 Y<|Yl AF Y<|Yf 0 C0 V rfl A6 Y<|Yl AF Y<|Yg (CK Y Y)<|Zf Y Y<|Aj (t:=51) Y V (fun cu=>?_) (fun cu=>?_);·
    refine Yf 1 C0 V rfl A6 Y<|Yl AF Y<|Yf 1 C0 V rfl A6 Y<|Yl AF Y<|Yg (He Y Y)<|Yg (AV Y Y)<|Zv (AL Y Y)<|Z0<|Zn [1,3,58] ?_;refine Zx<|Aq Y (fun cO=>?_) (fun cO=>?_);·
     refine A0<|A4 Y<|AJ<|Ac<|Zt<|Zt<|Ac<|Zt<|AO rfl en Y (by exact ⟨by rw [Cd (fun h9:EM p cs=>by have J:=h9.ord (i -1) y x hy (by rw [show i -1+1=i by omega];exact hx);unfold Chg.lt at J;omega)],rfl⟩)
    refine AC<|A8<|Zx<|Zg<|Zm Y<|Ya (n:=1) Y Y<|AN Y<|Zn [3,1] ?_;refine Ab (e':=[(3,_)]) (by exact ⟨i+1,V,⟨by omega,Mf G hx (HL.1 B),M9 I hx (by(right;refine ⟨y,hy,?_⟩;unfold Chg.lt;omega))⟩,V,V⟩)
   refine A7 Y V<|A7 Y V<|A7 Y V<|A7 Y V<|A7 Y V<|Yg (AL Y Y)<|Zv (AL Y Y)<|Z0<|Zn [1,3,58] ?_;refine Zx<|D9 Y<|AC<|A8<|Zx<|Zg<|Zm Y<|Ya (n:=1) Y Y<|AN Y<|Zn [3,1] ?_;refine Ab (e':=[(3,_)]) (by exact ⟨i+1,V,⟨by omega,Mf G hx (HL.1 B),M9 I hx (by(right;refine ⟨y,hy,?_⟩;unfold Chg.lt;omega))⟩,V,V⟩)
  refine AC<|A8<|Zx<|Zg<|Zm Y<|Ya (n:=1) Y Y<|AN Y<|Zn [3,1] ?_;refine Ab (e':=[(3,_)]) (by exact ⟨i+1,V,⟨by omega,Mf G hx (HL.1 B),M9 I hx (by(left;omega))⟩,V,V⟩)
 refine Ay<|Zt<|Zt<|AR<|Zx<|A0<|A4 Y<|AJ<|AO rfl en Y (by exact ⟨by rw [DE (⟨by omega,by omega,fun j c hc=>G j c (by have:=(C4.1 hc).1;omega) hc,fun j b c hb hc=>I j b c (by have:=(C4.1 hc).1;omega) hb hc⟩:EM p cs)],rfl⟩)
def jH(M:List A9)(v:A3)(rs:List AX):Prop:=∃p cap,v= .slice p rs.length cap/\rs.length<=maxLen/\∀(i:Nat) (r:AX),rs[i]?=some r->∃g off cur T zz,p=some ⟨g,off,none⟩/\(g,Obj.cells cur T zz)∈M/\off+i*5+5<=cur.size/\cur.extract (off+i*5) (off+i*5+5)=r.A97
variable{cur:AH}
theorem UD{cs:AH}{a n j:Nat}{v:A3}(h:cur.extract a (a+n)=cs)(hv:cs[j]?=some v):cur[a+j]?=some v:=by
 rw [<-h,eA]at hv;split at hv;· exact hv
 · cases hv
def AX.lt2(r:AX)(t k:Int):Prop:=r.t<t\/r.t=t/\r.k<k
instance(r:AX)(t k:Int):Decidable (r.lt2 t k):=inferInstanceAs(Decidable (_\/_))
def AX.is(r:AX)(t k:Int):Prop:=r.t=t/\r.k=k
instance(r:AX)(t k:Int):Decidable (r.is t k):=inferInstanceAs(Decidable (_/\_))
def BQ(rs:List AX):Prop:=rs.Pairwise (fun a b=>a.lt2 b.t b.k)
def EA(rs:List AX)(t k:Int):Nat:=(rs.takeWhile (fun r=>decide (r.lt2 t k))).length
theorem Vk:∀{rs:List AX} {t k:Int} {m:Nat},m<=rs.length->(∀(i:Nat) (r:AX),i<m->rs[i]?=some r->r.lt2 t k)->(∀(i:Nat) (r:AX),m<=i->rs[i]?=some r->¬r.lt2 t k)->EA rs t k=m
 |[],t,k,m,hm,_,_=>by simp only [LI]at hm;simp [EA];omega
 |r::rs,t,k,0,_,_,h2=>by unfold EA;rw [Q1,An (by simpa using h2 0 r A1 rfl)];rfl
 |r::rs,t,k,m+1,hm,h1,h2=>by
  unfold EA;rw [Q1,Ax (by simpa using h1 0 r A1 rfl),Dd];exact congrArg (·+1) (Vk (by simpa using hm) (fun i x hi hx=>h1 (i+1) x A1 hx) (fun i x hi hx=>h2 (i+1) x A1 hx))
variable{k t:Int}
theorem QX{a b:AX}(h:a.lt2 b.t b.k)(g:b.lt2 t k):a.lt2 t k:=by unfold AX.lt2 at*;omega
variable{rs:List AX}
theorem VP(h:BQ rs){j:Nat}{a b:AX}(g:i<j)(m:rs[i]?=some a)(B:rs[j]?=some b):a.lt2 b.t b.k:=by
 obtain ⟨hi,rfl⟩:=C4.1 m;obtain ⟨G,rfl⟩:=C4.1 B;exact fS.1 h i j hi G g
variable{x:AX}
theorem WZ(h:BQ rs){m:Nat}(hx:rs[m]?=some x)(B:x.lt2 t k):∀(i:Nat) (r:AX),i<m+1->rs[i]?=some r->r.lt2 t k:=by
 intro i r hi g;rcases E4 i m with h9|h9
 · exact QX (VP h h9 g hx) B
 · rw [show i=m by omega,hx]at g;injection g with g;rw [<-g];exact B
theorem Wi(h:BQ rs){m:Nat}(hx:rs[m]?=some x)(B:¬x.lt2 t k):∀(i:Nat) (r:AX),m<=i->rs[i]?=some r->¬r.lt2 t k:=by
 intro i r hi g hc;rcases E4 m i with h9|h9
 · exact B (QX (VP h h9 hx g) hc)
 · rw [show i=m by omega,hx]at g;injection g with g;rw [<-g]at hc;exact B hc
theorem Z7(Z:Nat)(q:B6)(cap:Nat)(p t k:Int)(rs:List AX)(M:List A9)(hO:jH M (.slice q rs.length cap) rs)(hn:rs.length<=1000000)(J:BQ rs):BB prog 64 #[I5 Z,I4 t,I4 k] [[(Z,.cells #[.slice q rs.length cap,I4 p] 76 (0,0))],M] (I4 (EA rs t k:Int)):=by
 have bn:=mL;obtain ⟨p9,X,e9,cu,hg⟩:=hO;injection e9 with e91 e92 e93
 subst e91 e93;refine Se func64 ntmps64 [0,1,2] ?_;intro u R;refine A0<|A4 Y<|A0<|A4 Y<|A0<|Zm Y<|Zp Y V<|Zh 0 J1 V rfl CI Y<|Zl Fm Y ?_;refine Zv (AY BE Y)<|A4 Y<|Zq<|AQ<|Zb [7,8,0,1,2] ?_;refine BA (e0:=[(7,_),(8,_)]) (fun m e H=>∃(lo hi:Nat),m=hi -lo/\(lo<=hi/\hi<=rs.length/\(∀(i:Nat) (r:AX),i<lo->rs[i]?=some r->r.lt2 t k)/\(∀(i:Nat) (r:AX),hi<=i->rs[i]?=some r->¬r.lt2 t k))/\e=[(7,I4 (lo:Int)),(8,I4 (hi:Int))]/\H=[]) (by exact ⟨0,rs.length,V,⟨by omega,by omega,by intro i r hi;omega,by intro i r hi W;have:=(C4.1 W).1;omega⟩,V,V⟩) Wp ?_;rintro _ _ _ ⟨lo,hi,rfl,⟨ax,af,G,B⟩,rfl,rfl⟩;refine Zq<|A0<|Zm Y<|Zm Y<|Zv (Au Y Y)<|A5<|Aq Y (fun O=>?_) (fun O=>?_);·
  refine AC<|Zx<|AQ<|A0<|Zm Y<|Zm Y<|Ya Y Y ?_
  (refine BV (KQ (n:=2) Y Y ?_ ?_) ?_;(focus (omega));(focus (omega)))
  refine A4 Y<|Zq ?_;obtain ⟨x,hx⟩:∃x,rs[(lo+hi)/2]?=some x:=⟨_,B7 A1⟩;obtain ⟨g,off,cur,T,zz,rfl,U,cO,I⟩:=hg _ x hx;refine Zg<|Zm Y<|Zp Y V<|Zh 0 J1 V rfl CI Y<|Zl Fm Y ?_;refine Zm Y<|BV (Ad BE B0 Y Y A1)<|Zv (Ar (off:=0) G0 V rfl A6 Y)<|CG (cs:=[(g,.cells cur T zz)]) (by simp [U]) (BO AF Y (UD (j:=0) I V)) V rfl ?_;refine Zm Y<|Zv (Dw Y Y)<|Zm Y<|Aj (t:=32) Y V (fun h1=>?_) (fun h1=>?_);·
   refine A7 Y V<|A7 Y V<|A7 Y V<|A7 Y V<|A7 Y V<|A7 Y V<|A7 Y V<|A7 Y V<|A7 Y V<|A7 Y V<|A7 Y V<|A7 Y V<|A7 Y V<|A7 Y V<|A7 Y V<|A7 Y V<|A7 Y V<|A7 Y V<|A7 Y V<|A7 Y V<|A7 Y V<|A7 Y V<|Zv (AV Y Y)<|Z0<|Zn [0,1,2,7,8,9,55] ?_;refine Zx<|Co Y<|Zg<|Zm Y<|Ya (n:=1) Y Y<|AN Y<|A8<|Zn [7,8,0,1,2] ?_;refine Ab (e':=[(7,_),(8,_)]) (by exact ⟨(lo+hi)/2+1,hi,V,⟨by omega,by omega,WZ J hx (by unfold AX.lt2;omega),B⟩,V,V⟩)
  refine Zf Y Y<|Yg (Ap Y V)<|Yf 0 J1 V rfl CI Y<|Yl Fm Y ?_;refine Zf Y Y ?_
  (refine Gx Y (Ad BE B0 Y Y ?_) rfl rfl ?_;(focus (omega)))
  refine Yg (Ar (off:=0) G0 V rfl A6 Y)<|MF Y (cs:=[(g,.cells cur T zz)]) (by simp [U]) (BO AF Y (UD (j:=0) I V)) V rfl ?_;refine Zf Y Y<|Yg (CK Y Y)<|Zf Y Y ?_;refine Aj (t:=43) Y V (fun h2=>?_) (fun h2=>?_);·
   refine Zf Y Y<|Yg (Ap Y V)<|Yf 0 J1 V rfl CI Y<|Yl Fm Y ?_;refine Zf Y Y ?_
   (refine Gx Y (Ad BE B0 Y Y ?_) rfl rfl ?_;(focus (omega)))
   refine Yg (Ar (off:=1) G0 V rfl A6 Y)<|MF Y (cs:=[(g,.cells cur T zz)]) (by simp [U]) (BO AF Y (UD (j:=1) I V)) V rfl ?_;refine Zf Y Y<|Yg (Dw Y Y)<|Yg (AV Y Y)<|Zv (AL Y Y)<|Z0<|Zn [0,1,2,7,8,9,55] ?_;refine Zx<|Aq Y (fun h3=>?_) (fun h3=>?_);·
    refine Zg<|Zm Y<|Ya (n:=1) Y Y<|AN Y<|A8<|Zn [7,8,0,1,2] ?_;refine Ab (e':=[(7,_),(8,_)]) (by exact ⟨(lo+hi)/2+1,hi,V,⟨by omega,by omega,WZ J hx (by unfold AX.lt2;omega),B⟩,V,V⟩)
   refine Zg<|Zm Y<|AN Y<|A8<|Zn [7,8,0,1,2] ?_;refine Ab (e':=[(7,_),(8,_)]) (by exact ⟨lo,(lo+hi)/2,V,⟨by omega,by omega,G,Wi J hx (by unfold AX.lt2;omega)⟩,V,V⟩)
  refine A7 Y V<|A7 Y V<|A7 Y V<|A7 Y V<|A7 Y V<|A7 Y V<|A7 Y V<|A7 Y V<|A7 Y V<|A7 Y V<|Yg (AL Y Y)<|Zv (AL Y Y)<|Z0<|Zn [0,1,2,7,8,9,55] ?_;refine Zx<|D9 Y<|Zg<|Zm Y<|AN Y<|A8<|Zn [7,8,0,1,2] ?_;refine Ab (e':=[(7,_),(8,_)]) (by exact ⟨lo,(lo+hi)/2,V,⟨by omega,by omega,G,Wi J hx (by unfold AX.lt2;omega)⟩,V,V⟩)
 refine Ay<|Zt<|Zt<|AR<|Zx<|A0<|Zm Y<|A4 Y<|AJ<|AO rfl results64 Y (by exact ⟨by rw [Vk A1 G (fun i r hi W=>B i r A1 W)],rfl⟩)
def Fs(rs:List AX)(t k:Int):AX×Bool:=match rs[EA rs t k]?with
 |some r=>if r.is t k then(r,true)else(AX.zero,false)
 |none=>(AX.zero,false)
theorem Vl(rs:List AX)(t k:Int):EA rs t k<=rs.length:=by unfold EA;exact List.IsPrefix.length_le (List.takeWhile_prefix _)
theorem o6(hx:rs[EA rs t k]?=some x)(g:x.t=t)(h2:x.k=k):Fs rs t k=(x,true):=by unfold Fs;rw [hx];exact Ax ⟨g,h2⟩
theorem kJ(hx:rs[EA rs t k]?=some x)(h:¬(x.t=t/\x.k=k)):Fs rs t k=(AX.zero,false):=by unfold Fs;rw [hx];exact An h
theorem uj(h:¬EA rs t k<rs.length):Fs rs t k=(AX.zero,false):=by unfold Fs;rw [MY A1]
theorem rO(J:Nat)(q:B6)(cap:Nat)(p t k:Int)(rs:List AX)(M:List A9)(U:jH M (.slice q rs.length cap) rs)(hn:rs.length<=1000000)(hs:BQ rs):BB prog 23 #[I5 J,I4 t,I4 k] [[(J,.cells #[.slice q rs.length cap,I4 p] 76 (0,0))],M] (.tuple #[.agg #[I4 (Fs rs t k).1.t,I4 (Fs rs t k).1.k,I4 (Fs rs t k).1.v.a,I4 (Fs rs t k).1.v.b,I4 (Fs rs t k).1.v.c],.bool (Fs rs t k).2]):=by
 have G:=id U;have af:=mL
 obtain ⟨p9,O,Z,ax,hg⟩:=U;injection Z with e91 e92 e93
 subst e91 e93;have bn:=Vl rs t k
 refine Se func23 ntmps23 [0,1,2] ?_;intro u R;refine A0<|Ze (Al F0 #[_,_,_,_,_])<|AG fun b1=>A4 Y<|A0<|Zm Y<|Zm Y<|Zm Y<|Xr [_,_,_] Y call64 Y V (Z7 J _ _ p t k rs M G hn hs)<|A4 Y<|Zq<|A0<|Zm Y<|Zm Y<|Zp Y V<|Zh 0 J1 V rfl CI Y<|Zl Fm Y<|Zv (AY BE Y)<|Zv (Au Y Y)<|Zm Y<|Aj (t:=20) Y V (fun B=>?_) (fun B=>?_);·
  obtain ⟨x,hx⟩:∃x,rs[EA rs t k]?=some x:=⟨_,B7 B⟩;obtain ⟨g,off,cur,T,zz,rfl,I,cu,m⟩:=hg _ x hx;refine Zf Y Y<|Yg (Ap Y V)<|Yf 0 J1 V rfl CI Y<|Yl Fm Y<|Zf Y Y<|Gx Y (Ad BE B0 Y Y A1) V rfl ?_;refine Yg (Ar (off:=0) G0 V rfl A6 Y)<|MF Y (cs:=[(g,.cells cur T zz)]) (by simp [I]) (BO AF Y (UD (j:=0) m V)) V rfl ?_;refine Zf Y Y<|Yg (CK Y Y)<|Zv (AV Y Y)<|Zm Y<|Aj (t:=32) Y V (fun X=>?_) (fun X=>?_);·
   refine Zf Y Y<|Yg (Ap Y V)<|Yf 0 J1 V rfl CI Y<|Yl Fm Y<|Zf Y Y<|Gx Y (Ad BE B0 Y Y A1) V rfl ?_;refine Yg (Ar (off:=1) G0 V rfl A6 Y)<|MF Y (cs:=[(g,.cells cur T zz)]) (by simp [I]) (BO AF Y (UD (j:=1) m V)) V rfl ?_;refine Zf Y Y<|Yg (CK Y Y)<|Zv (AV Y Y)<|Z0<|Zn [0,6,8,43] ?_;refine Zx<|Aq Y (fun W=>?_) (fun W=>?_);·
    refine A0<|Zm Y<|Zp Y rfl<|Zh 0 J1 rfl rfl CI Y<|Zl Fm Y<|Zm Y<|BV (Ad BE B0 Y Y A1)<|CG (cs:=[(g,.cells cur T zz)]) (by simp [I]) (AA (cs:=x.A97) D0 B0 Y A1 m) rfl rfl<|Xe (Xw B0 _)<|A4 Y<|AJ<|Zt<|Bj rfl results23 Y Wh (Am D0 B0 Wn (rfl)) Y (by exact ⟨by rw [o6 hx X W];rfl,rfl⟩)
   refine AC<|Zx<|A0<|Zv (BL (vs:=[]) (cs:=#[_,_,_,_,_]) Y (AZ (pl:=#[(0,1),(1,1),(2,3)]) F0 G0 (fun _=>by kernel_rfl) V))<|Xe (Xw B0 _)<|A4 Y<|AJ<|Bj V results23 Y Wh (Am D0 B0 Wn (V)) Y (by exact ⟨by(rw [kJ hx A1];rfl),V⟩)
  refine A7 Y V<|A7 Y V<|A7 Y V<|A7 Y V<|A7 Y V<|A7 Y V<|A7 Y V<|A7 Y V<|A7 Y V<|A7 Y V<|Zv (AL Y Y)<|Z0<|Zn [0,6,8,43] ?_;refine Zx<|D9 Y<|AC<|Zx<|A0<|Zv (BL (vs:=[]) (cs:=#[_,_,_,_,_]) Y (AZ (pl:=#[(0,1),(1,1),(2,3)]) F0 G0 (fun _=>by kernel_rfl) V))<|Xe (Xw B0 _)<|A4 Y<|AJ<|Bj V results23 Y Wh (Am D0 B0 Wn (V)) Y (by exact ⟨by(rw [kJ hx A1];rfl),V⟩)
 refine A7 Y V<|A7 Y V<|A7 Y V<|A7 Y V<|A7 Y V<|A7 Y V<|A7 Y V<|A7 Y V<|A7 Y V<|A7 Y V<|Zv (AL Y Y)<|Zm Y<|A7 Y V<|A7 Y V<|A7 Y V<|A7 Y V<|A7 Y V<|A7 Y V<|A7 Y V<|A7 Y V<|A7 Y V<|A7 Y V<|Zv (AL Y Y)<|Z0<|Zn [0,6,8,43] ?_;refine Zx<|D9 Y<|AC<|Zx<|A0<|Zv (BL (vs:=[]) (cs:=#[_,_,_,_,_]) Y (AZ (pl:=#[(0,1),(1,1),(2,3)]) F0 G0 (fun _=>by kernel_rfl) V))<|Xe (Xw B0 _)<|A4 Y<|AJ<|Bj V results23 Y Wh (Am D0 B0 Wn (V)) Y (by exact ⟨by(rw [uj B];rfl),V⟩)
def out(lo hi n:Int):Bool:=decide (n<lo)||decide (hi<n)
def LW(cur:AH)(o:Nat)(ns:List Int):Prop:=∀(i:Nat) (n:Int),ns[i]?=some n->cur[o+i]?=some (I4 n)
theorem pO(p:Int->Bool)(ls:List Int)(i:Nat)(x:Int)(h:ls[i]?=some x):(ls.take (i+1)).any p=((ls.take i).any p||p x):=by
 rw [RK,h];simp
theorem A05(p:Int->Bool)(ls:List Int)(i:Nat)(x:Int)(h:ls[i]?=some x)(hx:p x=true):ls.any p=true:=by
 rw [n4];exact ⟨x,Dg h,hx⟩
theorem tI(lp m:Nat)(n lo hi:Int):BB prog 153 #[I4 n,I5 lp,I5 m] [[(lp,.cells #[I4 lo] 3 (0,0))],[(m,.cells #[I4 hi] 3 (0,0))]] (.bool (out lo hi n)):=by
 refine Se func153 ntmps153 [0,1,2] ?_;intro u R;refine A0<|A4 Y<|A0<|Zm Y<|Zl AF Y ?_;refine Zv (Dw Y Y)<|Zm Y<|Aj (t:=8) Y V (fun g=>?_) (fun g=>?_);·
  refine A7 Y V<|A7 Y V<|A7 Y V<|Zv (AV Y Y)<|A4 Y<|AJ<|AO V results153 Y (by exact ⟨by simp [out,g],V⟩)
 refine Zf Y Y<|Yl AF Y ?_;refine Yg (Et Y Y)<|Zv (AL Y Y)<|A4 Y<|AJ<|AO V results153 Y (by exact ⟨by simp [out,g],V⟩)
theorem iC(lp J g off cap:Nat)(lo hi:Int)(cur:AH)(T:AK)(z:Nat×Nat)(ls:List Int)(O:LW cur off ls)(hn:ls.length<=1073741824):
 BZ prog 206 #[.slice (some ⟨g,off,none⟩) ls.length cap,.func (.func 153) #[] #[I5 lp,I5 J]] [[(lp,.cells #[I4 lo] 3 (0,0))],[(J,.cells #[I4 hi] 3 (0,0))],[(g,.cells cur T z)]] (fun r H'=>∃k:Int,r=I4 k/\decide (0<=k)=ls.any (out lo hi)/\H'=[[(lp,.cells #[I4 lo] 3 (0,0))],[(J,.cells #[I4 hi] 3 (0,0))],[(g,.cells cur T z)]]):=by
 refine Se func206 ntmps206 [0,1] ?_;intro u R;refine A0<|A4 Y<|Zq<|A0<|Zm Y<|Zv (AY DH Y)<|Zm Y<|A5<|AQ<|Zb [8,0,1,7] ?_;refine BA (e0:=[(8,_)]) (fun m e H=>∃(i:Nat),m=ls.length -i/\(i<=ls.length/\(ls.take i).any (out lo hi)=false)/\e=[(8,I4 (i:Int))]/\H=[]) (by exact ⟨0,V,⟨C5 _,V⟩,V,V⟩) Wp ?_;rintro _ _ _ ⟨i,rfl,⟨W,B⟩,rfl,rfl⟩;refine A0<|Zv (Au Y Y)<|A5<|Zq<|Aq Y (fun I=>?_) (fun I=>?_);·
  refine AC<|Zx<|Zq<|AQ<|A0<|Zm Y<|A4 Y<|Zq ?_;obtain ⟨x,hx⟩:∃x,ls[i]?=some x:=⟨_,B7 I⟩;refine Zg<|Zm Y<|Zm Y<|Zm Y<|BV (CF DH A6 Y Y A1)<|Zl AF Y (hv:=by exact O i x hx)<|Xr [_] Y call153 Y V (tI lp J x lo hi)<|A5<|AU Y (fun G=>?_) (fun G=>?_);·
   refine A0<|Zm Y<|A4 Y<|AJ<|Ac<|Zt<|Zt<|Ac<|Zt<|AO rfl results206 Y (by exact ⟨(i:Int),rfl,by rw [A05 _ ls i x hx G];exact DE A1,rfl⟩)
  refine AC<|A8<|Zx<|Zg<|Ya (n:=1) Y Y<|Zm Y<|Z0<|Zn [8,0,1,7] ?_;refine Ab (e':=[(8,_)]) (by exact ⟨i+1,rfl,⟨by omega,by rw [pO _ ls i x hx,B];exact G⟩,rfl,rfl⟩)
 have U:i=ls.length:=by omega
 subst U;rw [GS]at B;refine Ay<|Zt<|Zt<|AR<|Zx<|A0<|A4 Y<|AJ<|AO rfl results206 Y (by exact ⟨-1,rfl,by rw [B];rfl,rfl⟩)
theorem Uv(lp B g off cap:Nat)(lo hi:Int)(cur:AH)(T:AK)(z:Nat×Nat)(ls:List Int)(m:LW cur off ls)(hn:ls.length<=1073741824):
 BB prog 152 #[.slice (some ⟨g,off,none⟩) ls.length cap,.func (.func 153) #[] #[I5 lp,I5 B]] [[(lp,.cells #[I4 lo] 3 (0,0))],[(B,.cells #[I4 hi] 3 (0,0))],[(g,.cells cur T z)]] (.bool (ls.any (out lo hi))):=by
 refine Se func152 ntmps152 [0,1] ?_;intro u R;refine A0<|A4 Y<|A0<|Zm Y<|Zm Y<|Zc [_,_] Y call206 Y V (iC lp B g off cap lo hi cur T z ls m hn) ?_;rintro _ _ ⟨_,⟨k,rfl,G,rfl⟩,rfl⟩;refine Zv (He Y Y)<|A4 Y<|AJ<|AO rfl results152 Y (by exact ⟨by rw [<-G],rfl⟩)
theorem VQ(g off cap:Nat)(lo hi:Int)(cur:AH)(T:AK)(z:Nat×Nat)(ls:List Int)(m:LW cur off ls)(hn:ls.length<=1073741824):
 BB prog 96 #[I4 lo,I4 hi,.slice (some ⟨g,off,none⟩) ls.length cap] [[(g,.cells cur T z)]] (.bool (!(ls.any (out lo hi)))):=by
 refine Se func96 ntmps96 [0,1,2] ?_;intro u R;refine A0<|Ze (Bx #[_])<|AG fun B=>Ze (Bx #[_])<|AG fun G=>A4 Y<|A0<|Zm Y<|Zv (Bh (vs:=[]) (us:=[_,_]) Y Y)<|Xr [_,_] Y call152 Y V (Uv _ _ g off cap lo hi cur T z ls m hn)<|Zv (Br Y)<|A4 Y<|AJ<|AO V results96 Y (by exact ⟨V,V⟩)
def EP(c:Chg)(th:Bool)(v:V3):AX:=if th then⟨c.t,c.k,v⟩else AX.zero
variable{v:V3}
theorem ug{g:Bool}(h:g=true):EP c g v=⟨c.t,c.k,v⟩:=Ax h
theorem u5{g:Bool}(h:g=false):EP c g v=AX.zero:=An (by rw [h];decide)
theorem jg(lo hi n:Int):(!(([n]:List Int).any (out lo hi)))=decide (lo<=n/\n<=hi):=by
 simp only [nj,nn,fk,out];by_cases g:n<lo<;>by_cases h2:hi<n<;>simp [g,h2]<;>omega
theorem tk(v:V3):(!(([v.a,v.b,v.c]:List Int).any (out (-1000000000) 1000000000)))=decide v.ok:=by
 have h:∀n,out (-1000000000) 1000000000 n=!decide (inV n):=by
  intro n;have:=jg (-1000000000) 1000000000 n
  simp only [nj,nn,fk]at this;rw [<-Bool.not_not (out _ _ n),this];rfl
 simp only [nj,nn,fk,h,V3.ok];by_cases g:inV v.a<;>by_cases h2:inV v.b<;>by_cases m:inV v.c<;>simp [g,h2,m]
theorem x7{n:Int}(h:cur[o]?=some (I4 n)):LW cur o [n]:=by
 intro i x hx;rcases i with _|i
 · injection hx with hx;rw [<-hx];exact h
 · cases hx
theorem x6(h0:cur[o]?=some (I4 v.a))(g:cur[o+1]?=some (I4 v.b))(h2:cur[o+2]?=some (I4 v.c)):LW cur o [v.a,v.b,v.c]:=by
 intro i x hx;rcases i with _|_|_|i
 · injection hx with hx;rw [<-hx];exact h0
 · injection hx with hx;rw [<-hx];exact g
 · injection hx with hx;rw [<-hx];exact h2
 · cases hx
theorem Ko(g off cap:Nat)(lo hi:Int)(cur:AH)(T:AK)(z:Nat×Nat)(n:Int)(h:cur[off]?=some (I4 n)):
 BB prog 96 #[I4 lo,I4 hi,.slice (some ⟨g,off,none⟩) 1 cap] [[(g,.cells cur T z)]] (.bool (decide (lo<=n/\n<=hi))):=by
 rw [<-jg];exact VQ g off cap lo hi cur T z [n] (x7 h) B4
theorem eH(g off cap:Nat)(cur:AH)(T:AK)(z:Nat×Nat)(v:V3)(h:LW cur off [v.a,v.b,v.c]):
 BB prog 96 #[I4 (-1000000000),I4 1000000000,.slice (some ⟨g,off,none⟩) 3 cap] [[(g,.cells cur T z)]] (.bool (decide v.ok)):=by
 rw [<-tk];exact VQ g off cap _ _ cur T z [v.a,v.b,v.c] h B4
theorem XE(c:Chg)(m:Bool)(v:V3):BB prog 191 #[.agg c.A96,.bool m,.agg #[I4 v.a,I4 v.b,I4 v.c]] [] (.tuple #[.agg #[I4 (EP c m v).t,I4 (EP c m v).k,I4 (EP c m v).v.a,I4 (EP c m v).v.b,I4 (EP c m v).v.c],.bool m]):=by
 refine Se func191 ntmps191 [0,1,2] ?_;intro u R;refine A0<|Ze (Bx #[_,_,_,_,_,_,_,_,_,_])<|AG fun B=>Ze (Bx #[_,_,_])<|AG fun G=>Ze (Al F0 #[_,_,_,_,_])<|AG fun I=>A4 Y<|Zq<|A0<|Zm Y<|Zv (Br Y)<|A5<|AU Y (fun g=>?_) (fun g=>?_);·
  refine A0<|Zv (BL (vs:=[]) (cs:=#[_,_,_,_,_]) Y (AZ (pl:=#[(0,1),(1,1),(2,3)]) F0 G0 (fun _=>by kernel_rfl) V))<|Xe (Xw B0 _) ?_;refine A4 Y<|AJ<|Zt<|Bj V results191 Y Wh (Am D0 B0 Wn (V)) Y (by simp only [fX,SR,eK]at g;exact ⟨by(rw [u5 g,g];rfl),V⟩)
 refine AC<|Zx<|A0<|Zh 0 C0 V rfl A6 Y<|Zl AF Y ?_;refine Zh 1 C0 V rfl A6 Y<|Zl AF Y ?_;refine Zo Wh (Pa #[_,_,_] HB DO Y) ?_;refine Zv (BL (vs:=[(0,_),(1,_),(2,_)]) (cs:=#[_,_,_,_,_]) Y (AZ (pl:=#[(0,1),(1,1),(2,3)]) F0 G0 (fun _=>by kernel_rfl) rfl))<|Xe (BM B0 Y Y (by(simp [Value.oneCell',Value.cells];done)) Wu As Fc Wn (by exact BC _)) ?_;refine AN Y<|Zn [6,7] ?_;refine Zx<|AJ<|Bj V results191 Y Wh (Am D0 B0 Wn (V)) Y (by simp only [fX,SR,eK]at g;exact ⟨by(rw [ug g,g];rfl),V⟩)
theorem Sb(r:AX):BB prog 207 #[.agg r.A97] [] (.bool (decide r.ok)):=by
 refine Se func207 ntmps207 [0] ?_;intro u R;refine A0<|Ze (Bx #[_,_,_,_,_])<|AG fun I=>A4 Y<|A0<|Zh 0 G0 V rfl A6 Y<|Zl AF Y<|Ze (Ai (vs:=[_]) (cs:=[_]) DH A6 HG Y V rfl V rfl V)<|AG fun J=>Xr [_,_,_] Y call96 Y V (Ko _ 0 1 _ _ _ _ _ r.t V)<|Zm Y<|Aj (t:=7) Y V (fun g=>?_) (fun g=>?_);·
  refine Yf 1 G0 V rfl A6 Y<|Yl AF Y<|Ze (Ai (vs:=[_]) (cs:=[_]) DH A6 HG Y V rfl V rfl V)<|AG fun O=>Xr [_,_,_] Y call96 Y V (Ko _ 0 1 _ _ _ _ _ r.k V)<|Zv (AV Y Y)<|Zm Y<|Aj (t:=13) Y V (fun m=>?_) (fun m=>?_);·
   refine Yf 2 G0 V rfl DO Y<|Yg (Io Hh A6 Y)<|Xr [_,_,_] Y call96 Y V (eH _ 2 3 _ _ _ r.v (x6 V rfl V))<|Zv (AV Y Y)<|AN Y<|Zn [2] ?_;refine Zx<|AJ<|AO V results207 Y (by exact ⟨by(simp_all [AX.ok];done),V⟩)
  refine A7 Y V<|A7 Y V<|A7 Y V<|Zv (AL Y Y)<|AN Y<|Zn [2] ?_;refine Zx<|AJ<|AO V results207 Y (by exact ⟨by(simp_all [AX.ok];done),V⟩)
 refine A7 Y V<|A7 Y V<|A7 Y V<|A7 Y V<|Zv (AL Y Y)<|Zm Y<|A7 Y V<|A7 Y V<|A7 Y V<|Zv (AL Y Y)<|AN Y<|Zn [2] ?_;refine Zx<|AJ<|AO rfl results207 Y (by exact ⟨by rw [Cd (fun h9:r.ok=>by have B:=h9.2.1;have G:=h9.2.2;omega)],rfl⟩)
theorem Yj(c:Chg)(g:Bool)(v:V3):BB prog 154 #[.agg c.A96,.bool g,.agg #[I4 v.a,I4 v.b,I4 v.c]] [] (.bool (if g then decide (EP c g v).ok else decide (v=V3.zero))):=by
 refine Se func154 ntmps154 [0,1,2] ?_;intro u R;refine A0<|Ze (Bx #[_,_,_,_,_,_,_,_,_,_])<|AG fun J=>Ze (Bx #[_,_,_])<|AG fun O=>A4 Y<|A0<|Zo Wh (Pa #[_,_,_,_,_,_,_,_,_,_] G2 C7 Y)<|Zm Y<|Zo Wh (Pa #[_,_,_] HB DO Y)<|Xr [_,_,_] Y call191 Y V (XE c g v)<|Zm Y<|Zd Y V<|Zd Y V<|Ze (Al F0 #[_,_,_,_,_])<|AG fun U=>Xe (Xw B0 _)<|AN Y<|Zn [1,5,7] ?_;refine Zx<|A0<|Zm Y<|Zm Y<|Ae (t:=17) Y V (fun m=>?_) (fun m=>?_);·
  refine Db Y Wh (Pa #[_,_,_,_,_] D0 B0 Y) V rfl<|Xr [_] Y call207 Y V (Sb _)<|Zv (AV Y Y)<|Zm Y<|Aj (t:=21) Y V (fun B=>?_) (fun B=>?_);·
   refine A7 Y V<|A7 Y V<|A7 Y V<|A7 Y V<|A7 Y V<|A7 Y V<|A7 Y V<|Zv (AV Y Y)<|AN Y<|Zn [6] ?_;refine Zx<|AJ<|AO V iS Y (by exact ⟨by simp_all,V⟩)
  refine Zf Y Y<|Yg (Br Y)<|Zf Y Y<|Ae (t:=24) Y V (fun G=>?_) (fun G=>?_);·
   refine Db Y Wh (Pa #[_,_,_] HB DO Y) V rfl<|Yg (BL (vs:=[]) (cs:=#[_,_,_]) Y (DI cy Hh A6 V)) ?_;refine Yg (Ib AE Hh CM AF A6 Y Y) ?_;refine Yg (AV Y Y)<|Zv (AL Y Y)<|AN Y<|Zn [6] ?_;refine Zx<|AJ<|AO V iS Y (by exact ⟨by simp_all,V⟩)
  refine A7 Y V<|A7 Y V<|A7 Y V<|Yg (AL Y Y)<|Zv (AL Y Y)<|AN Y<|Zn [6] ?_;refine Zx<|AJ<|AO V iS Y (by exact ⟨by simp_all,V⟩)
 refine A7 Y V<|A7 Y V<|Zv (AL Y Y)<|Zm Y<|Zf Y Y<|Yg (Br Y)<|Zf Y Y<|Ae (t:=24) Y V (fun I=>?_) (fun I=>?_);·
  refine Db Y Wh (Pa #[_,_,_] HB DO Y) V rfl<|Yg (BL (vs:=[]) (cs:=#[_,_,_]) Y (DI cy Hh A6 V)) ?_;refine Yg (Ib AE Hh CM AF A6 Y Y) ?_;refine Yg (AV Y Y)<|Zv (AL Y Y)<|AN Y<|Zn [6] ?_;refine Zx<|AJ<|AO V iS Y (by exact ⟨by simp_all,V⟩)
 refine A7 Y V<|A7 Y V<|A7 Y V<|Yg (AL Y Y)<|Zv (AL Y Y)<|AN Y<|Zn [6] ?_;refine Zx<|AJ<|AO V iS Y (by exact ⟨by simp_all,V⟩)
end Go.Proofs.YtfhjaegddfehhabGreatDoor
