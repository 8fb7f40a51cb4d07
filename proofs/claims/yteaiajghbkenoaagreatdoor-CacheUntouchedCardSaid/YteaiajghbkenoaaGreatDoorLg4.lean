/-
  DERIVED: THE SHELF's CONTRACTS AT THIS DUMP, IN PLAIN WORDS (tools/lay-plain.mjs out of 'TryzShelf.lean', which tools/lay-shelf.mjs wrote): THE SAME DECLARATIONS UNDER THE SAME NAMES: 'import', 'namespace', 'open', 'def', 'theorem' AND NOTHING ELSE: no command of the shelf's: FOR A HAND-IN. Each laying: the table of numbers ('.._ren') and one theorem, a field a fact of the dump's own or the kernel's comparison; each contract: ONE APPLICATION.
-/
/- Contracts: digest.marked, Chain. -/
/- Contracts: wire.groups, PutInt, PutString. Contracts: wire.PutString, Int, String. -/
/- Rows and changes in plain words; the reference of layer 3. -/
/- Records in plain words; ValidRecord of the reference. -/
/- The reference of layer 4: place, Get. -/
/- The program's layer 3: within. -/
import Derived.Test.YteaiajghbkenoaaGreatDoorEz
import Derived.Shelf.Strings.Builder1
import Derived.Shelf.Strings.Builder2
import Derived.Shelf.Strings.OnBuilder
import Derived.Shelf.Small.Bits
import Derived.Shelf.Small.Wraps
import Derived.Shelf.Strings.BuilderF
import Derived.Shelf.Strings.BuilderK
import Derived.Shelf.Strings.Builder2Cap
import Derived.Shelf.Strconv.Itoa0
import Derived.Shelf.Strconv.Itoa1
import Derived.Shelf.LaysM
import Derived.Shelf.Strconv.Itoa2
import Derived.Shelf.Strconv.Itoa3
import Derived.Shelf.Sort.Plain
import Derived.Shelf.Strings.BuilderCap
import Derived.Shelf.Slices.Equal
import Derived.Ground.Names2Prog
import Derived.Shelf.Slices.ReverseS
import Derived.Shelf.Slices.Clone
import Derived.Shelf.Slices.SearchI
import Derived.Shelf.Slices.Cells
import Derived.Shelf.Slices.In.SortNone
import Derived.Shelf.Slices.Empties2
import Derived.Ground.SlgnProg
import Derived.Shelf.SlicesE.Clone
import Derived.Test.YteaiajghbkenoaaGreatDoorProg
import Derived.Test.YteaiajghbkenoaaGreatDoorDg4
import Derived.Test.YteaiajghbkenoaaGreatDoorEx5
set_option linter.unusedVariables false
set_option linter.unusedSimpArgs false
namespace Go.Proofs
open Go.Shelf
def Tryz.lays156_ren:Go.Shelf.Ren:=⟨fun|156=>331|165=>344|166=>36|169=>40|240=>86|241=>349|276=>155|277=>350|n=>n,fun|31=>45|9=>9|3=>3|4=>4|0=>0|20=>20|72=>99|76=>102|70=>96|37=>97|75=>101|127=>173|164=>236|5=>5|80=>111|n=>n,fun|n=>n⟩
theorem Tryz.lays156:Go.Proofs.Lays.n156 prog Tryz.lays156_ren:={
 mixed:=by kernel_rfl
 f156:=func331.trans (congrArg some A6)
 f165:=func344.trans (congrArg some A6)
 f166:=func36.trans (congrArg some A6)
 f169:=func40.trans (congrArg some A6)
 f240:=func86.trans (congrArg some A6)
 f241:=func349.trans (congrArg some A6)
 f276:=func155.trans (congrArg some A6)
 f277:=func350.trans (congrArg some A6)
 t0:=cY
 a0:=isAgg0
 z0:=sizeOf0
 v0:=cn
 t3:=Cp
 a3:=AE
 z3:=A5
 v3:=H3
 t4:=NO
 a4:=E0
 z4:=CH
 v4:=V0
 t9:=GF
 a9:=HB
 z9:=F1
 v9:=HQ
 t20:=underlying20
 a20:=isAgg20
 z20:=sizeOf20
 v20:=zeroValue20
 t31:=Cd
 a31:=Kf
 z31:=HH
 v31:=US
 t37:=HD
 a37:=S7
 z37:=OK
 v37:=zeroValue97
 t70:=ef
 a70:=isAgg96
 z70:=sizeOf96
 v70:=zeroValue96
 t72:=S3
 a72:=isAgg99
 z72:=sizeOf99
 v72:=zeroValue99
 t75:=underlying101
 a75:=isAgg101
 z75:=sizeOf101
 v75:=zeroValue101
 t76:=underlying102
 a76:=isAgg102
 z76:=sizeOf102
 v76:=zeroValue102
 t127:=underlying173
 a127:=isAgg173
 z127:=sizeOf173
 v127:=zeroValue173
 t164:=underlying236
 a164:=isAgg236
 z164:=sizeOf236
 v164:=zeroValue236}
theorem Tryz.Builder_Extra_156:Builder.Extra prog Tryz.lays156_ren:={
 sizeBuilder:=by kernel_rfl
 liesBuilder:=by kernel_rfl
 t5:=Lq
 a5:=V1
 z5:=I2
 v5:=S5
 infoByte:=by kernel_rfl
 cellsByte:=by kernel_rfl
 sizeByte:=by kernel_rfl
 neB5:=by decide}
open Go.RowKit in
theorem Tryz.strings_Join(I o c:Nat)(xs:List ByteArray)(m:ByteArray)(w:World)(g:∀(j:Nat) x,xs[j]?=some x->w.cell? ⟨I,o+j,none⟩=some (.string x))(J:I<w.heap.size)(K:xs.length<=140737488355328)(B:xs.length<=c)(G:(Lib.join (xs.map (·.data.toList)) m.data.toList).length<=140737488355328):
 Calls prog 331 #[.slice (some ⟨I,o,none⟩) xs.length c,.string m] w fun e O=>e= .returned (.string ⟨(Lib.join (xs.map (·.data.toList)) m.data.toList).toArray⟩)/\Below w.heap.size w O:=Any.strings_Join Tryz.lays156 Tryz.Builder_Extra_156 I o c xs m w g J K B G
def Tryz.lays125_ren:Go.Shelf.Ren:=⟨fun|125=>117|128=>199|129=>200|n=>n,fun|46=>222|3=>3|51=>300|53=>302|4=>4|5=>5|9=>9|n=>n,fun|n=>n⟩
theorem Tryz.lays125:Go.Proofs.Lays.n125 prog Tryz.lays125_ren:={
 mixed:=by kernel_rfl
 f125:=func117.trans (congrArg some A6)
 f128:=func199.trans (congrArg some A6)
 f129:=func200.trans (congrArg some A6)
 t3:=Cp
 a3:=AE
 z3:=A5
 v3:=H3
 t4:=NO
 a4:=E0
 z4:=CH
 v4:=V0
 t5:=Lq
 a5:=V1
 z5:=I2
 v5:=S5
 t9:=GF
 a9:=HB
 z9:=F1
 v9:=HQ
 t46:=W4
 a46:=isAgg222
 z46:=fL
 v46:=eh
 t51:=Sp
 a51:=HR
 z51:=Fc
 v51:=el
 t53:=W5
 a53:=a6
 z53:=db
 v53:=en}
theorem Tryz.bits_Len(x:Int)(w:World)(h0:0<=x)(g:x<=18446744073709551615):
 Calls prog 117 #[.int .u64 x] w fun e m=>e= .returned (I4 (Lib.bitLen x.toNat))/\m=w:=Any.bits_Len Tryz.lays125 x w h0 g
def Tryz.lays122_ren:Go.Shelf.Ren:=⟨fun|122=>238|215=>281|n=>n,fun|3=>3|4=>4|n=>n,fun|n=>n⟩
theorem Tryz.lays122:Go.Proofs.Lays.n122 prog Tryz.lays122_ren:={
 mixed:=by kernel_rfl
 f122:=func238.trans (congrArg some A6)
 f215:=func281.trans (congrArg some A6)
 t3:=Cp
 a3:=AE
 z3:=A5
 v3:=H3
 t4:=NO
 a4:=E0
 z4:=CH
 v4:=V0}
open Go.RowKit in
theorem Tryz.cmp_Compare_int(x y:Int)(w:World):
 Calls prog 238 #[I4 x,I4 y] w fun e g=>e= .returned (I4 (Lib.compareInt x y))/\g=w:=Any.cmp_Compare_int Tryz.lays122 x y w
def Tryz.laysM171_ren:Go.Shelf.Ren:=⟨fun|171=>39|243=>87|246=>156|283=>213|284=>214|285=>215|286=>216|129=>200|317=>265|318=>266|319=>267|320=>268|337=>299|338=>300|n=>n,fun|3=>3|9=>9|2=>2|4=>4|171=>313|0=>0|53=>302|37=>97|5=>5|173=>315|212=>359|51=>300|20=>20|213=>360|46=>222|232=>426|233=>427|n=>n,fun|17=>1|18=>2|19=>3|n=>n⟩
theorem Tryz.laysM171:Go.Proofs.LaysM.n171 prog Tryz.laysM171_ren:={
 mixed:=by kernel_rfl
 f129:=func200.trans (congrArg some A6)
 f171:=func39.trans (congrArg some A6)
 f243:=func87.trans (congrArg some A6)
 f246:=func156.trans (congrArg some A6)
 f283:=func213.trans (congrArg some A6)
 f284:=func214.trans (congrArg some A6)
 f285:=func215.trans (congrArg some A6)
 f286:=func216.trans (congrArg some A6)
 f317:=func265.trans (congrArg some A6)
 f318:=func266.trans (congrArg some A6)
 f319:=func267.trans (congrArg some A6)
 f320:=func268.trans (congrArg some A6)
 f337:=func299.trans (congrArg some A6)
 f338:=func300.trans (congrArg some A6)
 t0:=cY
 a0:=isAgg0
 z0:=sizeOf0
 v0:=cn
 t2:=underlying2
 a2:=isAgg2
 z2:=sizeOf2
 v2:=zeroValue2
 t3:=Cp
 a3:=AE
 z3:=A5
 v3:=H3
 t4:=NO
 a4:=E0
 z4:=CH
 v4:=V0
 t5:=Lq
 a5:=V1
 z5:=I2
 v5:=S5
 t9:=GF
 a9:=HB
 z9:=F1
 v9:=HQ
 t20:=underlying20
 a20:=isAgg20
 z20:=sizeOf20
 v20:=zeroValue20
 t37:=HD
 a37:=S7
 z37:=OK
 v37:=zeroValue97
 t46:=W4
 a46:=isAgg222
 z46:=fL
 v46:=eh
 t51:=Sp
 a51:=HR
 z51:=Fc
 v51:=el
 t53:=W5
 a53:=a6
 z53:=db
 v53:=en
 t171:=underlying313
 a171:=isAgg313
 z171:=sizeOf313
 v171:=zeroValue313
 t173:=underlying315
 a173:=isAgg315
 z173:=sizeOf315
 v173:=zeroValue315
 t212:=underlying359
 a212:=isAgg359
 z212:=sizeOf359
 v212:=zeroValue359
 t213:=underlying360
 a213:=isAgg360
 z213:=sizeOf360
 t232:=underlying426
 a232:=isAgg426
 z232:=sizeOf426
 v232:=zeroValue426
 t233:=underlying427
 a233:=isAgg427
 z233:=sizeOf427
 v233:=zeroValue427
 g17:=by kernel_rfl
 g18:=by kernel_rfl
 g19:=by kernel_rfl
 i0:=by kernel_rfl
 i2:=by kernel_rfl
 i3:=by kernel_rfl
 i4:=by kernel_rfl
 i5:=by kernel_rfl
 i9:=by kernel_rfl
 i20:=by kernel_rfl
 i37:=by kernel_rfl
 i46:=by kernel_rfl
 i51:=by kernel_rfl
 i53:=by kernel_rfl
 i171:=by kernel_rfl
 i173:=by kernel_rfl
 i212:=by kernel_rfl
 i232:=by kernel_rfl
 i233:=by kernel_rfl
 m17:=by kernel_rfl
 m18:=by kernel_rfl
 m19:=by kernel_rfl}
open Go.RowKit Go.Sort Go.Lib in
theorem Tryz.strconv_Itoa(n:Int)(h0:-9223372036854775808≤n)(h1:n≤9223372036854775807)(w:World)(htab:Lib.TabIs prog w "internal/strconv.uint64pow10" .u64 Lib.pow10Tab):
 Calls prog 39 #[I4 n] w fun e w'=>e= .returned (.string ⟨(Lib.itoa n).toArray⟩)/\∃k os,w'=grow (w.drewN k) os:=Any.strconv_Itoa Tryz.laysM171 n h0 h1 w htab
def Tryz.lays189_ren:Go.Shelf.Ren:=⟨fun|189=>188|125=>117|257=>248|128=>199|129=>200|294=>284|295=>285|296=>286|297=>287|298=>288|299=>289|216=>290|300=>291|301=>292|328=>324|329=>250|330=>251|331=>325|332=>326|215=>281|343=>341|n=>n,fun|28=>36|3=>3|46=>222|0=>0|51=>300|53=>302|4=>4|183=>292|182=>291|131=>297|5=>5|9=>9|218=>348|222=>108|228=>385|229=>386|n=>n,fun|n=>n⟩
theorem Tryz.lays189:Go.Proofs.Lays.n189 prog Tryz.lays189_ren:={
 mixed:=by kernel_rfl
 f125:=func117.trans (congrArg some A6)
 f128:=func199.trans (congrArg some A6)
 f129:=func200.trans (congrArg some A6)
 f189:=func188.trans (congrArg some A6)
 f215:=func281.trans (congrArg some A6)
 f216:=func290.trans (congrArg some A6)
 f257:=func248.trans (congrArg some A6)
 f294:=func284.trans (congrArg some A6)
 f295:=func285.trans (congrArg some A6)
 f296:=func286.trans (congrArg some A6)
 f297:=func287.trans (congrArg some A6)
 f298:=func288.trans (congrArg some A6)
 f299:=func289.trans (congrArg some A6)
 f300:=func291.trans (congrArg some A6)
 f301:=func292.trans (congrArg some A6)
 f328:=func324.trans (congrArg some A6)
 f329:=func250.trans (congrArg some A6)
 f330:=func251.trans (congrArg some A6)
 f331:=func325.trans (congrArg some A6)
 f332:=func326.trans (congrArg some A6)
 f343:=func341.trans (congrArg some A6)
 t0:=cY
 a0:=isAgg0
 z0:=sizeOf0
 v0:=cn
 t3:=Cp
 a3:=AE
 z3:=A5
 v3:=H3
 t4:=NO
 a4:=E0
 z4:=CH
 v4:=V0
 t5:=Lq
 a5:=V1
 z5:=I2
 v5:=S5
 t9:=GF
 a9:=HB
 z9:=F1
 v9:=HQ
 t28:=D0
 a28:=cI
 z28:=de
 v28:=zeroValue36
 t46:=W4
 a46:=isAgg222
 z46:=fL
 v46:=eh
 t51:=Sp
 a51:=HR
 z51:=Fc
 v51:=el
 t53:=W5
 a53:=a6
 z53:=db
 v53:=en
 t131:=kq
 a131:=isAgg297
 z131:=sizeOf297
 v131:=lR
 t182:=kx
 a182:=isAgg291
 z182:=sizeOf291
 v182:=lf
 t183:=l3
 a183:=isAgg292
 z183:=sizeOf292
 v183:=lj
 t218:=l4
 a218:=isAgg348
 z218:=sizeOf348
 v218:=ln
 t222:=lA
 a222:=isAgg108
 z222:=T0
 v222:=WD
 t228:=lB
 a228:=isAgg385
 z228:=sizeOf385
 v228:=lr
 t229:=lE
 a229:=isAgg386
 z229:=sizeOf386
 v229:=lx}
open Go.Sort Go.RowKit in
theorem Tryz.slices_Sort_int(g off cap:Nat)(zs:List Int)(w:World)(G:Holds (Value.int .i64) w g off zs.toArray)(m:g<w.heap.size)(B:zs.length<4611686018427387904):
 Calls prog 188 #[.slice (some ⟨g,off,none⟩) zs.length cap] w fun e I=>
  e= .returned (.tuple #[])/\∃n os,I=grow (putRow (Value.int .i64) (Sort.ahead w n) g off (zs.mergeSort fun x y=>decide (x<=y)).toArray) os:=Any.slices_Sort_int Tryz.lays189 g off cap zs w G m B
def Tryz.lays190_ren:Go.Shelf.Ren:=⟨fun|190=>58|125=>117|258=>116|128=>199|129=>200|302=>190|303=>191|304=>192|305=>193|306=>194|307=>195|308=>196|309=>197|310=>198|333=>249|329=>250|330=>251|334=>252|335=>253|336=>254|344=>293|n=>n,fun|31=>45|9=>9|3=>3|46=>222|0=>0|51=>300|53=>302|4=>4|183=>292|182=>291|131=>297|5=>5|218=>348|222=>108|228=>385|229=>386|n=>n,fun|n=>n⟩
theorem Tryz.lays190:Go.Proofs.Lays.n190 prog Tryz.lays190_ren:={
 mixed:=by kernel_rfl
 f125:=func117.trans (congrArg some A6)
 f128:=func199.trans (congrArg some A6)
 f129:=func200.trans (congrArg some A6)
 f190:=func58.trans (congrArg some A6)
 f258:=func116.trans (congrArg some A6)
 f302:=func190.trans (congrArg some A6)
 f303:=func191.trans (congrArg some A6)
 f304:=func192.trans (congrArg some A6)
 f305:=func193.trans (congrArg some A6)
 f306:=func194.trans (congrArg some A6)
 f307:=func195.trans (congrArg some A6)
 f308:=func196.trans (congrArg some A6)
 f309:=func197.trans (congrArg some A6)
 f310:=func198.trans (congrArg some A6)
 f329:=func250.trans (congrArg some A6)
 f330:=func251.trans (congrArg some A6)
 f333:=func249.trans (congrArg some A6)
 f334:=func252.trans (congrArg some A6)
 f335:=func253.trans (congrArg some A6)
 f336:=func254.trans (congrArg some A6)
 f344:=func293.trans (congrArg some A6)
 t0:=cY
 a0:=isAgg0
 z0:=sizeOf0
 v0:=cn
 t3:=Cp
 a3:=AE
 z3:=A5
 v3:=H3
 t4:=NO
 a4:=E0
 z4:=CH
 v4:=V0
 t5:=Lq
 a5:=V1
 z5:=I2
 v5:=S5
 t9:=GF
 a9:=HB
 z9:=F1
 v9:=HQ
 t31:=Cd
 a31:=Kf
 z31:=HH
 v31:=US
 t46:=W4
 a46:=isAgg222
 z46:=fL
 v46:=eh
 t51:=Sp
 a51:=HR
 z51:=Fc
 v51:=el
 t53:=W5
 a53:=a6
 z53:=db
 v53:=en
 t131:=kq
 a131:=isAgg297
 z131:=sizeOf297
 v131:=lR
 t182:=kx
 a182:=isAgg291
 z182:=sizeOf291
 v182:=lf
 t183:=l3
 a183:=isAgg292
 z183:=sizeOf292
 v183:=lj
 t218:=l4
 a218:=isAgg348
 z218:=sizeOf348
 v218:=ln
 t222:=lA
 a222:=isAgg108
 z222:=T0
 v222:=WD
 t228:=lB
 a228:=isAgg385
 z228:=sizeOf385
 v228:=lr
 t229:=lE
 a229:=isAgg386
 z229:=sizeOf386
 v229:=lx}
open Go.Sort Go.RowKit in
theorem Tryz.slices_Sort_string(g off cap:Nat)(B:List (List UInt8))(w:World)(I:Holds encStr w g off B.toArray)(m:g<w.heap.size)(G:B.length<4611686018427387904):
 Calls prog 58 #[.slice (some ⟨g,off,none⟩) B.length cap] w fun e J=>
  e= .returned (.tuple #[])/\∃n os,J=grow (putRow encStr (Sort.ahead w n) g off (B.mergeSort fun x y=>decide (x<=y)).toArray) os:=Any.slices_Sort_string Tryz.lays190 g off cap B w I m G
def Tryz.laysNm217_ren:Go.Shelf.Ren:=⟨fun|17=>234|n=>n,fun|24=>45|9=>9|3=>3|4=>4|0=>0|n=>n,fun|n=>n⟩
theorem Tryz.laysNm217:Go.Proofs.Lays2.n17 prog Tryz.laysNm217_ren:={
 mixed:=by kernel_rfl
 f17:=func234.trans (congrArg some A6)
 t0:=cY
 a0:=isAgg0
 z0:=sizeOf0
 v0:=cn
 t3:=Cp
 a3:=AE
 z3:=A5
 v3:=H3
 t4:=NO
 a4:=E0
 z4:=CH
 v4:=V0
 t9:=GF
 a9:=HB
 z9:=F1
 v9:=HQ
 t24:=Cd
 a24:=Kf
 z24:=HH
 v24:=US}
open Go.RowKit Go.Lib Go.Sort in
theorem Tryz.slices_Reverse_string(g off cap:Nat)(zs:List (List UInt8))(w:World)(B:Holds encStr w g off zs.toArray)(m:zs.length<=9223372036854775807):
 Calls prog 234 #[.slice (some ⟨g,off,none⟩) zs.length cap] w fun e G=>e= .returned (.tuple #[])/\∃n,G=putRow encStr (Sort.ahead w n) g off zs.reverse.toArray:=Any.slices_Reverse_string Tryz.laysNm217 g off cap zs w B m
open Go.RowKit Go.Lib Go.Sort in
theorem Tryz.slices_Reverse_string_empty(a:Option Addr)(cap:Nat)(w:World):
 Calls prog 234 #[.slice a 0 cap] w fun e g=>e= .returned (.tuple #[])/\g=w:=Any.slices_Reverse_string_empty Tryz.laysNm217 a cap w
open Go.RowKit Go.Sort in
theorem Tryz.slices_Sort_string_none(p:Option Addr)(cap:Nat)(w:World):
 Calls prog 58 #[.slice p 0 cap] w fun e g=>e= .returned (.tuple #[])/\g=w:=Any.slices_Sort_string_none Tryz.lays190 p cap w
open Go.RowKit Go.Sort in
theorem Tryz.slices_Sort_int_none(p:Option Addr)(cap:Nat)(w:World):
 Calls prog 188 #[.slice p 0 cap] w fun e g=>e= .returned (.tuple #[])/\g=w:=Any.slices_Sort_int_none Tryz.lays189 p cap w
end Go.Proofs
namespace Go.Proofs.YteaiajghbkenoaaGreatDoor
open Go.Proofs.Tryz
open Go Go.RowKit Gw
set_option maxRecDepth 100000
attribute [local irreducible] Gw.At Gw.Nx Gw.Ops
def G9(l:List UInt8):Value:= .string (str l)
theorem RI(a b:List UInt8):str a++str b=str (a++b):=by
 apply ByteArray.ext;simp [str]
theorem Gn(a:List UInt8):(str a).size=a.length:=by simp [str,ByteArray.size]
theorem Rm(a:List UInt8):(str a).data.toList=a:=by simp [str]
theorem ZJ(xs:List (List UInt8)):Lib.join xs []=xs.flatten:=by
 unfold Lib.join;induction xs with
 |nil=>rfl
 |cons x r ih=>cases r with
  |nil=>simp
  |cons y r=>rw [List.intercalate_cons_cons];rw [ih];simp
variable{o:Nat}
theorem xZ{w:World}{b:Nat}{c:Array Value}{T:TypeId}{z:Nat×Nat}{cs:List Value}(g:w.heap[b]?=some (.cells c T z))(h:C9 c o cs)(j:Nat)(v:Value)(m:cs[j]?=some v):w.cell? ⟨b,o+j,none⟩=some v:=by
 have:=Gz g h j v m;rcases PB j with rfl|h0
 · simpa [Addr.add]using this
 · simpa [Addr.add,Nat.ne_of_gt h0]using this
theorem lY(g o cap:Nat)(cs:Array Value)(T:TypeId)(z:Nat×Nat)(xs:List (List UInt8))(hc:C9 cs o (xs.map G9))(K:xs.length<=140737488355328)(m:xs.length<=cap)(B:xs.flatten.length<=140737488355328):
 BI prog 331 #[.slice (some ⟨g,o,none⟩) xs.length cap,.string (str [])] [[(g,.cells cs T z)]] (.string (str xs.flatten)):=
 Rq (Rl:=fun v=>v= .string (str xs.flatten)) (fun w O=>by
  have I:=O (g,.cells cs T z) B0;have h:=Tryz.strings_Join g o cap (xs.map str) (str []) w (fun j x G=>by
   refine xZ I hc j _ ?_;rw [DM]at G⊢;cases h1:xs[j]?with
   |none=>rw [h1]at G;cases G
   |some y=>rw [h1]at G;cases G;rfl) (by
    rcases Dg g w.heap.size with h1|h1
    · exact h1
    · rw [Hc h1]at I;cases I) (by simpa using K) (by simpa using m) (by
    rw [K0];have:(xs.map ((fun s:ByteArray=>s.data.toList)∘str))=xs:=by simp [str,kA]
    rw [this,Rm,ZJ];exact B)
  rw [B2]at h;refine h.mono ?_;rintro e U ⟨rfl,J⟩;refine ⟨_,V,?_,J⟩;rw [K0];have:(xs.map ((fun s:ByteArray=>s.data.toList)∘str))=xs:=by simp [str,kA]
  rw [this,Rm,ZJ];rfl) (fun v hv=>⟨hv,rfl⟩)
def zS(head rec:List UInt8):List UInt8:=sha (2::head++rec)
theorem iM(l:List UInt8)(B:l.length<=140737488355000)(g:TypeId)(m:Nat×Nat):BI prog 278 #[.string (str l)] [[(4,.cells (Eo.map Ct).toArray g m)]] (.string (str (sha l))):=by
 have:=oI (str l) (by rw [Gn];exact B) g m;rw [Rm]at this;exact this
theorem Lt(B o cap I:Nat)(cs:Array Value)(T O:TypeId)(z W:Nat×Nat)(xs:List (List UInt8))(m:List UInt8)(hc:C9 cs o (xs.map G9))(U:xs.length<=140737488355328)(g:xs.length<=cap)(J:m.length+xs.flatten.length<=140737488355000)(G:TypeId)(K:Nat×Nat):
 BI prog 330 #[.slice (some ⟨B,o,none⟩) xs.length cap,I5 I] [[(B,.cells cs T z)],[(I,.cells #[G9 m] O W)],[(4,.cells (Eo.map Ct).toArray G K)]] (.string (str (sha (m++xs.flatten)))):=by
 refine KX func330 V ntmps330 V ?_;intro u R;unfold G9;refine Zb [0,1] ?_;refine A0<|A3 Y<|Zq<|Az (n:=6) (0::0::2::7::15::31::[]) 20 A6 A6 V<|B3 0 V HB Y ?_;refine A2 1 V (AO Y)<|Zz (l:=[2])<|B1 [true] [(0,(_,_))] V rfl (Zu [_,_] Y call331 Y V (lY B o cap cs T z xs hc U g A1)) ?_ (fun _ _ h=>h.elim) Ai;rintro _ _ ⟨rfl,rfl⟩;refine B5<|A2 3 rfl (Ma Y Y (by rw [Gn,Gn];omega))<|Yw 4 31 rfl (Zu [_] Y call278 Y rfl ((RI m xs.flatten)▸iM (m++xs.flatten) (by rw [B7];omega) G K))<|CT<|A2 5 V (Aw Y)<|Ah<|Zx<|AJ<|AP V results330 Y (by exact ⟨V,V⟩)
theorem Ql(m:ByteArray):BZ prog 303 #[.string m] [] (fun r H'=>∃b,r= .func (.func 330) #[] #[I5 b]/\H'=[[(b,.cells #[.string m] 9 (0,0))]]):=by
 refine Se func303 ntmps303 [0] ?_;intro u R;refine A0<|Ze (Bx #[_])<|AD fun g=>A3 Y<|A0<|Zv (Bg (vs:=[]) (us:=[_]) Y Y)<|A3 Y<|AJ<|AP V results303 Y (by exact ⟨_,V,V⟩)
def RA(z:Nat):List (Nat×Bool):=if h:z<128 then [(z,true)]else(z%128,false)::RA (z/128)
termination_by z
decreasing_by omega
theorem Kl(z:Nat):RA z=(z%128,decide (z<128))::(if z<128 then []else RA (z/128)):=by
 rw [RA];by_cases h:z<128
 · simp [h,cP h]
 · simp [h]
theorem xM(z:Nat):∀x∈RA z,x.1<128:=by
 induction z using Nat.strongRecOn with
 |_ z ih=>
  intro x g;rw [Kl]at g;rcases D2.1 g with rfl|g
  · exact eR _ AW
  · by_cases h:z<128
    · rw [AM h]at g;cases g
    · rw [AK h]at g;exact ih (z/128) A1 x g
theorem sU(z k:Nat)(h:z<128^(k+1)):(RA z).length<=k+1:=by
 induction k generalizing z with
 |zero=>rw [Kl,AM (by simpa using h)];simp
 |succ k ih=>
  rw [Kl];by_cases g:z<128
  · rw [AM g];simp
  · rw [AK g,DH]
    have:z/128<128^(k+1):=by
     rw [eN]at h;exact n4 (by rw [kl];exact h)
    have:=ih _ this;omega
def gb(x:Nat×Bool):UInt8:=UInt8.ofNat (if x.2 then x.1 else x.1+128)
theorem zP(x:Nat×Bool)(h:x.1<128):u8v (gb x)= .int .u8 ((if x.2 then x.1 else x.1+128:Nat):Int):=by
 unfold u8v gb;rw [UInt8.toNat_ofNat',cP (by split<;>omega)]
def zz(n:Int):Nat:=(if n<0 then-(2*n) -1 else 2*n).toNat
def Tx(n:Int):List UInt8:=(RA (zz n)).map gb
theorem y8(n:Int)(g:-4611686018427387903<=n)(h2:n<=4611686018427387903):zz n<9223372036854775808:=by unfold zz;split<;>omega
theorem uD(n:Int):0<(Tx n).length:=by unfold Tx;rw [Kl];simp
theorem PM(n:Int)(g:-4611686018427387903<=n)(h2:n<=4611686018427387903):(Tx n).length<=9:=by
 unfold Tx;rw [B2];exact sU (zz n) 8 (by have:=y8 n g h2;omega)
theorem zZ(y:Nat)(h:y<18446744073709551616):bits .and .u64 (y:Int) 127=((y%128:Nat):Int):=by
 have:=u64_and_nat y 127 h AW;rw [nat_mask7]at this;exact this
theorem qu(g:Nat)(h:g<128):bits .or .u8 (g:Int) 128=((g+128:Nat):Int):=by
 have:=u8_or_nat g 128 A1 AW;rw [Nat.or_comm,nat_join 7 128 g AW h,Nat.add_comm]at this;exact this
theorem ni(a:Nat)(h:a<18446744073709551616):a^^^18446744073709551615=18446744073709551615 -a:=by
 have g:BitVec.ofNat 64 a^^^BitVec.allOnes 64= ~~~BitVec.ofNat 64 a:=BitVec.xor_allOnes;have h2:=congrArg BitVec.toNat g
 rw [BitVec.toNat_xor,BitVec.toNat_not,BitVec.toNat_ofNat,cP h]at h2;exact h2
theorem yQ(n:Int)(B:-4611686018427387903<=n)(h2:n<=4611686018427387903):bits .xor .u64 (IntKind.u64.wrap (IntKind.u64.wrap n*2^(1:Int).toNat)) (IntKind.u64.wrap (n/2^(63:Int).toNat))=(zz n:Int):=by
 rw [IntKind.wrap_u64,IntKind.wrap_u64,IntKind.wrap_u64];rw [show(2:Int)^(1:Int).toNat=2 from rfl,show(2:Int)^(63:Int).toNat=9223372036854775808 from rfl];by_cases h:n<0
 · obtain ⟨m,g⟩:∃m:Nat,n=-(m:Int):=⟨n.natAbs,by omega⟩
   have e1:n%18446744073709551616*2%18446744073709551616=((18446744073709551616 -2*m:Nat):Int):=by omega
   have e2:n/9223372036854775808%18446744073709551616=((18446744073709551615:Nat):Int):=by omega
   rw [e1,e2,u64_xor_nat _ _ A1 A1,ni _ A1];unfold zz;rw [AM h];omega
 · obtain ⟨m,g⟩:∃m:Nat,n=(m:Int):=⟨n.natAbs,by omega⟩
   have e1:n%18446744073709551616*2%18446744073709551616=((2*m:Nat):Int):=by omega
   have e2:n/9223372036854775808%18446744073709551616=((0:Nat):Int):=by omega
   rw [e1,e2,u64_xor_nat _ _ A1 A1,Nat.xor_zero];unfold zz;rw [AK h];omega
theorem BV{P:Program}{cx:Cx}{c:Code}{Q:Exit->Act->World->Prop}{env:Env}{H:Hp}(h:At P cx c Q env ([]::H)):At P cx c Q env H:=Xm (H':=[]::H) rfl h
theorem Vg{α:Type}{l pre g:List α}{x:α}(h:l=pre++x::g):x∈l:=by rw [h];simp
theorem ZZ(I z:Nat)(hz:z<18446744073709551616):
 UG prog 302 #[I5 I] [[(I,.cells #[.int .u64 (z:Int)] 302 (0,0))]] (fun x=>#[.int .u8 (x.1:Int),.bool x.2]) (RA z):=by
 intro l J Z s K;refine Se func302 ntmps302 [0,1] ?_;intro u R;refine AQ<|Zb [0,1] ?_;refine BB (e0:=[]) (fun m e H=>∃(pre:List (Nat×Bool)) (y:Nat) (s:List A9),m=0+y/\(RA z=pre++RA y/\y<18446744073709551616/\J pre s)/\e=[]/\H=[[(I,.cells #[.int .u64 (y:Int)] 302 (0,0))],s]) (by exact ⟨[],z,s,V,⟨V,hz,K⟩,V,V⟩) Wp ?_;rintro _ _ _ ⟨pre,y,s,rfl,⟨g,G,K⟩,rfl,rfl⟩;refine AQ<|A0<|Zl a6 Y ?_;refine Zv (Av (n:=128) Y Y)<|A3 Y<|Zq<|Zq ?_;have U:=Z pre (y%128,decide (y<128)) (if y<128 then []else RA (y/128)) s (by rw [g,<-Kl]) K
 refine Zg<|Zm Y<|Zl a6 Y ?_;refine Kh (qU (m:=(y:Int)) (n:=127) Y Y (zZ y G)) V rfl ?_;refine BX (UY W5 Lq Y A1)<|Zm Y<|Ze (GR (vs:=[_,_]) Y Y (U) Wp) ?_;rintro _ _ ⟨_,⟨X,rfl,rfl,B⟩,rfl⟩;refine Zv (Bo Y)<|Zm Y<|Ag (t:=13) Y V (fun W=>by cases W)<|fun W=>Zf Y Y<|Zv (AL Y Y)<|Z0<|Zn [0,1,15] ?_;refine Zx<|Au Y (fun O=>?_) (fun O=>?_)
 ·
  refine AJ<|Zt<|Ae<|Zt<|Ae ?_;refine Cz V results302 (by
   exact ⟨X,V,by
    have e:RA z=pre++[(y%128,decide (y<128))]:=by rw [g,Kl y,AM O]
    rw [e];exact B⟩)
 refine AC<|Zx<|Zg<|Zl a6 Y ?_;refine BX (Q6 (n:=7) Y Y (by first|decide|(simp [IntKind.bits];done)|(simp [IntKind.bits];omega)))<|Xe (Zs db Y Y rfl) ?_;refine Z0<|A8<|Zn [0,1] ?_;refine Ab (e':=[]) (by exact ⟨pre++[(y%128,decide (y<128))],y/2^7,X,rfl,⟨by rw [g,Kl y,AK O];simp,by omega,B⟩,rfl,rfl⟩)
theorem ZY(z:Int):BZ prog 275 #[.int .u64 z] [] (fun r H'=>∃b,r= .func (.func 302) #[] #[I5 b]/\H'=[[(b,.cells #[.int .u64 z] 302 (0,0))]]):=by
 refine Se func275 ntmps275 [0] ?_;intro u R;refine A0<|Ze (Bx #[_])<|AD fun g=>A3 Y<|A0<|Zv (Bg (vs:=[]) (us:=[_]) Y Y)<|A3 Y<|AJ<|AP V results275 Y (by exact ⟨_,V,V⟩)
theorem Qb(n:Int)(Z:-4611686018427387903<=n)(h2:n<=4611686018427387903):BI prog 231 #[I4 n] [] (.tuple #[.string (str (Tx n)),I4 0]):=by
 have gB:=mL;have ic:=y8 n Z h2
 have K:=PM n Z h2;unfold Tx at K;rw [B2]at K;refine DL func231 V ntmps231 V ?_;intro u R;refine Zb [0] ?_;refine A0<|Za Y<|A3 Y<|Zq<|A0<|Zm Y<|Zv (Dt Y Y)<|Zm Y<|Am (t:=9) Y V (fun ax=>by omega)<|fun ax=>Zf Y Y<|Yg (Er Y Y)<|Zv (AL Y Y)<|A4<|Au Y (fun bn=>by omega)<|fun bn=>AC<|Zx<|A0<|Ze (Al zeroValue97 #[_])<|AD fun bo=>A4<|Zq<|A0<|Zm Y<|Zv (En Cp W5 Y V) ?_
 (refine BX (iX Y Y ?_ ?_ rfl) ?_;(focus (first|decide|omega|(simp [IntKind.bits];done)|(simp [IntKind.bits];omega)));(focus (first|decide|omega|(simp [IntKind.bits];done)|(simp [IntKind.bits];omega))))
 refine Zm Y ?_
 (refine BX (qK Y Y ?_ ?_ rfl) ?_;(focus (first|decide|omega|(simp [IntKind.bits];done)|(simp [IntKind.bits];omega)));(focus (first|decide|omega|(simp [IntKind.bits];done)|(simp [IntKind.bits];omega))))
 refine Zv (En Cp W5 Y V)<|Kh (yF Y Y (yQ n Z h2)) V rfl ?_;refine Zc [_] Y call275 Y V (ZY _) ?_;rintro _ _ ⟨_,⟨bz,rfl,rfl⟩,rfl⟩;refine Z0<|Zn [4,20] ?_;refine Zx<|AQ<|Zb [4,20] ?_;refine BV<|Qx (H0:=_) (R:=_) (I:=(fun pre H=>∃v s,H=[[(bo,.cells #[v] 97 (0,0))],s]/\Row 5 v ((pre.map gb).map u8v) s)) (asg:=fun x=>[(6,.bool x.2),(5,.int .u8 (x.1:Int)),(22,.bool x.2),(21,.int .u8 (x.1:Int))]) V Y call302 (ZZ bz (zz n) A1) Y V Wp (⟨_,[],V,GU _⟩) ?ha_2 ?hbd_2 ?hk_2
 case ha_2=>
  intro _ x _ _;refine A0<|A3 Y<|Zg<|Za Y<|Z0 ?_;exact qf
 case hbd_2=>
  intro l pre x d9 u H1 R1 X hI;obtain ⟨v,s,rfl,U⟩:=hI;have W:=xM _ x (Vg X)
  have O:=zP x W;have cu:=congrArg List.length X
  rw [B7,DH]at cu;obtain ⟨gv,cv,rfl⟩:=U.form;refine AQ<|Zq<|A0<|Zm Y<|Zv (Bo Y)<|A4<|AX Y (fun B=>?_) (fun B=>?_)
  ·
   have G:x.2=false:=by simpa using B
   refine Zg<|Zm Y<|Kh (oA (m:=(x.1:Int)) (n:=128) Y Y (qu x.1 W)) V rfl ?_;refine A3 Y<|Zg<|Zl S7 Y ?_;refine Zm Y<|Ze (Aj (vs:=[_]) (cs:=[_]) HD I2 S5 Y V rfl V rfl V)<|AD fun b2=>Ze (EZ (by_:=1) (news:=[_]) HD (V:Tryz.prog.info? 5=some Tryz.t5) V rfl V rfl Y U Y Wo Wh AN V Fl AW (by(simp only [B2];omega)) (by(simp only [B2];omega))) ?_;rintro _ _ ⟨sb,g,rfl⟩;obtain ⟨gb,cb,rfl⟩:=g.form;refine Xe (Zs OK Y Y V) ?_;refine Z0<|A8<|F3 V (by
    exact ⟨_,_,V,by
     rw [Bm,Bm,Lk,Lk,O,G];exact g⟩)
  have G:x.2=true:=by simpa using B
  refine AC<|Zx<|Zg<|Zl S7 Y ?_;refine Zm Y<|Ze (Aj (vs:=[_]) (cs:=[_]) HD I2 S5 Y V rfl V rfl V)<|AD fun b4=>Ze (EZ (by_:=1) (news:=[_]) HD (V:Tryz.prog.info? 5=some Tryz.t5) V rfl V rfl Y U Y Wo Wh AN V Fl AW (by(simp only [B2];omega)) (by(simp only [B2];omega))) ?_;rintro _ _ ⟨sb,g,rfl⟩;obtain ⟨gb,cb,rfl⟩:=g.form;refine Xe (Zs OK Y Y V) ?_;refine Z0<|A8<|F3 V (by
   exact ⟨_,_,V,by
    rw [Bm,Bm,Lk,Lk,O,G];exact g⟩)
 intro D1 H2 af;obtain ⟨v,s,rfl,U⟩:=af;have J:=uD n
 unfold Tx at J;obtain ⟨gv,cv,cur,zv,rfl,rfl,gy,ek,gm,cO,gq⟩:=U.some (by rw [B2];exact J);refine Zn [4] ?_;refine A8<|Zx<|A0<|Zl S7 Y ?_;refine Zo Wh (KA HD Lq GF Y (by exact ⟨cO,by simp⟩)) ?_;refine Za Y<|A3 Y<|AJ<|GI V (pM results231 Y Y) Wo (by exact ⟨V,V⟩)
structure AU where
 t:Int
 k:Int
 v:V3
deriving DecidableEq
abbrev AU.A29(c:AU):Array Go.Value:=#[I4 c.t,I4 c.k,I4 c.v.a,I4 c.v.b,I4 c.v.c]
structure Chg where
 t:Int
 k:Int
 had:Bool
 o:V3
 has:Bool
 n:V3
deriving DecidableEq
abbrev Chg.A28(c:Chg):Array Go.Value:=#[I4 c.t,I4 c.k,.bool c.had,I4 c.o.a,I4 c.o.b,I4 c.o.c,.bool c.has,I4 c.n.a,I4 c.n.b,I4 c.n.c]
def AU.zero:AU:=⟨0,0,V3.zero⟩
def AU.ok(r:AU):Prop:=r.v.ok/\(0<=r.t/\r.t<=3)/\(1<=r.k/\r.k<=1000000)
instance(r:AU):Decidable r.ok:=inferInstanceAs(Decidable (_/\_/\_))
def Chg.before(c:Chg):AU:=if c.had then⟨c.t,c.k,c.o⟩else AU.zero
def Chg.after(c:Chg):AU:=if c.has then⟨c.t,c.k,c.n⟩else AU.zero
variable{c:Chg}
theorem PQ(h:c.had=true):c.before=⟨c.t,c.k,c.o⟩:=AM h
theorem uT(h:c.had=false):c.before=AU.zero:=AK (by rw [h];decide)
theorem Ky(h:c.has=true):c.after=⟨c.t,c.k,c.n⟩:=AM h
theorem xx(h:c.has=false):c.after=AU.zero:=AK (by rw [h];decide)
def Chg.ok(c:Chg):Prop:=¬((¬c.had/\¬c.has)\/(c.had/\c.has/\c.o=c.n))/\¬((c.had/\¬c.before.ok)\/(c.has/\¬c.after.ok))/\(c.had\/c.o=V3.zero)/\(c.has\/c.n=V3.zero)
instance(c:Chg):Decidable c.ok:=inferInstanceAs(Decidable (_/\_/\_/\_))
theorem K3(n lo hi:Int):BI prog 153 #[I4 n,I4 lo,I4 hi] [] (.bool (decide (lo<=n/\n<=hi))):=by
 refine Se func153 ntmps153 [0,1,2] ?_;intro u R;refine A0<|A3 Y<|A0<|Zm Y<|Zm Y<|Zv (H9 Y Y)<|Zm Y<|Am (t:=10) Y V (fun g=>?_) (fun g=>?_)
 ·
  refine Zf Y Y<|Zf Y Y<|Yg (NC Y Y)<|Zv (AV Y Y)<|A3 Y<|AJ<|AP V results153 Y (by exact ⟨by simp [g],V⟩)
 refine A7 Y V<|A7 Y V<|A7 Y V<|Zv (AL Y Y)<|A3 Y<|AJ<|AP V results153 Y (by exact ⟨by simp [g],V⟩)
theorem kJ(c:Chg):BI prog 211 #[.agg c.A28] [] (.tuple #[.agg c.before.A29,.bool c.had]):=by
 refine Se func211 ntmps211 [0] ?_;intro u R;refine A0<|Ze (Bx #[_,_,_,_,_,_,_,_,_,_])<|AD fun m=>Ze (Al DS #[_,_,_,_,_])<|AD fun B=>A3 Y<|Zq<|A0<|Zh 2 B8 V rfl CH Y<|Zl E0 Y ?_;refine Zv (Bo Y)<|A4<|AX Y (fun g=>?_) (fun g=>?_)
 ·
  refine A0<|Zv (BL (vs:=[]) (cs:=#[_,_,_,_,_]) Y (AY (pl:=#[(0,1),(1,1),(2,3)]) DS FG (fun _=>by kernel_rfl) V))<|Xe (Xw An _) ?_;refine A3 Y<|AJ<|Zt<|Bi V results211 Y Wh (Ak CI An Wn (V)) Y (by simp only [dy,S1,cT]at g;exact ⟨by(rw [uT g,g];rfl),V⟩)
 refine AC<|Zx<|A0<|Zh 0 B8 V rfl A5 Y<|Zl AE Y ?_;refine Zh 1 B8 V rfl A5 Y<|Zl AE Y ?_;refine Zh 3 B8 V rfl DG Y<|Zo Wh (Pa #[_,_,_] HE DG Y) ?_;refine Zv (BL (vs:=[(0,_),(1,_),(2,_)]) (cs:=#[_,_,_,_,_]) Y (AY (pl:=#[(0,1),(1,1),(2,3)]) DS FG (fun _=>by kernel_rfl) rfl))<|Xe (BK An Y Y (by(simp [Value.oneCell',Value.cells];done)) Wu AN E3 Wn (by exact BA _)) ?_;refine AG Y<|Zn [2,3] ?_;refine Zx<|AJ<|Bi V results211 Y Wh (Ak CI An Wn (V)) Y (by simp only [dy,S1,cT]at g;exact ⟨by(rw [PQ g,g];rfl),V⟩)
theorem SV(c:Chg):BI prog 80 #[.agg c.A28] [] (.tuple #[.agg c.after.A29,.bool c.has]):=by
 refine Se func80 ntmps80 [0] ?_;intro u R;refine A0<|Ze (Bx #[_,_,_,_,_,_,_,_,_,_])<|AD fun m=>Ze (Al DS #[_,_,_,_,_])<|AD fun B=>A3 Y<|Zq<|A0<|Zh 6 B8 V rfl CH Y<|Zl E0 Y ?_;refine Zv (Bo Y)<|A4<|AX Y (fun g=>?_) (fun g=>?_)
 ·
  refine A0<|Zv (BL (vs:=[]) (cs:=#[_,_,_,_,_]) Y (AY (pl:=#[(0,1),(1,1),(2,3)]) DS FG (fun _=>by kernel_rfl) V))<|Xe (Xw An _) ?_;refine A3 Y<|AJ<|Zt<|Bi V results80 Y Wh (Ak CI An Wn (V)) Y (by simp only [dy,S1,cT]at g;exact ⟨by(rw [xx g,g];rfl),V⟩)
 refine AC<|Zx<|A0<|Zh 0 B8 V rfl A5 Y<|Zl AE Y ?_;refine Zh 1 B8 V rfl A5 Y<|Zl AE Y ?_;refine Zh 7 B8 V rfl DG Y<|Zo Wh (Pa #[_,_,_] HE DG Y) ?_;refine Zv (BL (vs:=[(0,_),(1,_),(2,_)]) (cs:=#[_,_,_,_,_]) Y (AY (pl:=#[(0,1),(1,1),(2,3)]) DS FG (fun _=>by kernel_rfl) rfl))<|Xe (BK An Y Y (by(simp [Value.oneCell',Value.cells];done)) Wu AN E3 Wn (by exact BA _)) ?_;refine AG Y<|Zn [2,3] ?_;refine Zx<|AJ<|Bi V results80 Y Wh (Ak CI An Wn (V)) Y (by simp only [dy,S1,cT]at g;exact ⟨by(rw [Ky g,g];rfl),V⟩)
theorem SS(r:AU):BI prog 212 #[.agg r.A29] [] (.bool (decide r.ok)):=by
 refine Se func212 ntmps212 [0] ?_;intro u R;refine A0<|Ze (Bx #[_,_,_,_,_])<|AD fun K=>A3 Y<|Zq<|A0<|A3 Y<|AQ<|Zb [3,1] ?_;refine BB (e0:=[(3,_)]) (fun m e H=>∃(i:Nat),m=3 -i/\(i<=3/\(∀j,j<i->inV (r.v.get j)))/\e=[(3,I4 (i:Int))]/\H=[]) (by exact ⟨0,V,⟨by omega,by intro j J;omega⟩,V,V⟩) Wp ?_;rintro _ _ _ ⟨i,rfl,⟨hi,g⟩,rfl,rfl⟩;refine Zq<|A0<|Zm Y<|Zv (Av (n:=3) Y Y)<|A4<|Au Y (fun G=>?_) (fun G=>?_)
 ·
  refine AC<|Zx<|Zq<|AQ<|A0<|Zm Y<|Zh 2 FG V rfl DG Y ?_;refine BX (Cq Hj A5 Y Y A1)<|Zl AE Y (hv:=by rw [Mn];exact pt _ _ r.v _ A1) ?_;refine Xr [_,_,_] Y call153 Y V (K3 _ _ _) ?_;refine Zv (Cm Y)<|A4<|Au Y (fun B=>?_) (fun B=>?_)
  ·
   refine A0<|A3 Y<|AJ<|Ae<|Zt<|Zt<|Ae<|Zt<|AP rfl results212 Y (by exact ⟨by rw [C4 (fun h9:r.ok=>B (oD.1 h9.1 i A1))],rfl⟩)
  refine AC<|A8<|Zx<|Zg<|Zm Y<|Ya (n:=1) Y Y<|AG Y<|Zn [3,1] ?_;refine Ab (e':=[(3,_)]) (by exact ⟨i+1,V,⟨by omega,vQ g (HT.1 B)⟩,V,V⟩)
 refine Ay<|Zt<|Zt<|AR<|Zx<|A0<|Zh 0 FG V rfl A5 Y<|Zl AE Y ?_;refine Xr [_,_,_] Y call153 Y V (K3 _ _ _) ?_;refine Zm Y<|Am (t:=17) Y V (fun I=>?_) (fun I=>?_)
 ·
  refine Yf 1 FG V rfl A5 Y<|Yl AE Y ?_;refine Xr [_,_,_] Y call153 Y V (K3 _ _ _) ?_;refine Zv (AV Y Y)<|A3 Y<|AJ<|AP V results212 Y (by have hv:r.v.ok:=oD.2 (fun j J=>g j A1);exact ⟨by simp only [AU.ok,hv,I,V2,ff,Wf],V⟩)
 refine A7 Y V<|A7 Y V<|A7 Y V<|Zv (AL Y Y)<|A3 Y<|AJ<|AP V results212 Y (by have hv:r.v.ok:=oD.2 (fun j J=>g j A1);exact ⟨by simp only [AU.ok,hv,I,V2,ff,Wf],V⟩)
theorem kI(c:Chg):BI prog 154 #[.agg c.A28] [] (.bool (decide c.ok)):=by
 refine Se func154 ntmps154 [0] ?_;intro u R;refine A0<|Ze (Bx #[_,_,_,_,_,_,_,_,_,_])<|AD fun b1=>A3 Y<|A0<|Zo Wh (Pa #[_,_,_,_,_,_,_,_,_,_] Ft C3 Y) ?_;refine Xr [_] Y call211 Y V (kJ c) ?_;refine Zm Y<|Zd Y V<|Zd Y V<|Ze (Al DS #[_,_,_,_,_])<|AD fun b2=>Xe (Xw An _) ?_;refine A3 Y<|A0<|Zo Wh (Pa #[_,_,_,_,_,_,_,_,_,_] Ft C3 Y) ?_;refine Xr [_] Y call80 Y V (SV c) ?_;refine Zm Y<|Zd Y V<|Zd Y V<|Ze (Al DS #[_,_,_,_,_])<|AD fun b3=>Xe (Xw An _) ?_;refine AG Y<|Zn [1,3,4,5,6] ?_;refine Zx<|Zq<|Zb [1,3,4,5,6] ?_;refine DK (e0:=[]) (H0:=[]) (fun e H=>∃(U:Bool),(U=decide ((¬c.had/\¬c.has)\/(c.had/\c.has/\c.o=c.n)))/\e=[(35,.bool U)]/\H=[]) Wp ?hx_1 ?hy_1
 case hx_1=>
  refine Zg<|Zm Y<|Zv (Bo Y)<|Zm Y<|Ag (t:=19) Y V (fun W=>?_) (fun W=>?_)
  ·
   refine Zf Y Y<|Yg (Bo Y)<|Zv (AV Y Y)<|Zm Y<|Ag (t:=23) Y V (fun X=>?_) (fun X=>?_)
   ·
    repeat refine A7 Y rfl ?_
    refine Zv (AV Y Y)<|Z0<|Zn [35,1,3,4,5,6] ?_;refine BN (e':=[(35,_)]) (by exact ⟨_,by simp_all,V,V⟩)
   refine Zf Y Y<|Zf Y Y ?_;refine Ag (t:=25) Y V (fun Z=>?_) (fun Z=>?_)
   ·
    refine Zf Y Y<|Yg (AV Y Y)<|Zf Y Y ?_;refine Ag (t:=28) Y V (fun af=>?_) (fun af=>?_)
    ·
     refine Yf 3 B8 V rfl DG Y<|Dv Y Wh (Pa #[_,_,_] HE DG Y) V rfl ?_;refine Yf 7 B8 V rfl DG Y<|Dv Y Wh (Pa #[_,_,_] HE DG Y) V rfl ?_;refine Yg (Kg A6 Hj Cp AE A5 Y Y) ?_;refine Yg (AV Y Y)<|Zv (AL Y Y)<|Z0<|Zn [35,1,3,4,5,6] ?_;refine BN (e':=[(35,_)]) (by exact ⟨_,by simp_all,V,V⟩)
    repeat refine A7 Y rfl ?_
    refine Yg (AL Y Y)<|Zv (AL Y Y)<|Z0<|Zn [35,1,3,4,5,6] ?_;refine BN (e':=[(35,_)]) (by exact ⟨_,by simp_all,V,V⟩)
   refine A7 Y V<|Yg (AL Y Y)<|Zf Y Y ?_;repeat refine A7 Y rfl ?_
   refine Yg (AL Y Y)<|Zv (AL Y Y)<|Z0<|Zn [35,1,3,4,5,6] ?_;refine BN (e':=[(35,_)]) (by exact ⟨_,by simp_all,V,V⟩)
  refine A7 Y V<|A7 Y V<|Zv (AL Y Y)<|Zm Y<|Zf Y Y<|Zf Y Y ?_;refine Ag (t:=25) Y V (fun ax=>?_) (fun ax=>?_)
  ·
   refine Zf Y Y<|Yg (AV Y Y)<|Zf Y Y ?_;refine Ag (t:=28) Y V (fun bn=>?_) (fun bn=>?_)
   ·
    refine Yf 3 B8 V rfl DG Y<|Dv Y Wh (Pa #[_,_,_] HE DG Y) V rfl ?_;refine Yf 7 B8 V rfl DG Y<|Dv Y Wh (Pa #[_,_,_] HE DG Y) V rfl ?_;refine Yg (Kg A6 Hj Cp AE A5 Y Y) ?_;refine Yg (AV Y Y)<|Zv (AL Y Y)<|Z0<|Zn [35,1,3,4,5,6] ?_;refine BN (e':=[(35,_)]) (by exact ⟨_,by simp_all,V,V⟩)
   repeat refine A7 Y rfl ?_
   refine Yg (AL Y Y)<|Zv (AL Y Y)<|Z0<|Zn [35,1,3,4,5,6] ?_;refine BN (e':=[(35,_)]) (by exact ⟨_,by simp_all,V,V⟩)
  refine A7 Y V<|Yg (AL Y Y)<|Zf Y Y ?_;repeat refine A7 Y rfl ?_
  refine Yg (AL Y Y)<|Zv (AL Y Y)<|Z0<|Zn [35,1,3,4,5,6] ?_;refine BN (e':=[(35,_)]) (by exact ⟨_,by simp_all,V,V⟩)
 rintro _ _ ⟨U,gm,rfl,rfl⟩;refine AX Y (fun cu=>?_) (fun cu=>?_)
 ·
  refine A0<|A3 Y<|AJ<|Zt<|AP V cy Y (by exact ⟨by simp_all [Chg.ok],V⟩)
 refine AC<|Zx<|Zq<|Zb [3,5,1,4,6] ?_;refine DK (e0:=[(3,_),(5,_)]) (H0:=[]) (fun e H=>∃(O:Bool),(O=decide ((c.had/\¬c.before.ok)\/(c.has/\¬c.after.ok)))/\e=[(49,.bool O)]/\H=[]) Wp ?hx_10 ?hy_10
 case hx_10=>
  refine Zg<|Zm Y<|Zm Y<|Ag (t:=37) Y V (fun cO=>?_) (fun cO=>?_)
  ·
   refine Dv Y Wh (Pa #[_,_,_,_,_] CI An Y) V rfl ?_;refine Xr [_] Y call212 Y V (SS _) ?_;refine Yg (Cm Y)<|Zv (AV Y Y)<|Zm Y<|Am (t:=42) Y V (fun d9=>?_) (fun d9=>?_)
   ·
    repeat refine A7 Y rfl ?_
    refine Zv (AV Y Y)<|Z0<|Zn [49,1,4,6] ?_;refine BN (e':=[(49,_)]) (by exact ⟨_,by simp_all,V,V⟩)
   refine Zf Y Y<|Zf Y Y ?_;refine Ag (t:=44) Y V (fun g=>?_) (fun g=>?_)
   ·
    refine Dv Y Wh (Pa #[_,_,_,_,_] CI An Y) V rfl ?_;refine Xr [_] Y call212 Y V (SS _) ?_;refine Yg (Cm Y)<|Yg (AV Y Y)<|Zv (AL Y Y)<|Z0<|Zn [49,1,4,6] ?_;refine BN (e':=[(49,_)]) (by exact ⟨_,by simp_all,V,V⟩)
   refine A7 Y V<|A7 Y V<|A7 Y V<|Yg (AL Y Y)<|Zv (AL Y Y)<|Z0<|Zn [49,1,4,6] ?_;refine BN (e':=[(49,_)]) (by exact ⟨_,by simp_all,V,V⟩)
  refine A7 Y V<|A7 Y V<|A7 Y V<|Zv (AL Y Y)<|Zm Y<|Zf Y Y<|Zf Y Y ?_;refine Ag (t:=44) Y V (fun m=>?_) (fun m=>?_)
  ·
   refine Dv Y Wh (Pa #[_,_,_,_,_] CI An Y) V rfl ?_;refine Xr [_] Y call212 Y V (SS _) ?_;refine Yg (Cm Y)<|Yg (AV Y Y)<|Zv (AL Y Y)<|Z0<|Zn [49,1,4,6] ?_;refine BN (e':=[(49,_)]) (by exact ⟨_,by simp_all,V,V⟩)
  refine A7 Y V<|A7 Y V<|A7 Y V<|Yg (AL Y Y)<|Zv (AL Y Y)<|Z0<|Zn [49,1,4,6] ?_;refine BN (e':=[(49,_)]) (by exact ⟨_,by simp_all,V,V⟩)
 rintro _ _ ⟨O,ek,rfl,rfl⟩;refine AX Y (fun B=>?_) (fun B=>?_)
 ·
  refine A0<|A3 Y<|AJ<|Zt<|AP V cy Y (by exact ⟨by simp_all [Chg.ok],V⟩)
 refine AC<|Zx<|A0<|Zm Y<|Zm Y<|Ag (t:=51) Y V (fun G=>?_) (fun G=>?_)
 ·
  refine A7 Y V<|A7 Y V<|A7 Y V<|A7 Y V<|Zv (AV Y Y)<|Zm Y<|Zf Y Y<|Zf Y Y ?_;refine Ag (t:=59) Y V (fun I=>?_) (fun I=>?_)
  ·
   refine A7 Y V<|A7 Y V<|A7 Y V<|A7 Y V<|Yg (AV Y Y)<|Zv (AV Y Y)<|AG Y<|Zn [2] ?_;refine Zx<|AJ<|AP V cy Y (by exact ⟨by simp_all [Chg.ok],V⟩)
  refine Yf 7 B8 V rfl DG Y<|Dv Y Wh (Pa #[_,_,_] HE DG Y) V rfl ?_;refine Yg (BL (vs:=[]) (cs:=#[_,_,_]) Y (DZ cD Hj A5 V)) ?_;refine Yg (IR A6 Hj Cp AE A5 Y Y) ?_;refine Yg (AL Y Y)<|Zv (AV Y Y)<|AG Y<|Zn [2] ?_;refine Zx<|AJ<|AP V cy Y (by exact ⟨by simp_all [Chg.ok],V⟩)
 refine Yf 3 B8 V rfl DG Y<|Dv Y Wh (Pa #[_,_,_] HE DG Y) V rfl ?_;refine Yg (BL (vs:=[]) (cs:=#[_,_,_]) Y (DZ cD Hj A5 V)) ?_;refine Yg (IR A6 Hj Cp AE A5 Y Y) ?_;refine Zv (AL Y Y)<|Zm Y<|Am (t:=57) Y V (fun J=>?_) (fun J=>?_)
 ·
  refine Zf Y Y<|Zf Y Y ?_;refine Ag (t:=59) Y V (fun K=>?_) (fun K=>?_)
  ·
   refine A7 Y V<|A7 Y V<|A7 Y V<|A7 Y V<|Yg (AV Y Y)<|Zv (AV Y Y)<|AG Y<|Zn [2] ?_;refine Zx<|AJ<|AP V cy Y (by exact ⟨by simp_all [Chg.ok],V⟩)
  refine Yf 7 B8 V rfl DG Y<|Dv Y Wh (Pa #[_,_,_] HE DG Y) V rfl ?_;refine Yg (BL (vs:=[]) (cs:=#[_,_,_]) Y (DZ cD Hj A5 V)) ?_;refine Yg (IR A6 Hj Cp AE A5 Y Y) ?_;refine Yg (AL Y Y)<|Zv (AV Y Y)<|AG Y<|Zn [2] ?_;refine Zx<|AJ<|AP V cy Y (by exact ⟨by simp_all [Chg.ok],V⟩)
 repeat refine A7 Y rfl ?_
 refine Zv (AL Y Y)<|AG Y<|Zn [2] ?_;refine Zx<|AJ<|AP V cy Y (by exact ⟨by simp_all [Chg.ok],V⟩)
def Cr(M:List A9)(v:Value)(cs:List Chg):Prop:=∃p cap,v= .slice p cs.length cap/\cs.length<=maxLen/\∀(i:Nat) (c:Chg),cs[i]?=some c->∃g off cur T zz,p=some ⟨g,off,none⟩/\(g,Obj.cells cur T zz)∈M/\off+i*10+10<=cur.size/\cur.extract (off+i*10) (off+i*10+10)=c.A28
def Chg.lt(b c:Chg):Prop:=b.t<c.t\/b.t=c.t/\b.k<c.k
instance(b c:Chg):Decidable (b.lt c):=inferInstanceAs(Decidable (_\/_))
structure EH(p:Int)(cs:List Chg):Prop where
 pos:1<=p/\p<=10000
 len:1<=cs.length/\cs.length<=8
 all:∀(i:Nat) (c:Chg),cs[i]?=some c->c.ok
 ord:∀(i:Nat) (b c:Chg),cs[i]?=some b->cs[i+1]?=some c->b.lt c
noncomputable instance(p:Int)(cs:List Chg):Decidable (EH p cs):=Classical.propDecidable _
variable{i:Nat}
theorem M8{cs:List Chg}{x:Chg}(h:∀(j:Nat) (c:Chg),j<i->cs[j]?=some c->c.ok)(m:cs[i]?=some x)(g:x.ok):∀(j:Nat) (c:Chg),j<i+1->cs[j]?=some c->c.ok:=by
 intro j c B hc;rcases Dg j i with h9|h9
 · exact h j c h9 hc
 · have e:j=i:=by omega
   rw [e,m]at hc;injection hc with hc;rw [<-hc];exact g
theorem Li{cs:List Chg}{x:Chg}(h:∀(j:Nat) (b c:Chg),j+1<i->cs[j]?=some b->cs[j+1]?=some c->b.lt c)(B:cs[i]?=some x)(m:i=0\/∃y,cs[i -1]?=some y/\y.lt x):∀(j:Nat) (b c:Chg),j+1<i+1->cs[j]?=some b->cs[j+1]?=some c->b.lt c:=by
 intro j b c G g hc;rcases Dg (j+1) i with h9|h9
 · exact h j b c h9 g hc
 · have e:j+1=i:=by omega
   rw [e,B]at hc;injection hc with hc
   rcases m with h0|⟨y,hy,hl⟩
   · omega
   · rw [show i -1=j by omega,g]at hy;injection hy with hy;rw [hy,<-hc];exact hl
theorem kH(p:Int)(q:Option Addr)(cap:Nat)(cs:List Chg)(M:List A9)(hO:Cr M (.slice q cs.length cap) cs):BI prog 79 #[.agg #[I4 p,.slice q cs.length cap]] [M] (.bool (decide (EH p cs))):=by
 have gB:=mL;obtain ⟨p9,gm,e9,ic,hg⟩:=hO;injection e9 with e91 e92 e93
 subst e91 e93;refine Se func79 ntmps79 [0] ?_;intro u R;refine A0<|Ze (Bx #[_,_])<|AD fun b1=>A3 Y<|Zq<|A0<|Zh 0 GS V rfl A5 Y<|Zl AE Y ?_;refine Xr [_,_,_] Y call153 Y V (K3 _ _ _) ?_;refine Zv (Cm Y)<|Zm Y<|Am (t:=10) Y V (fun hp=>?_) (fun hp=>?_)
 ·
  repeat refine A7 Y rfl ?_
  refine Zv (AV Y Y)<|Z0<|Zn [1,16] ?_;refine Zx<|Cn Y<|A0<|A3 Y<|AJ<|Zt<|AP rfl fN Y (by exact ⟨by rw [C4 (fun h9:EH p cs=>by have J:=h9.pos;have af:=h9.len;exact hp J)],rfl⟩)
 refine Yf 1 GS V rfl Lw Y<|Yl ON Y ?_;refine Yg (Aa G4 Y)<|Xr [_,_,_] Y call153 Y V (K3 _ _ _) ?_;refine Yg (Cm Y)<|Zv (AL Y Y)<|Z0<|Zn [1,16] ?_;refine Zx<|Au Y (fun hl=>?_) (fun hl=>?_)
 ·
  refine A0<|A3 Y<|AJ<|Zt<|AP rfl fN Y (by exact ⟨by rw [C4 (fun h9:EH p cs=>by have J:=h9.pos;have af:=h9.len;(apply hl;omega))],rfl⟩)
 refine AC<|Zx<|Zq<|A0<|A3 Y<|AQ<|Zb [3,1] ?_;refine BB (e0:=[(3,_)]) (fun m e H=>∃(i:Nat),m=cs.length -i/\(i<=cs.length/\(∀(j:Nat) (c:Chg),j<i->cs[j]?=some c->c.ok)/\(∀(j:Nat) (b c:Chg),j+1<i->cs[j]?=some b->cs[j+1]?=some c->b.lt c))/\e=[(3,I4 (i:Int))]/\H=[]) (by exact ⟨0,V,⟨by omega,by intro j c hj;omega,by intro j b c hj;omega⟩,V,V⟩) Wp ?_;rintro _ _ _ ⟨i,rfl,⟨hi,G,I⟩,rfl,rfl⟩;refine Zq<|A0<|Zm Y<|Zh 1 GS V rfl Lw Y<|Zl ON Y ?_;refine Zv (Aa G4 Y)<|Zv (Av Y Y)<|A4<|Au Y (fun W=>?_) (fun W=>?_)
 ·
  refine AC<|Zx<|Zq<|AQ<|Zq ?_;obtain ⟨x,K⟩:∃x,cs[i]?=some x:=⟨_,B4 W⟩;obtain ⟨g,off,cur,T,zz,rfl,hm,j3,ax⟩:=hg i x K;refine Zg<|Zh 1 GS V rfl Lw Y<|Zl ON Y ?_;refine Zm Y<|BX (Ac G4 C3 Y Y A1)<|CQ (cs:=[(g,.cells cur T zz)]) (by simp [hm]) (AA (cs:=x.A28) Ft C3 Y A1 ax) V rfl ?_;refine Ze (Al LN #[_,_,_,_,_,_,_,_,_,_])<|AD fun b2=>Xe (Xw C3 _) ?_;refine A4<|Zq<|A0<|Zo Wh (Pa #[_,_,_,_,_,_,_,_,_,_] Ft C3 Y) ?_;refine Xr [_] Y call154 Y V (kI x) ?_;refine Zv (Cm Y)<|Z0<|Zn [1,3,4,31] ?_;refine Zx<|Au Y (fun B=>?_) (fun B=>?_)
  ·
   refine A0<|A3 Y<|AJ<|Zt<|Ae<|Zt<|Zt<|Ae<|Zt<|AP rfl fN Y (by exact ⟨by rw [C4 (fun h9:EH p cs=>B (h9.all i x K))],rfl⟩)
  refine AC<|Zx<|A0<|Zm Y<|Zv (DJ (n:=0) Y Y)<|A4<|Au Y (fun X=>?_) (fun X=>?_)
  ·
   refine Zq ?_;obtain ⟨y,Z⟩:∃y,cs[i -1]?=some y:=⟨_,B4 A1⟩;obtain ⟨g2,gy,O,T2,ek,e2,bn,gq,U⟩:=hg (i -1) y Z;injection e2 with e2
   injection e2 with e21 e22
   subst e21 e22;refine Zg<|Zh 1 GS V rfl Lw Y<|Zl ON Y ?_;refine Zm Y<|Yb (n:=1) Y Y ?_;refine BX (Ac G4 C3 Y Y A1)<|CQ (cs:=[(g,.cells O T2 ek)]) (by simp [bn]) (AA (cs:=y.A28) Ft C3 Y A1 U) V rfl ?_;refine Ze (Al LN #[_,_,_,_,_,_,_,_,_,_])<|AD fun b3=>Xe (Xw C3 _) ?_;refine A4<|A0<|Zh 0 B8 V rfl A5 Y<|Zl AE Y ?_;refine Zh 0 B8 V rfl A5 Y<|Zl AE Y ?_;refine Zv (Er Y Y)<|Zm Y<|Am (t:=45) Y V (fun cu=>?_) (fun cu=>?_)
   ·
    repeat refine A7 Y rfl ?_
    refine Zv (AV Y Y)<|Z0<|Zn [1,3,58] ?_;refine Zx<|Cn Y<|A0<|A3 Y<|AJ<|Ae<|Zt<|Zt<|Ae<|Zt<|AP rfl fN Y (by exact ⟨by rw [C4 (fun h9:EH p cs=>by have J:=h9.ord (i -1) y x Z (by rw [show i -1+1=i by omega];exact K);unfold Chg.lt at J;omega)],rfl⟩)
   refine Yf 0 B8 V rfl A5 Y<|Yl AE Y ?_;refine Yf 0 B8 V rfl A5 Y<|Yl AE Y ?_;refine Yg (CP Y Y)<|Zf Y Y ?_;refine Am (t:=51) Y V (fun cO=>?_) (fun cO=>?_)
   ·
    refine Yf 1 B8 V rfl A5 Y<|Yl AE Y ?_;refine Yf 1 B8 V rfl A5 Y<|Yl AE Y ?_;refine Yg (H9 Y Y)<|Yg (AV Y Y)<|Zv (AL Y Y)<|Z0<|Zn [1,3,58] ?_;refine Zx<|Au Y (fun d9=>?_) (fun d9=>?_)
    ·
     refine A0<|A3 Y<|AJ<|Ae<|Zt<|Zt<|Ae<|Zt<|AP rfl fN Y (by exact ⟨by rw [C4 (fun h9:EH p cs=>by have J:=h9.ord (i -1) y x Z (by rw [show i -1+1=i by omega];exact K);unfold Chg.lt at J;omega)],rfl⟩)
    refine AC<|A8<|Zx<|Zg<|Zm Y<|Ya (n:=1) Y Y<|AG Y<|Zn [3,1] ?_;refine Ab (e':=[(3,_)]) (by exact ⟨i+1,V,⟨by omega,M8 G K (HT.1 B),Li I K (by(right;refine ⟨y,Z,?_⟩;unfold Chg.lt;omega))⟩,V,V⟩)
   repeat refine A7 Y rfl ?_
   refine Yg (AL Y Y)<|Zv (AL Y Y)<|Z0<|Zn [1,3,58] ?_;refine Zx<|Ch Y<|AC<|A8<|Zx<|Zg<|Zm Y<|Ya (n:=1) Y Y<|AG Y<|Zn [3,1] ?_;refine Ab (e':=[(3,_)]) (by exact ⟨i+1,V,⟨by omega,M8 G K (HT.1 B),Li I K (by(right;refine ⟨y,Z,?_⟩;unfold Chg.lt;omega))⟩,V,V⟩)
  refine AC<|A8<|Zx<|Zg<|Zm Y<|Ya (n:=1) Y Y<|AG Y<|Zn [3,1] ?_;refine Ab (e':=[(3,_)]) (by exact ⟨i+1,V,⟨by omega,M8 G K (HT.1 B),Li I K (by(left;omega))⟩,V,V⟩)
 refine Ay<|Zt<|Zt<|AR<|Zx<|A0<|A3 Y<|AJ<|AP rfl fN Y (by exact ⟨by rw [CM (⟨by omega,by omega,fun j c hc=>G j c (by have:=(B9.1 hc).1;omega) hc,fun j b c hb hc=>I j b c (by have:=(B9.1 hc).1;omega) hb hc⟩:EH p cs)],rfl⟩)
def iA(M:List A9)(v:Value)(rs:List AU):Prop:=∃p cap,v= .slice p rs.length cap/\rs.length<=maxLen/\∀(i:Nat) (r:AU),rs[i]?=some r->∃g off cur T zz,p=some ⟨g,off,none⟩/\(g,Obj.cells cur T zz)∈M/\off+i*5+5<=cur.size/\cur.extract (off+i*5) (off+i*5+5)=r.A29
variable{cur:Array Value}
theorem Tt{cs:Array Value}{a n j:Nat}{v:Value}(h:cur.extract a (a+n)=cs)(hv:cs[j]?=some v):cur[a+j]?=some v:=by
 rw [<-h,al]at hv;split at hv
 · exact hv
 · cases hv
def AU.lt2(r:AU)(t k:Int):Prop:=r.t<t\/r.t=t/\r.k<k
instance(r:AU)(t k:Int):Decidable (r.lt2 t k):=inferInstanceAs(Decidable (_\/_))
def AU.is(r:AU)(t k:Int):Prop:=r.t=t/\r.k=k
instance(r:AU)(t k:Int):Decidable (r.is t k):=inferInstanceAs(Decidable (_/\_))
def BP(rs:List AU):Prop:=rs.Pairwise (fun a b=>a.lt2 b.t b.k)
def E5(rs:List AU)(t k:Int):Nat:=(rs.takeWhile (fun r=>decide (r.lt2 t k))).length
theorem VQ:∀{rs:List AU} {t k:Int} {m:Nat},m<=rs.length->(∀(i:Nat) (r:AU),i<m->rs[i]?=some r->r.lt2 t k)->(∀(i:Nat) (r:AU),m<=i->rs[i]?=some r->¬r.lt2 t k)->E5 rs t k=m
 |[],t,k,m,hm,_,_=>by simp only [J1]at hm;simp [E5];omega
 |r::rs,t,k,0,_,_,h2=>by unfold E5;rw [P2,AK (by simpa using h2 0 r A1 rfl)];rfl
 |r::rs,t,k,m+1,hm,h1,h2=>by
  unfold E5;rw [P2,AM (by simpa using h1 0 r A1 rfl),DH];exact congrArg (·+1) (VQ (by simpa using hm) (fun i x hi g=>h1 (i+1) x A1 g) (fun i x hi g=>h2 (i+1) x A1 g))
variable{k t:Int}
theorem QE{a b:AU}(h:a.lt2 b.t b.k)(g:b.lt2 t k):a.lt2 t k:=by unfold AU.lt2 at*;omega
variable{rs:List AU}
theorem V4(h:BP rs){j:Nat}{a b:AU}(g:i<j)(m:rs[i]?=some a)(B:rs[j]?=some b):a.lt2 b.t b.k:=by
 obtain ⟨hi,rfl⟩:=B9.1 m;obtain ⟨G,rfl⟩:=B9.1 B;exact du.1 h i j hi G g
variable{x:AU}
theorem WE(h:BP rs){m:Nat}(G:rs[m]?=some x)(B:x.lt2 t k):∀(i:Nat) (r:AU),i<m+1->rs[i]?=some r->r.lt2 t k:=by
 intro i r hi g;rcases Dg i m with h9|h9
 · exact QE (V4 h h9 g G) B
 · rw [show i=m by omega,G]at g;injection g with g;rw [<-g];exact B
theorem WH(h:BP rs){m:Nat}(G:rs[m]?=some x)(B:¬x.lt2 t k):∀(i:Nat) (r:AU),m<=i->rs[i]?=some r->¬r.lt2 t k:=by
 intro i r hi g hc;rcases Dg m i with h9|h9
 · exact B (QE (V4 h h9 G g) hc)
 · rw [show i=m by omega,G]at g;injection g with g;rw [<-g]at hc;exact B hc
theorem YT(Z:Nat)(q:Option Addr)(cap:Nat)(p t k:Int)(rs:List AU)(M:List A9)(hO:iA M (.slice q rs.length cap) rs)(hn:rs.length<=1000000)(K:BP rs):BI prog 78 #[I5 Z,I4 t,I4 k] [[(Z,.cells #[.slice q rs.length cap,I4 p] 87 (0,0))],M] (I4 (E5 rs t k:Int)):=by
 have bn:=mL;obtain ⟨p9,X,e9,cu,hg⟩:=hO;injection e9 with e91 e92 e93
 subst e91 e93;refine Se func78 ntmps78 [0,1,2] ?_;intro u R;refine A0<|A3 Y<|A0<|A3 Y<|A0<|Zm Y<|Zp Y V<|Zh 0 I0 V rfl C6 Y<|Zl FA Y ?_;refine Zv (Aa B6 Y)<|A3 Y<|Zq<|AQ<|Zb [7,8,0,1,2] ?_;refine BB (e0:=[(7,_),(8,_)]) (fun m e H=>∃(lo hi:Nat),m=hi -lo/\(lo<=hi/\hi<=rs.length/\(∀(i:Nat) (r:AU),i<lo->rs[i]?=some r->r.lt2 t k)/\(∀(i:Nat) (r:AU),hi<=i->rs[i]?=some r->¬r.lt2 t k))/\e=[(7,I4 (lo:Int)),(8,I4 (hi:Int))]/\H=[]) (by exact ⟨0,rs.length,V,⟨by omega,by omega,by intro i r hi;omega,by intro i r hi W;have:=(B9.1 W).1;omega⟩,V,V⟩) Wp ?_;rintro _ _ _ ⟨lo,hi,rfl,⟨ax,af,G,B⟩,rfl,rfl⟩;refine Zq<|A0<|Zm Y<|Zm Y<|Zv (Av Y Y)<|A4<|Au Y (fun O=>?_) (fun O=>?_)
 ·
  refine AC<|Zx<|AQ<|A0<|Zm Y<|Zm Y<|Ya Y Y ?_
  (refine BX (K9 (n:=2) Y Y ?_ ?_) ?_;(focus (omega));(focus (omega)))
  refine A3 Y<|Zq ?_;obtain ⟨x,J⟩:∃x,rs[(lo+hi)/2]?=some x:=⟨_,B4 A1⟩;obtain ⟨g,off,cur,T,zz,rfl,U,cO,I⟩:=hg _ x J;refine Zg<|Zm Y<|Zp Y V<|Zh 0 I0 V rfl C6 Y<|Zl FA Y ?_;refine Zm Y<|BX (Ac B6 An Y Y A1)<|Zv (Ap (off:=0) FG V rfl A5 Y)<|CQ (cs:=[(g,.cells cur T zz)]) (by simp [U]) (BO AE Y (Tt (j:=0) I V)) V rfl ?_;refine Zm Y<|Zv (Dt Y Y)<|Zm Y<|Am (t:=32) Y V (fun h1=>?_) (fun h1=>?_)
  ·
   repeat refine A7 Y rfl ?_
   refine Zv (AV Y Y)<|Z0<|Zn [0,1,2,7,8,9,55] ?_;refine Zx<|Cn Y<|Zg<|Zm Y<|Ya (n:=1) Y Y<|AG Y<|A8<|Zn [7,8,0,1,2] ?_;refine Ab (e':=[(7,_),(8,_)]) (by exact ⟨(lo+hi)/2+1,hi,V,⟨by omega,by omega,WE K J (by unfold AU.lt2;omega),B⟩,V,V⟩)
  refine Zf Y Y<|Yg (Aq Y V)<|Yf 0 I0 V rfl C6 Y<|Yl FA Y ?_;refine Zf Y Y ?_
  (refine Gr Y (Ac B6 An Y Y ?_) rfl rfl ?_;(focus (omega)))
  refine Yg (Ap (off:=0) FG V rfl A5 Y)<|Lj Y (cs:=[(g,.cells cur T zz)]) (by simp [U]) (BO AE Y (Tt (j:=0) I V)) V rfl ?_;refine Zf Y Y<|Yg (CP Y Y)<|Zf Y Y ?_;refine Am (t:=43) Y V (fun h2=>?_) (fun h2=>?_)
  ·
   refine Zf Y Y<|Yg (Aq Y V)<|Yf 0 I0 V rfl C6 Y<|Yl FA Y ?_;refine Zf Y Y ?_
   (refine Gr Y (Ac B6 An Y Y ?_) rfl rfl ?_;(focus (omega)))
   refine Yg (Ap (off:=1) FG V rfl A5 Y)<|Lj Y (cs:=[(g,.cells cur T zz)]) (by simp [U]) (BO AE Y (Tt (j:=1) I V)) V rfl ?_;refine Zf Y Y<|Yg (Dt Y Y)<|Yg (AV Y Y)<|Zv (AL Y Y)<|Z0<|Zn [0,1,2,7,8,9,55] ?_;refine Zx<|Au Y (fun h3=>?_) (fun h3=>?_)
   ·
    refine Zg<|Zm Y<|Ya (n:=1) Y Y<|AG Y<|A8<|Zn [7,8,0,1,2] ?_;refine Ab (e':=[(7,_),(8,_)]) (by exact ⟨(lo+hi)/2+1,hi,V,⟨by omega,by omega,WE K J (by unfold AU.lt2;omega),B⟩,V,V⟩)
   refine Zg<|Zm Y<|AG Y<|A8<|Zn [7,8,0,1,2] ?_;refine Ab (e':=[(7,_),(8,_)]) (by exact ⟨lo,(lo+hi)/2,V,⟨by omega,by omega,G,WH K J (by unfold AU.lt2;omega)⟩,V,V⟩)
  repeat refine A7 Y rfl ?_
  refine Yg (AL Y Y)<|Zv (AL Y Y)<|Z0<|Zn [0,1,2,7,8,9,55] ?_;refine Zx<|Ch Y<|Zg<|Zm Y<|AG Y<|A8<|Zn [7,8,0,1,2] ?_;refine Ab (e':=[(7,_),(8,_)]) (by exact ⟨lo,(lo+hi)/2,V,⟨by omega,by omega,G,WH K J (by unfold AU.lt2;omega)⟩,V,V⟩)
 refine Ay<|Zt<|Zt<|AR<|Zx<|A0<|Zm Y<|A3 Y<|AJ<|AP rfl results78 Y (by exact ⟨by rw [VQ A1 G (fun i r hi W=>B i r A1 W)],rfl⟩)
def Fh(rs:List AU)(t k:Int):AU×Bool:=match rs[E5 rs t k]?with
 |some r=>if r.is t k then(r,true)else(AU.zero,false)
 |none=>(AU.zero,false)
theorem VR(rs:List AU)(t k:Int):E5 rs t k<=rs.length:=by unfold E5;exact List.IsPrefix.length_le (List.takeWhile_prefix _)
theorem mJ(m:rs[E5 rs t k]?=some x)(g:x.t=t)(h2:x.k=k):Fh rs t k=(x,true):=by unfold Fh;rw [m];exact AM ⟨g,h2⟩
theorem jI(g:rs[E5 rs t k]?=some x)(h:¬(x.t=t/\x.k=k)):Fh rs t k=(AU.zero,false):=by unfold Fh;rw [g];exact AK h
theorem si(h:¬E5 rs t k<rs.length):Fh rs t k=(AU.zero,false):=by unfold Fh;rw [LS A1]
theorem pR(K:Nat)(q:Option Addr)(cap:Nat)(p t k:Int)(rs:List AU)(M:List A9)(U:iA M (.slice q rs.length cap) rs)(hn:rs.length<=1000000)(hs:BP rs):BI prog 32 #[I5 K,I4 t,I4 k] [[(K,.cells #[.slice q rs.length cap,I4 p] 87 (0,0))],M] (.tuple #[.agg #[I4 (Fh rs t k).1.t,I4 (Fh rs t k).1.k,I4 (Fh rs t k).1.v.a,I4 (Fh rs t k).1.v.b,I4 (Fh rs t k).1.v.c],.bool (Fh rs t k).2]):=by
 have I:=id U;have af:=mL
 obtain ⟨p9,O,Z,ax,hg⟩:=U;injection Z with e91 e92 e93
 subst e91 e93;have bn:=VR rs t k
 refine Se func32 ntmps32 [0,1,2] ?_;intro u R;refine A0<|Ze (Al DS #[_,_,_,_,_])<|AD fun b1=>A3 Y<|A0<|Zm Y<|Zm Y<|Zm Y<|Xr [_,_,_] Y call78 Y V (YT K _ _ p t k rs M I hn hs) ?_;refine A3 Y<|Zq<|A0<|Zm Y<|Zm Y<|Zp Y V<|Zh 0 I0 V rfl C6 Y<|Zl FA Y ?_;refine Zv (Aa B6 Y)<|Zv (Av Y Y)<|Zm Y<|Am (t:=20) Y V (fun B=>?_) (fun B=>?_)
 ·
  obtain ⟨x,G⟩:∃x,rs[E5 rs t k]?=some x:=⟨_,B4 B⟩;obtain ⟨g,off,cur,T,zz,rfl,J,cu,m⟩:=hg _ x G;refine Zf Y Y<|Yg (Aq Y V)<|Yf 0 I0 V rfl C6 Y<|Yl FA Y ?_;refine Zf Y Y ?_
  (refine Gr Y (Ac B6 An Y Y ?_) rfl rfl ?_;(focus (omega)))
  refine Yg (Ap (off:=0) FG V rfl A5 Y)<|Lj Y (cs:=[(g,.cells cur T zz)]) (by simp [J]) (BO AE Y (Tt (j:=0) m V)) V rfl ?_;refine Zf Y Y<|Yg (CP Y Y)<|Zv (AV Y Y)<|Zm Y<|Am (t:=32) Y V (fun X=>?_) (fun X=>?_)
  ·
   refine Zf Y Y<|Yg (Aq Y V)<|Yf 0 I0 V rfl C6 Y<|Yl FA Y ?_;refine Zf Y Y ?_
   (refine Gr Y (Ac B6 An Y Y ?_) rfl rfl ?_;(focus (omega)))
   refine Yg (Ap (off:=1) FG V rfl A5 Y)<|Lj Y (cs:=[(g,.cells cur T zz)]) (by simp [J]) (BO AE Y (Tt (j:=1) m V)) V rfl ?_;refine Zf Y Y<|Yg (CP Y Y)<|Zv (AV Y Y)<|Z0<|Zn [0,6,8,43] ?_;refine Zx<|Au Y (fun W=>?_) (fun W=>?_)
   ·
    refine A0<|Zm Y<|Zp Y V<|Zh 0 I0 V rfl C6 Y<|Zl FA Y ?_;refine Zm Y<|BX (Ac B6 An Y Y A1)<|CQ (cs:=[(g,.cells cur T zz)]) (by simp [J]) (AA (cs:=x.A29) CI An Y A1 m) V rfl ?_;refine Xe (Xw An _) ?_;refine A3 Y<|AJ<|Zt<|Bi rfl results32 Y Wh (Ak CI An Wn (rfl)) Y (by exact ⟨by rw [mJ G X W];rfl,rfl⟩)
   refine AC<|Zx<|A0<|Zv (BL (vs:=[]) (cs:=#[_,_,_,_,_]) Y (AY (pl:=#[(0,1),(1,1),(2,3)]) DS FG (fun _=>by kernel_rfl) V))<|Xe (Xw An _) ?_;refine A3 Y<|AJ<|Bi V results32 Y Wh (Ak CI An Wn (V)) Y (by exact ⟨by(rw [jI G A1];rfl),V⟩)
  repeat refine A7 Y rfl ?_
  refine Zv (AL Y Y)<|Z0<|Zn [0,6,8,43] ?_;refine Zx<|Ch Y<|AC<|Zx<|A0<|Zv (BL (vs:=[]) (cs:=#[_,_,_,_,_]) Y (AY (pl:=#[(0,1),(1,1),(2,3)]) DS FG (fun _=>by kernel_rfl) V))<|Xe (Xw An _) ?_;refine A3 Y<|AJ<|Bi V results32 Y Wh (Ak CI An Wn (V)) Y (by exact ⟨by(rw [jI G A1];rfl),V⟩)
 repeat first|refine A7 Y rfl ?_|refine Zv (AL Y Y)<|Zm Y ?_
 refine Zv (AL Y Y)<|Z0<|Zn [0,6,8,43] ?_;refine Zx<|Ch Y<|AC<|Zx<|A0<|Zv (BL (vs:=[]) (cs:=#[_,_,_,_,_]) Y (AY (pl:=#[(0,1),(1,1),(2,3)]) DS FG (fun _=>by kernel_rfl) V))<|Xe (Xw An _) ?_;refine A3 Y<|AJ<|Bi V results32 Y Wh (Ak CI An Wn (V)) Y (by exact ⟨by(rw [si B];rfl),V⟩)
def out(lo hi n:Int):Bool:=decide (n<lo)||decide (hi<n)
def Kz(cur:Array Value)(o:Nat)(ns:List Int):Prop:=∀(i:Nat) (n:Int),ns[i]?=some n->cur[o+i]?=some (I4 n)
theorem nU(p:Int->Bool)(ls:List Int)(i:Nat)(x:Int)(h:ls[i]?=some x):(ls.take (i+1)).any p=((ls.take i).any p||p x):=by
 rw [PF,h];simp
theorem xw(p:Int->Bool)(ls:List Int)(i:Nat)(x:Int)(h:ls[i]?=some x)(g:p x=true):ls.any p=true:=by
 rw [kO];exact ⟨x,DE h,g⟩
theorem ym(lp m:Nat)(n lo hi:Int):BI prog 182 #[I4 n,I5 lp,I5 m] [[(lp,.cells #[I4 lo] 3 (0,0))],[(m,.cells #[I4 hi] 3 (0,0))]] (.bool (out lo hi n)):=by
 refine Se func182 ntmps182 [0,1,2] ?_;intro u R;refine A0<|A3 Y<|A0<|Zm Y<|Zl AE Y ?_;refine Zv (Dt Y Y)<|Zm Y<|Am (t:=8) Y V (fun g=>?_) (fun g=>?_)
 ·
  refine A7 Y V<|A7 Y V<|A7 Y V<|Zv (AV Y Y)<|A3 Y<|AJ<|AP V results182 Y (by exact ⟨by simp [out,g],V⟩)
 refine Zf Y Y<|Yl AE Y ?_;refine Yg (Er Y Y)<|Zv (AL Y Y)<|A3 Y<|AJ<|AP V results182 Y (by exact ⟨by simp [out,g],V⟩)
theorem fO(lp J g off cap:Nat)(lo hi:Int)(cur:Array Value)(T:TypeId)(z:Nat×Nat)(ls:List Int)(K:Kz cur off ls)(X:ls.length<=1073741824):
 BZ prog 239 #[.slice (some ⟨g,off,none⟩) ls.length cap,.func (.func 182) #[] #[I5 lp,I5 J]] [[(lp,.cells #[I4 lo] 3 (0,0))],[(J,.cells #[I4 hi] 3 (0,0))],[(g,.cells cur T z)]] (fun r H'=>∃k:Int,r=I4 k/\decide (0<=k)=ls.any (out lo hi)/\H'=[[(lp,.cells #[I4 lo] 3 (0,0))],[(J,.cells #[I4 hi] 3 (0,0))],[(g,.cells cur T z)]]):=by
 refine Se func239 ntmps239 [0,1] ?_;intro u R;refine A0<|A3 Y<|Zq<|A0<|Zm Y<|Zv (Aa D0 Y)<|Zm Y<|A4<|AQ<|Zb [8,0,1,7] ?_;refine BB (e0:=[(8,_)]) (fun m e H=>∃(i:Nat),m=ls.length -i/\(i<=ls.length/\(ls.take i).any (out lo hi)=false)/\e=[(8,I4 (i:Int))]/\H=[]) (by exact ⟨0,V,⟨C0 _,V⟩,V,V⟩) Wp ?_;rintro _ _ _ ⟨i,rfl,⟨W,B⟩,rfl,rfl⟩;refine A0<|Zv (Av Y Y)<|A4<|Zq<|Au Y (fun I=>?_) (fun I=>?_)
 ·
  refine AC<|Zx<|Zq<|AQ<|A0<|Zm Y<|A3 Y<|Zq ?_;obtain ⟨x,O⟩:∃x,ls[i]?=some x:=⟨_,B4 I⟩;refine Zg<|Zm Y<|Zm Y<|Zm Y<|BX (Cf D0 A5 Y Y A1)<|Zl AE Y (hv:=by exact K i x O) ?_;refine Xr [_] Y call182 Y V (ym lp J x lo hi) ?_;refine A4<|AX Y (fun G=>?_) (fun G=>?_)
  ·
   refine A0<|Zm Y<|A3 Y<|AJ<|Ae<|Zt<|Zt<|Ae<|Zt<|AP rfl results239 Y (by exact ⟨(i:Int),rfl,by rw [xw _ ls i x O G];exact CM A1,rfl⟩)
  refine AC<|A8<|Zx<|Zg<|Ya (n:=1) Y Y<|Zm Y<|Z0<|Zn [8,0,1,7] ?_;refine Ab (e':=[(8,_)]) (by exact ⟨i+1,rfl,⟨by omega,by rw [nU _ ls i x O,B];exact G⟩,rfl,rfl⟩)
 have U:i=ls.length:=by omega
 subst U;rw [G0]at B;refine Ay<|Zt<|Zt<|AR<|Zx<|A0<|A3 Y<|AJ<|AP rfl results239 Y (by exact ⟨-1,rfl,by rw [B];rfl,rfl⟩)
theorem Ub(lp B g off cap:Nat)(lo hi:Int)(cur:Array Value)(T:TypeId)(z:Nat×Nat)(ls:List Int)(m:Kz cur off ls)(I:ls.length<=1073741824):
 BI prog 181 #[.slice (some ⟨g,off,none⟩) ls.length cap,.func (.func 182) #[] #[I5 lp,I5 B]] [[(lp,.cells #[I4 lo] 3 (0,0))],[(B,.cells #[I4 hi] 3 (0,0))],[(g,.cells cur T z)]] (.bool (ls.any (out lo hi))):=by
 refine Se func181 ntmps181 [0,1] ?_;intro u R;refine A0<|A3 Y<|A0<|Zm Y<|Zm Y<|Zc [_,_] Y call239 Y V (fO lp B g off cap lo hi cur T z ls m I) ?_;rintro _ _ ⟨_,⟨k,rfl,G,rfl⟩,rfl⟩;refine Zv (H9 Y Y)<|A3 Y<|AJ<|AP rfl results181 Y (by exact ⟨by rw [<-G],rfl⟩)
theorem V5(g off cap:Nat)(lo hi:Int)(cur:Array Value)(T:TypeId)(z:Nat×Nat)(ls:List Int)(m:Kz cur off ls)(B:ls.length<=1073741824):
 BI prog 107 #[I4 lo,I4 hi,.slice (some ⟨g,off,none⟩) ls.length cap] [[(g,.cells cur T z)]] (.bool (!(ls.any (out lo hi)))):=by
 refine Se func107 ntmps107 [0,1,2] ?_;intro u R;refine A0<|Ze (Bx #[_])<|AD fun G=>Ze (Bx #[_])<|AD fun I=>A3 Y<|A0<|Zm Y<|Zv (Bg (vs:=[]) (us:=[_,_]) Y Y)<|Xr [_,_] Y call181 Y V (Ub _ _ g off cap lo hi cur T z ls m B) ?_;refine Zv (Bo Y)<|A3 Y<|AJ<|AP V results107 Y (by exact ⟨V,V⟩)
def EK(c:Chg)(th:Bool)(v:V3):AU:=if th then⟨c.t,c.k,v⟩else AU.zero
variable{v:V3}
theorem sS{g:Bool}(h:g=true):EK c g v=⟨c.t,c.k,v⟩:=AM h
theorem zM{g:Bool}(h:g=false):EK c g v=AU.zero:=AK (by rw [h];decide)
theorem iZ(lo hi n:Int):(!(([n]:List Int).any (out lo hi)))=decide (lo<=n/\n<=hi):=by
 simp only [kk,kn,eL,out];by_cases g:n<lo<;>by_cases h2:hi<n<;>simp [g,h2]<;>omega
theorem zA(v:V3):(!(([v.a,v.b,v.c]:List Int).any (out (-1000000000) 1000000000)))=decide v.ok:=by
 have h:∀n,out (-1000000000) 1000000000 n=!decide (inV n):=by
  intro n;have:=iZ (-1000000000) 1000000000 n
  simp only [kk,kn,eL]at this;rw [<-Bool.not_not (out _ _ n),this];rfl
 simp only [kk,kn,eL,h,V3.ok];by_cases g:inV v.a<;>by_cases h2:inV v.b<;>by_cases m:inV v.c<;>simp [g,h2,m]
theorem rK{n:Int}(h:cur[o]?=some (I4 n)):Kz cur o [n]:=by
 intro i x g;rcases i with _|i
 · injection g with g;rw [<-g];exact h
 · cases g
theorem rI(h0:cur[o]?=some (I4 v.a))(m:cur[o+1]?=some (I4 v.b))(h2:cur[o+2]?=some (I4 v.c)):Kz cur o [v.a,v.b,v.c]:=by
 intro i x g;rcases i with _|_|_|i
 · injection g with g;rw [<-g];exact h0
 · injection g with g;rw [<-g];exact m
 · injection g with g;rw [<-g];exact h2
 · cases g
theorem KY(g off cap:Nat)(lo hi:Int)(cur:Array Value)(T:TypeId)(z:Nat×Nat)(n:Int)(h:cur[off]?=some (I4 n)):
 BI prog 107 #[I4 lo,I4 hi,.slice (some ⟨g,off,none⟩) 1 cap] [[(g,.cells cur T z)]] (.bool (decide (lo<=n/\n<=hi))):=by
 rw [<-iZ];exact V5 g off cap lo hi cur T z [n] (rK h) B0
theorem dD(g off cap:Nat)(cur:Array Value)(T:TypeId)(z:Nat×Nat)(v:V3)(h:Kz cur off [v.a,v.b,v.c]):
 BI prog 107 #[I4 (-1000000000),I4 1000000000,.slice (some ⟨g,off,none⟩) 3 cap] [[(g,.cells cur T z)]] (.bool (decide v.ok)):=by
 rw [<-zA];exact V5 g off cap _ _ cur T z [v.a,v.b,v.c] h B0
theorem Wm(c:Chg)(m:Bool)(v:V3):BI prog 202 #[.agg c.A28,.bool m,.agg #[I4 v.a,I4 v.b,I4 v.c]] [] (.tuple #[.agg #[I4 (EK c m v).t,I4 (EK c m v).k,I4 (EK c m v).v.a,I4 (EK c m v).v.b,I4 (EK c m v).v.c],.bool m]):=by
 refine Se func202 ntmps202 [0,1,2] ?_;intro u R;refine A0<|Ze (Bx #[_,_,_,_,_,_,_,_,_,_])<|AD fun B=>Ze (Bx #[_,_,_])<|AD fun G=>Ze (Al DS #[_,_,_,_,_])<|AD fun I=>A3 Y<|Zq<|A0<|Zm Y<|Zv (Bo Y)<|A4<|AX Y (fun g=>?_) (fun g=>?_)
 ·
  refine A0<|Zv (BL (vs:=[]) (cs:=#[_,_,_,_,_]) Y (AY (pl:=#[(0,1),(1,1),(2,3)]) DS FG (fun _=>by kernel_rfl) V))<|Xe (Xw An _) ?_;refine A3 Y<|AJ<|Zt<|Bi V results202 Y Wh (Ak CI An Wn (V)) Y (by simp only [dy,S1,cT]at g;exact ⟨by(rw [zM g,g];rfl),V⟩)
 refine AC<|Zx<|A0<|Zh 0 B8 V rfl A5 Y<|Zl AE Y ?_;refine Zh 1 B8 V rfl A5 Y<|Zl AE Y ?_;refine Zo Wh (Pa #[_,_,_] HE DG Y) ?_;refine Zv (BL (vs:=[(0,_),(1,_),(2,_)]) (cs:=#[_,_,_,_,_]) Y (AY (pl:=#[(0,1),(1,1),(2,3)]) DS FG (fun _=>by kernel_rfl) rfl))<|Xe (BK An Y Y (by(simp [Value.oneCell',Value.cells];done)) Wu AN E3 Wn (by exact BA _)) ?_;refine AG Y<|Zn [6,7] ?_;refine Zx<|AJ<|Bi V results202 Y Wh (Ak CI An Wn (V)) Y (by simp only [dy,S1,cT]at g;exact ⟨by(rw [sS g,g];rfl),V⟩)
theorem S9(r:AU):BI prog 203 #[.agg r.A29] [] (.bool (decide r.ok)):=by
 refine Se func203 ntmps203 [0] ?_;intro u R;refine A0<|Ze (Bx #[_,_,_,_,_])<|AD fun I=>A3 Y<|A0<|Zh 0 FG V rfl A5 Y<|Zl AE Y ?_;refine Ze (Aj (vs:=[_]) (cs:=[_]) D0 A5 H3 Y V rfl V rfl V)<|AD fun J=>Xr [_,_,_] Y call107 Y V (KY _ 0 1 _ _ _ _ _ r.t V) ?_;refine Zm Y<|Am (t:=7) Y V (fun g=>?_) (fun g=>?_)
 ·
  refine Yf 1 FG V rfl A5 Y<|Yl AE Y ?_;refine Ze (Aj (vs:=[_]) (cs:=[_]) D0 A5 H3 Y V rfl V rfl V)<|AD fun K=>Xr [_,_,_] Y call107 Y V (KY _ 0 1 _ _ _ _ _ r.k V) ?_;refine Zv (AV Y Y)<|Zm Y<|Am (t:=13) Y V (fun m=>?_) (fun m=>?_)
  ·
   refine Yf 2 FG V rfl DG Y<|Yg (Ie Hj A5 Y)<|Xr [_,_,_] Y call107 Y V (dD _ 2 3 _ _ _ r.v (rI V rfl V)) ?_;refine Zv (AV Y Y)<|AG Y<|Zn [2] ?_;refine Zx<|AJ<|AP V results203 Y (by exact ⟨by(simp_all [AU.ok];done),V⟩)
  refine A7 Y V<|A7 Y V<|A7 Y V<|Zv (AL Y Y)<|AG Y<|Zn [2] ?_;refine Zx<|AJ<|AP V results203 Y (by exact ⟨by(simp_all [AU.ok];done),V⟩)
 repeat first|refine A7 Y rfl ?_|refine Zv (AL Y Y)<|Zm Y ?_
 refine Zv (AL Y Y)<|AG Y<|Zn [2] ?_;refine Zx<|AJ<|AP rfl results203 Y (by exact ⟨by rw [C4 (fun h9:r.ok=>by have B:=h9.2.1;have G:=h9.2.2;omega)],rfl⟩)
theorem YH(c:Chg)(g:Bool)(v:V3):BI prog 125 #[.agg c.A28,.bool g,.agg #[I4 v.a,I4 v.b,I4 v.c]] [] (.bool (if g then decide (EK c g v).ok else decide (v=V3.zero))):=by
 refine Se func125 ntmps125 [0,1,2] ?_;intro u R;refine A0<|Ze (Bx #[_,_,_,_,_,_,_,_,_,_])<|AD fun J=>Ze (Bx #[_,_,_])<|AD fun K=>A3 Y<|A0<|Zo Wh (Pa #[_,_,_,_,_,_,_,_,_,_] Ft C3 Y) ?_;refine Zm Y<|Zo Wh (Pa #[_,_,_] HE DG Y) ?_;refine Xr [_,_,_] Y call202 Y V (Wm c g v) ?_;refine Zm Y<|Zd Y V<|Zd Y V<|Ze (Al DS #[_,_,_,_,_])<|AD fun O=>Xe (Xw An _) ?_;refine AG Y<|Zn [1,5,7] ?_;refine Zx<|A0<|Zm Y<|Zm Y<|Ag (t:=17) Y V (fun m=>?_) (fun m=>?_)
 ·
  refine Dv Y Wh (Pa #[_,_,_,_,_] CI An Y) V rfl ?_;refine Xr [_] Y call203 Y V (S9 _) ?_;refine Zv (AV Y Y)<|Zm Y<|Am (t:=21) Y V (fun B=>?_) (fun B=>?_)
  ·
   repeat refine A7 Y rfl ?_
   refine Zv (AV Y Y)<|AG Y<|Zn [6] ?_;refine Zx<|AJ<|AP V ij Y (by exact ⟨by simp_all,V⟩)
  refine Zf Y Y<|Yg (Bo Y)<|Zf Y Y ?_;refine Ag (t:=24) Y V (fun G=>?_) (fun G=>?_)
  ·
   refine Dv Y Wh (Pa #[_,_,_] HE DG Y) V rfl ?_;refine Yg (BL (vs:=[]) (cs:=#[_,_,_]) Y (DZ cD Hj A5 V)) ?_;refine Yg (IR A6 Hj Cp AE A5 Y Y) ?_;refine Yg (AV Y Y)<|Zv (AL Y Y)<|AG Y<|Zn [6] ?_;refine Zx<|AJ<|AP V ij Y (by exact ⟨by simp_all,V⟩)
  refine A7 Y V<|A7 Y V<|A7 Y V<|Yg (AL Y Y)<|Zv (AL Y Y)<|AG Y<|Zn [6] ?_;refine Zx<|AJ<|AP V ij Y (by exact ⟨by simp_all,V⟩)
 refine A7 Y V<|A7 Y V<|Zv (AL Y Y)<|Zm Y<|Zf Y Y<|Yg (Bo Y)<|Zf Y Y ?_;refine Ag (t:=24) Y V (fun I=>?_) (fun I=>?_)
 ·
  refine Dv Y Wh (Pa #[_,_,_] HE DG Y) V rfl ?_;refine Yg (BL (vs:=[]) (cs:=#[_,_,_]) Y (DZ cD Hj A5 V)) ?_;refine Yg (IR A6 Hj Cp AE A5 Y Y) ?_;refine Yg (AV Y Y)<|Zv (AL Y Y)<|AG Y<|Zn [6] ?_;refine Zx<|AJ<|AP V ij Y (by exact ⟨by simp_all,V⟩)
 refine A7 Y V<|A7 Y V<|A7 Y V<|Yg (AL Y Y)<|Zv (AL Y Y)<|AG Y<|Zn [6] ?_;refine Zx<|AJ<|AP V ij Y (by exact ⟨by simp_all,V⟩)
end Go.Proofs.YteaiajghbkenoaaGreatDoor
