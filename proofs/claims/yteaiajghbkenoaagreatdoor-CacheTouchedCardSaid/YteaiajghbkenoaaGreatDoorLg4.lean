/-
  DERIVED: THE SHELF's CONTRACTS AT THIS DUMP, IN PLAIN WORDS (tools/lay-plain.mjs out of 'TryzShelf.lean', which tools/lay-shelf.mjs wrote): THE SAME DECLARATIONS UNDER THE SAME NAMES: 'import', 'namespace', 'open', 'def', 'theorem' AND NOTHING ELSE: no command of the shelf's: FOR A HAND-IN. Each laying: the table of numbers ('.._ren') and one theorem, a field a fact of the dump's own or the kernel's comparison; each contract: ONE APPLICATION.
-/
/- Contracts: digest.marked, Chain. -/
/- Contracts: wire.groups, PutInt, PutString. Contracts: wire.PutString, Int, String. -/
/- Rows and changes in plain words; the reference of layer 3. -/
/- Records in plain words; ValidRecord of the reference. -/
/- The reference of layer 4: place, Get. -/
/- The program's layer 3: within. -/
import Derived.Test.YteaiajghbkenoaaGreatDoorEz
import Derived.Shelf.Strings.Builder1
import Derived.Shelf.Strings.Builder2
import Derived.Shelf.Strings.OnBuilder
import Derived.Shelf.Small.Bits
import Derived.Shelf.Small.Wraps
import Derived.Shelf.Strings.BuilderF
import Derived.Shelf.Strings.BuilderK
import Derived.Shelf.Strings.Builder2Cap
import Derived.Shelf.Strconv.Itoa0
import Derived.Shelf.Strconv.Itoa1
import Derived.Shelf.LaysM
import Derived.Shelf.Strconv.Itoa2
import Derived.Shelf.Strconv.Itoa3
import Derived.Shelf.Sort.Plain
import Derived.Shelf.Strings.BuilderCap
import Derived.Shelf.Slices.Equal
import Derived.Ground.Names2Prog
import Derived.Shelf.Slices.ReverseS
import Derived.Shelf.Slices.Clone
import Derived.Shelf.Slices.SearchI
import Derived.Shelf.Slices.Cells
import Derived.Shelf.Slices.In.SortNone
import Derived.Shelf.Slices.Empties2
import Derived.Ground.SlgnProg
import Derived.Shelf.SlicesE.Clone
import Derived.Test.YteaiajghbkenoaaGreatDoorProg
import Derived.Test.YteaiajghbkenoaaGreatDoorDg4
import Derived.Test.YteaiajghbkenoaaGreatDoorEx5
set_option linter.unusedVariables false
set_option linter.unusedSimpArgs false
namespace Go.Proofs
open Go.Shelf
def Tryz.lays156_ren:Go.Shelf.Ren:=⟨fun|156=>331|165=>344|166=>36|169=>40|240=>86|241=>349|276=>155|277=>350|n=>n,fun|31=>45|9=>9|3=>3|4=>4|0=>0|20=>20|72=>99|76=>102|70=>96|37=>97|75=>101|127=>173|164=>236|5=>5|80=>111|n=>n,fun|n=>n⟩
theorem Tryz.lays156:Go.Proofs.Lays.n156 prog Tryz.lays156_ren:={
 mixed:=by kernel_rfl
 f156:=func331.trans (congrArg some A6)
 f165:=func344.trans (congrArg some A6)
 f166:=func36.trans (congrArg some A6)
 f169:=func40.trans (congrArg some A6)
 f240:=func86.trans (congrArg some A6)
 f241:=func349.trans (congrArg some A6)
 f276:=func155.trans (congrArg some A6)
 f277:=func350.trans (congrArg some A6)
 t0:=cV
 a0:=isAgg0
 z0:=sizeOf0
 v0:=cX
 t3:=Cl
 a3:=AE
 z3:=A5
 v3:=Gk
 t4:=Pu
 a4:=E4
 z4:=CD
 v4:=Up
 t9:=GO
 a9:=HC
 z9:=F0
 v9:=HM
 t20:=underlying20
 a20:=isAgg20
 z20:=sizeOf20
 v20:=zeroValue20
 t31:=CN
 a31:=KB
 z31:=HF
 v31:=UP
 t37:=HA
 a37:=S6
 z37:=N6
 v37:=zeroValue97
 t70:=eV
 a70:=isAgg96
 z70:=sizeOf96
 v70:=zeroValue96
 t72:=S2
 a72:=isAgg99
 z72:=sizeOf99
 v72:=zeroValue99
 t75:=underlying101
 a75:=isAgg101
 z75:=sizeOf101
 v75:=zeroValue101
 t76:=underlying102
 a76:=isAgg102
 z76:=sizeOf102
 v76:=zeroValue102
 t127:=underlying173
 a127:=isAgg173
 z127:=sizeOf173
 v127:=zeroValue173
 t164:=underlying236
 a164:=isAgg236
 z164:=sizeOf236
 v164:=zeroValue236}
theorem Tryz.Builder_Extra_156:Builder.Extra prog Tryz.lays156_ren:={
 sizeBuilder:=by kernel_rfl
 liesBuilder:=by kernel_rfl
 t5:=Ln
 a5:=V0
 z5:=Hv
 v5:=S4
 infoByte:=by kernel_rfl
 cellsByte:=by kernel_rfl
 sizeByte:=by kernel_rfl
 neB5:=by decide}
open Go.RowKit in
theorem Tryz.strings_Join(I o c:Nat)(xs:List ByteArray)(m:ByteArray)(w:World)(g:∀(j:Nat) x,xs[j]?=some x->w.cell? ⟨I,o+j,none⟩=some (.string x))(J:I<w.heap.size)(K:xs.length<=140737488355328)(B:xs.length<=c)(G:(Lib.join (xs.map (·.data.toList)) m.data.toList).length<=140737488355328):
 Calls prog 331 #[.slice (some ⟨I,o,none⟩) xs.length c,.string m] w fun e O=>e= .returned (.string ⟨(Lib.join (xs.map (·.data.toList)) m.data.toList).toArray⟩)/\Below w.heap.size w O:=Any.strings_Join Tryz.lays156 Tryz.Builder_Extra_156 I o c xs m w g J K B G
def Tryz.lays125_ren:Go.Shelf.Ren:=⟨fun|125=>117|128=>199|129=>200|n=>n,fun|46=>222|3=>3|51=>300|53=>302|4=>4|5=>5|9=>9|n=>n,fun|n=>n⟩
theorem Tryz.lays125:Go.Proofs.Lays.n125 prog Tryz.lays125_ren:={
 mixed:=by kernel_rfl
 f125:=func117.trans (congrArg some A6)
 f128:=func199.trans (congrArg some A6)
 f129:=func200.trans (congrArg some A6)
 t3:=Cl
 a3:=AE
 z3:=A5
 v3:=Gk
 t4:=Pu
 a4:=E4
 z4:=CD
 v4:=Up
 t5:=Ln
 a5:=V0
 z5:=Hv
 v5:=S4
 t9:=GO
 a9:=HC
 z9:=F0
 v9:=HM
 t46:=W3
 a46:=isAgg222
 z46:=eo
 v46:=eW
 t51:=Sp
 a51:=HO
 z51:=Fc
 v51:=ec
 t53:=W4
 a53:=Z3
 z53:=cy
 v53:=ee}
theorem Tryz.bits_Len(x:Int)(w:World)(h0:0<=x)(g:x<=18446744073709551615):
 Calls prog 117 #[.int .u64 x] w fun e m=>e= .returned (I4 (Lib.bitLen x.toNat))/\m=w:=Any.bits_Len Tryz.lays125 x w h0 g
def Tryz.lays122_ren:Go.Shelf.Ren:=⟨fun|122=>238|215=>281|n=>n,fun|3=>3|4=>4|n=>n,fun|n=>n⟩
theorem Tryz.lays122:Go.Proofs.Lays.n122 prog Tryz.lays122_ren:={
 mixed:=by kernel_rfl
 f122:=func238.trans (congrArg some A6)
 f215:=func281.trans (congrArg some A6)
 t3:=Cl
 a3:=AE
 z3:=A5
 v3:=Gk
 t4:=Pu
 a4:=E4
 z4:=CD
 v4:=Up}
open Go.RowKit in
theorem Tryz.cmp_Compare_int(x y:Int)(w:World):
 Calls prog 238 #[I4 x,I4 y] w fun e g=>e= .returned (I4 (Lib.compareInt x y))/\g=w:=Any.cmp_Compare_int Tryz.lays122 x y w
def Tryz.laysM171_ren:Go.Shelf.Ren:=⟨fun|171=>39|243=>87|246=>156|283=>213|284=>214|285=>215|286=>216|129=>200|317=>265|318=>266|319=>267|320=>268|337=>299|338=>300|n=>n,fun|3=>3|9=>9|2=>2|4=>4|171=>313|0=>0|53=>302|37=>97|5=>5|173=>315|212=>359|51=>300|20=>20|213=>360|46=>222|232=>426|233=>427|n=>n,fun|17=>1|18=>2|19=>3|n=>n⟩
theorem Tryz.laysM171:Go.Proofs.LaysM.n171 prog Tryz.laysM171_ren:={
 mixed:=by kernel_rfl
 f129:=func200.trans (congrArg some A6)
 f171:=func39.trans (congrArg some A6)
 f243:=func87.trans (congrArg some A6)
 f246:=func156.trans (congrArg some A6)
 f283:=func213.trans (congrArg some A6)
 f284:=func214.trans (congrArg some A6)
 f285:=func215.trans (congrArg some A6)
 f286:=func216.trans (congrArg some A6)
 f317:=func265.trans (congrArg some A6)
 f318:=func266.trans (congrArg some A6)
 f319:=func267.trans (congrArg some A6)
 f320:=func268.trans (congrArg some A6)
 f337:=func299.trans (congrArg some A6)
 f338:=func300.trans (congrArg some A6)
 t0:=cV
 a0:=isAgg0
 z0:=sizeOf0
 v0:=cX
 t2:=underlying2
 a2:=isAgg2
 z2:=sizeOf2
 v2:=zeroValue2
 t3:=Cl
 a3:=AE
 z3:=A5
 v3:=Gk
 t4:=Pu
 a4:=E4
 z4:=CD
 v4:=Up
 t5:=Ln
 a5:=V0
 z5:=Hv
 v5:=S4
 t9:=GO
 a9:=HC
 z9:=F0
 v9:=HM
 t20:=underlying20
 a20:=isAgg20
 z20:=sizeOf20
 v20:=zeroValue20
 t37:=HA
 a37:=S6
 z37:=N6
 v37:=zeroValue97
 t46:=W3
 a46:=isAgg222
 z46:=eo
 v46:=eW
 t51:=Sp
 a51:=HO
 z51:=Fc
 v51:=ec
 t53:=W4
 a53:=Z3
 z53:=cy
 v53:=ee
 t171:=underlying313
 a171:=isAgg313
 z171:=sizeOf313
 v171:=zeroValue313
 t173:=underlying315
 a173:=isAgg315
 z173:=sizeOf315
 v173:=zeroValue315
 t212:=underlying359
 a212:=isAgg359
 z212:=sizeOf359
 v212:=zeroValue359
 t213:=underlying360
 a213:=isAgg360
 z213:=sizeOf360
 t232:=underlying426
 a232:=isAgg426
 z232:=sizeOf426
 v232:=zeroValue426
 t233:=underlying427
 a233:=isAgg427
 z233:=sizeOf427
 v233:=zeroValue427
 g17:=by kernel_rfl
 g18:=by kernel_rfl
 g19:=by kernel_rfl
 i0:=by kernel_rfl
 i2:=by kernel_rfl
 i3:=by kernel_rfl
 i4:=by kernel_rfl
 i5:=by kernel_rfl
 i9:=by kernel_rfl
 i20:=by kernel_rfl
 i37:=by kernel_rfl
 i46:=by kernel_rfl
 i51:=by kernel_rfl
 i53:=by kernel_rfl
 i171:=by kernel_rfl
 i173:=by kernel_rfl
 i212:=by kernel_rfl
 i232:=by kernel_rfl
 i233:=by kernel_rfl
 m17:=by kernel_rfl
 m18:=by kernel_rfl
 m19:=by kernel_rfl}
open Go.RowKit Go.Sort Go.Lib in
theorem Tryz.strconv_Itoa(n:Int)(h0:-9223372036854775808≤n)(h1:n≤9223372036854775807)(w:World)(htab:Lib.TabIs prog w "internal/strconv.uint64pow10" .u64 Lib.pow10Tab):
 Calls prog 39 #[I4 n] w fun e w'=>e= .returned (.string ⟨(Lib.itoa n).toArray⟩)/\∃k os,w'=grow (w.drewN k) os:=Any.strconv_Itoa Tryz.laysM171 n h0 h1 w htab
def Tryz.lays189_ren:Go.Shelf.Ren:=⟨fun|189=>188|125=>117|257=>248|128=>199|129=>200|294=>284|295=>285|296=>286|297=>287|298=>288|299=>289|216=>290|300=>291|301=>292|328=>324|329=>250|330=>251|331=>325|332=>326|215=>281|343=>341|n=>n,fun|28=>36|3=>3|46=>222|0=>0|51=>300|53=>302|4=>4|183=>292|182=>291|131=>297|5=>5|9=>9|218=>348|222=>108|228=>385|229=>386|n=>n,fun|n=>n⟩
theorem Tryz.lays189:Go.Proofs.Lays.n189 prog Tryz.lays189_ren:={
 mixed:=by kernel_rfl
 f125:=func117.trans (congrArg some A6)
 f128:=func199.trans (congrArg some A6)
 f129:=func200.trans (congrArg some A6)
 f189:=func188.trans (congrArg some A6)
 f215:=func281.trans (congrArg some A6)
 f216:=func290.trans (congrArg some A6)
 f257:=func248.trans (congrArg some A6)
 f294:=func284.trans (congrArg some A6)
 f295:=func285.trans (congrArg some A6)
 f296:=func286.trans (congrArg some A6)
 f297:=func287.trans (congrArg some A6)
 f298:=func288.trans (congrArg some A6)
 f299:=func289.trans (congrArg some A6)
 f300:=func291.trans (congrArg some A6)
 f301:=func292.trans (congrArg some A6)
 f328:=func324.trans (congrArg some A6)
 f329:=func250.trans (congrArg some A6)
 f330:=func251.trans (congrArg some A6)
 f331:=func325.trans (congrArg some A6)
 f332:=func326.trans (congrArg some A6)
 f343:=func341.trans (congrArg some A6)
 t0:=cV
 a0:=isAgg0
 z0:=sizeOf0
 v0:=cX
 t3:=Cl
 a3:=AE
 z3:=A5
 v3:=Gk
 t4:=Pu
 a4:=E4
 z4:=CD
 v4:=Up
 t5:=Ln
 a5:=V0
 z5:=Hv
 v5:=S4
 t9:=GO
 a9:=HC
 z9:=F0
 v9:=HM
 t28:=Cd
 a28:=cG
 z28:=dc
 v28:=zeroValue36
 t46:=W3
 a46:=isAgg222
 z46:=eo
 v46:=eW
 t51:=Sp
 a51:=HO
 z51:=Fc
 v51:=ec
 t53:=W4
 a53:=Z3
 z53:=cy
 v53:=ee
 t131:=kn
 a131:=isAgg297
 z131:=sizeOf297
 v131:=lP
 t182:=kq
 a182:=isAgg291
 z182:=sizeOf291
 v182:=lR
 t183:=kx
 a183:=isAgg292
 z183:=sizeOf292
 v183:=lf
 t218:=l3
 a218:=isAgg348
 z218:=sizeOf348
 v218:=lj
 t222:=l4
 a222:=isAgg108
 z222:=Sx
 v222:=W8
 t228:=lA
 a228:=isAgg385
 z228:=sizeOf385
 v228:=ln
 t229:=lB
 a229:=isAgg386
 z229:=sizeOf386
 v229:=lr}
open Go.Sort Go.RowKit in
theorem Tryz.slices_Sort_int(g off cap:Nat)(zs:List Int)(w:World)(G:Holds (Value.int .i64) w g off zs.toArray)(m:g<w.heap.size)(B:zs.length<4611686018427387904):
 Calls prog 188 #[.slice (some ⟨g,off,none⟩) zs.length cap] w fun e I=>
  e= .returned (.tuple #[])/\∃n os,I=grow (putRow (Value.int .i64) (Sort.ahead w n) g off (zs.mergeSort fun x y=>decide (x<=y)).toArray) os:=Any.slices_Sort_int Tryz.lays189 g off cap zs w G m B
def Tryz.lays190_ren:Go.Shelf.Ren:=⟨fun|190=>58|125=>117|258=>116|128=>199|129=>200|302=>190|303=>191|304=>192|305=>193|306=>194|307=>195|308=>196|309=>197|310=>198|333=>249|329=>250|330=>251|334=>252|335=>253|336=>254|344=>293|n=>n,fun|31=>45|9=>9|3=>3|46=>222|0=>0|51=>300|53=>302|4=>4|183=>292|182=>291|131=>297|5=>5|218=>348|222=>108|228=>385|229=>386|n=>n,fun|n=>n⟩
theorem Tryz.lays190:Go.Proofs.Lays.n190 prog Tryz.lays190_ren:={
 mixed:=by kernel_rfl
 f125:=func117.trans (congrArg some A6)
 f128:=func199.trans (congrArg some A6)
 f129:=func200.trans (congrArg some A6)
 f190:=func58.trans (congrArg some A6)
 f258:=func116.trans (congrArg some A6)
 f302:=func190.trans (congrArg some A6)
 f303:=func191.trans (congrArg some A6)
 f304:=func192.trans (congrArg some A6)
 f305:=func193.trans (congrArg some A6)
 f306:=func194.trans (congrArg some A6)
 f307:=func195.trans (congrArg some A6)
 f308:=func196.trans (congrArg some A6)
 f309:=func197.trans (congrArg some A6)
 f310:=func198.trans (congrArg some A6)
 f329:=func250.trans (congrArg some A6)
 f330:=func251.trans (congrArg some A6)
 f333:=func249.trans (congrArg some A6)
 f334:=func252.trans (congrArg some A6)
 f335:=func253.trans (congrArg some A6)
 f336:=func254.trans (congrArg some A6)
 f344:=func293.trans (congrArg some A6)
 t0:=cV
 a0:=isAgg0
 z0:=sizeOf0
 v0:=cX
 t3:=Cl
 a3:=AE
 z3:=A5
 v3:=Gk
 t4:=Pu
 a4:=E4
 z4:=CD
 v4:=Up
 t5:=Ln
 a5:=V0
 z5:=Hv
 v5:=S4
 t9:=GO
 a9:=HC
 z9:=F0
 v9:=HM
 t31:=CN
 a31:=KB
 z31:=HF
 v31:=UP
 t46:=W3
 a46:=isAgg222
 z46:=eo
 v46:=eW
 t51:=Sp
 a51:=HO
 z51:=Fc
 v51:=ec
 t53:=W4
 a53:=Z3
 z53:=cy
 v53:=ee
 t131:=kn
 a131:=isAgg297
 z131:=sizeOf297
 v131:=lP
 t182:=kq
 a182:=isAgg291
 z182:=sizeOf291
 v182:=lR
 t183:=kx
 a183:=isAgg292
 z183:=sizeOf292
 v183:=lf
 t218:=l3
 a218:=isAgg348
 z218:=sizeOf348
 v218:=lj
 t222:=l4
 a222:=isAgg108
 z222:=Sx
 v222:=W8
 t228:=lA
 a228:=isAgg385
 z228:=sizeOf385
 v228:=ln
 t229:=lB
 a229:=isAgg386
 z229:=sizeOf386
 v229:=lr}
open Go.Sort Go.RowKit in
theorem Tryz.slices_Sort_string(g off cap:Nat)(B:List (List UInt8))(w:World)(I:Holds encStr w g off B.toArray)(m:g<w.heap.size)(G:B.length<4611686018427387904):
 Calls prog 58 #[.slice (some ⟨g,off,none⟩) B.length cap] w fun e J=>
  e= .returned (.tuple #[])/\∃n os,J=grow (putRow encStr (Sort.ahead w n) g off (B.mergeSort fun x y=>decide (x<=y)).toArray) os:=Any.slices_Sort_string Tryz.lays190 g off cap B w I m G
def Tryz.laysNm217_ren:Go.Shelf.Ren:=⟨fun|17=>234|n=>n,fun|24=>45|9=>9|3=>3|4=>4|0=>0|n=>n,fun|n=>n⟩
theorem Tryz.laysNm217:Go.Proofs.Lays2.n17 prog Tryz.laysNm217_ren:={
 mixed:=by kernel_rfl
 f17:=func234.trans (congrArg some A6)
 t0:=cV
 a0:=isAgg0
 z0:=sizeOf0
 v0:=cX
 t3:=Cl
 a3:=AE
 z3:=A5
 v3:=Gk
 t4:=Pu
 a4:=E4
 z4:=CD
 v4:=Up
 t9:=GO
 a9:=HC
 z9:=F0
 v9:=HM
 t24:=CN
 a24:=KB
 z24:=HF
 v24:=UP}
open Go.RowKit Go.Lib Go.Sort in
theorem Tryz.slices_Reverse_string(g off cap:Nat)(zs:List (List UInt8))(w:World)(B:Holds encStr w g off zs.toArray)(m:zs.length<=9223372036854775807):
 Calls prog 234 #[.slice (some ⟨g,off,none⟩) zs.length cap] w fun e G=>e= .returned (.tuple #[])/\∃n,G=putRow encStr (Sort.ahead w n) g off zs.reverse.toArray:=Any.slices_Reverse_string Tryz.laysNm217 g off cap zs w B m
open Go.RowKit Go.Lib Go.Sort in
theorem Tryz.slices_Reverse_string_empty(a:Option Addr)(cap:Nat)(w:World):
 Calls prog 234 #[.slice a 0 cap] w fun e g=>e= .returned (.tuple #[])/\g=w:=Any.slices_Reverse_string_empty Tryz.laysNm217 a cap w
open Go.RowKit Go.Sort in
theorem Tryz.slices_Sort_string_none(p:Option Addr)(cap:Nat)(w:World):
 Calls prog 58 #[.slice p 0 cap] w fun e g=>e= .returned (.tuple #[])/\g=w:=Any.slices_Sort_string_none Tryz.lays190 p cap w
open Go.RowKit Go.Sort in
theorem Tryz.slices_Sort_int_none(p:Option Addr)(cap:Nat)(w:World):
 Calls prog 188 #[.slice p 0 cap] w fun e g=>e= .returned (.tuple #[])/\g=w:=Any.slices_Sort_int_none Tryz.lays189 p cap w
end Go.Proofs
namespace Go.Proofs.YteaiajghbkenoaaGreatDoor
open Go.Proofs.Tryz
open Go Go.RowKit Gw
set_option maxRecDepth 100000
attribute [local irreducible] Gw.At Gw.Nx Gw.Ops
def G8(l:List UInt8):Value:= .string (str l)
theorem RD(a b:List UInt8):str a++str b=str (a++b):=by
 apply ByteArray.ext;simp [str]
theorem Gj(a:List UInt8):(str a).size=a.length:=by simp [str,ByteArray.size]
theorem Rf(a:List UInt8):(str a).data.toList=a:=by simp [str]
theorem ZE(xs:List (List UInt8)):Lib.join xs []=xs.flatten:=by
 unfold Lib.join;induction xs with
 |nil=>rfl
 |cons x r ih=>cases r with
  |nil=>simp
  |cons y r=>rw [List.intercalate_cons_cons];rw [ih];simp
variable{o:Nat}
theorem xO{w:World}{b:Nat}{c:Array Value}{T:TypeId}{z:Nat×Nat}{cs:List Value}(g:w.heap[b]?=some (.cells c T z))(h:Bz c o cs)(j:Nat)(v:Value)(m:cs[j]?=some v):w.cell? ⟨b,o+j,none⟩=some v:=by
 have:=Gu g h j v m;rcases OS j with rfl|h0
 · simpa [Addr.add]using this
 · simpa [Addr.add,Nat.ne_of_gt h0]using this
theorem lT(g o cap:Nat)(cs:Array Value)(T:TypeId)(z:Nat×Nat)(xs:List (List UInt8))(hc:Bz cs o (xs.map G8))(K:xs.length<=140737488355328)(m:xs.length<=cap)(B:xs.flatten.length<=140737488355328):
 BJ prog 331 #[.slice (some ⟨g,o,none⟩) xs.length cap,.string (str [])] [[(g,.cells cs T z)]] (.string (str xs.flatten)):=
 Rk (Rl:=fun v=>v= .string (str xs.flatten)) (fun w O=>by
  have I:=O (g,.cells cs T z) B0;have h:=Tryz.strings_Join g o cap (xs.map str) (str []) w (fun j x G=>by
   refine xO I hc j _ ?_;rw [DH]at G⊢;cases h1:xs[j]?with
   |none=>rw [h1]at G;cases G
   |some y=>rw [h1]at G;cases G;rfl) (by
    rcases EV g w.heap.size with h1|h1
    · exact h1
    · rw [HT h1]at I;cases I) (by simpa using K) (by simpa using m) (by
    rw [J0];have:(xs.map ((fun s:ByteArray=>s.data.toList)∘str))=xs:=by simp [str,kA]
    rw [this,Rf,ZE];exact B)
  rw [B2]at h;refine h.mono ?_;rintro e U ⟨rfl,J⟩;refine ⟨_,V,?_,J⟩;rw [J0];have:(xs.map ((fun s:ByteArray=>s.data.toList)∘str))=xs:=by simp [str,kA]
  rw [this,Rf,ZE];rfl) (fun v hv=>⟨hv,rfl⟩)
def zI(head rec:List UInt8):List UInt8:=sha (2::head++rec)
theorem iF(l:List UInt8)(B:l.length<=140737488355000)(g:TypeId)(m:Nat×Nat):BJ prog 278 #[.string (str l)] [[(4,.cells (En.map Co).toArray g m)]] (.string (str (sha l))):=by
 have:=oD (str l) (by rw [Gj];exact B) g m;rw [Rf]at this;exact this
theorem Ls(B o cap I:Nat)(cs:Array Value)(T O:TypeId)(z W:Nat×Nat)(xs:List (List UInt8))(m:List UInt8)(hc:Bz cs o (xs.map G8))(U:xs.length<=140737488355328)(g:xs.length<=cap)(J:m.length+xs.flatten.length<=140737488355000)(G:TypeId)(K:Nat×Nat):
 BJ prog 330 #[.slice (some ⟨B,o,none⟩) xs.length cap,I5 I] [[(B,.cells cs T z)],[(I,.cells #[G8 m] O W)],[(4,.cells (En.map Co).toArray G K)]] (.string (str (sha (m++xs.flatten)))):=by
 refine KS func330 V ntmps330 V ?_;intro u R;unfold G8;refine Zb [0,1] ?_;refine A0<|A3 Y<|Zq<|Az (n:=6) (0::0::2::7::15::31::[]) 20 A6 A6 V<|B3 0 V HC Y ?_;refine A2 1 V (AQ Y)<|Zz (l:=[2])<|B1 [true] [(0,(_,_))] V rfl (Zu [_,_] Y call331 Y V (lT B o cap cs T z xs hc U g A1)) ?_ (fun _ _ h=>h.elim) Ag;rintro _ _ ⟨rfl,rfl⟩;refine B5<|A2 3 rfl (MZ Y Y (by rw [Gj,Gj];omega))<|Yw 4 31 rfl (Zu [_] Y call278 Y rfl ((RD m xs.flatten)▸iF (m++xs.flatten) (by rw [B7];omega) G K))<|CM<|A2 5 V (Aw Y)<|Ai<|Zx<|AJ<|AO V results330 Y (by exact ⟨V,V⟩)
theorem Qh(m:ByteArray):Ba prog 303 #[.string m] [] (fun r H'=>∃b,r= .func (.func 330) #[] #[I5 b]/\H'=[[(b,.cells #[.string m] 9 (0,0))]]):=by
 refine Se func303 ntmps303 [0] ?_;intro u R;refine A0<|Ze (Bx #[_])<|AD fun g=>A3 Y<|A0<|Zv (Bg (vs:=[]) (us:=[_]) Y Y)<|A3 Y<|AJ<|AO V results303 Y (by exact ⟨_,V,V⟩)
def R6(z:Nat):List (Nat×Bool):=if h:z<128 then [(z,true)]else(z%128,false)::R6 (z/128)
termination_by z
decreasing_by omega
theorem Kg(z:Nat):R6 z=(z%128,decide (z<128))::(if z<128 then []else R6 (z/128)):=by
 rw [R6];by_cases h:z<128
 · simp [h,cL h]
 · simp [h]
theorem xA(z:Nat):∀x∈R6 z,x.1<128:=by
 induction z using Nat.strongRecOn with
 |_ z ih=>
  intro x g;rw [Kg]at g;rcases D0.1 g with rfl|g
  · exact eK _ AN
  · by_cases h:z<128
    · rw [AK h]at g;cases g
    · rw [AH h]at g;exact ih (z/128) A1 x g
theorem sK(z k:Nat)(h:z<128^(k+1)):(R6 z).length<=k+1:=by
 induction k generalizing z with
 |zero=>rw [Kg,AK (by simpa using h)];simp
 |succ k ih=>
  rw [Kg];by_cases g:z<128
  · rw [AK g];simp
  · rw [AH g,DE]
    have:z/128<128^(k+1):=by
     rw [eJ]at h;exact my (by rw [kk];exact h)
    have:=ih _ this;omega
def gb(x:Nat×Bool):UInt8:=UInt8.ofNat (if x.2 then x.1 else x.1+128)
theorem zG(x:Nat×Bool)(h:x.1<128):u8v (gb x)= .int .u8 ((if x.2 then x.1 else x.1+128:Nat):Int):=by
 unfold u8v gb;rw [UInt8.toNat_ofNat',cL (by split<;>omega)]
def zz(n:Int):Nat:=(if n<0 then-(2*n) -1 else 2*n).toNat
def Tv(n:Int):List UInt8:=(R6 (zz n)).map gb
theorem xk(n:Int)(g:-4611686018427387903<=n)(h2:n<=4611686018427387903):zz n<9223372036854775808:=by unfold zz;split<;>omega
theorem tq(n:Int):0<(Tv n).length:=by unfold Tv;rw [Kg];simp
theorem PH(n:Int)(g:-4611686018427387903<=n)(h2:n<=4611686018427387903):(Tv n).length<=9:=by
 unfold Tv;rw [B2];exact sK (zz n) 8 (by have:=xk n g h2;omega)
theorem zO(y:Nat)(h:y<18446744073709551616):bits .and .u64 (y:Int) 127=((y%128:Nat):Int):=by
 have:=u64_and_nat y 127 h AN;rw [nat_mask7]at this;exact this
theorem pZ(g:Nat)(h:g<128):bits .or .u8 (g:Int) 128=((g+128:Nat):Int):=by
 have:=u8_or_nat g 128 A1 AN;rw [Nat.or_comm,nat_join 7 128 g AN h,Nat.add_comm]at this;exact this
theorem nY(a:Nat)(h:a<18446744073709551616):a^^^18446744073709551615=18446744073709551615 -a:=by
 have g:BitVec.ofNat 64 a^^^BitVec.allOnes 64= ~~~BitVec.ofNat 64 a:=BitVec.xor_allOnes;have h2:=congrArg BitVec.toNat g
 rw [BitVec.toNat_xor,BitVec.toNat_not,BitVec.toNat_ofNat,cL h]at h2;exact h2
theorem yG(n:Int)(B:-4611686018427387903<=n)(h2:n<=4611686018427387903):bits .xor .u64 (IntKind.u64.wrap (IntKind.u64.wrap n*2^(1:Int).toNat)) (IntKind.u64.wrap (n/2^(63:Int).toNat))=(zz n:Int):=by
 rw [IntKind.wrap_u64,IntKind.wrap_u64,IntKind.wrap_u64];rw [show(2:Int)^(1:Int).toNat=2 from rfl,show(2:Int)^(63:Int).toNat=9223372036854775808 from rfl];by_cases h:n<0
 · obtain ⟨m,g⟩:∃m:Nat,n=-(m:Int):=⟨n.natAbs,by omega⟩
   have e1:n%18446744073709551616*2%18446744073709551616=((18446744073709551616 -2*m:Nat):Int):=by omega
   have e2:n/9223372036854775808%18446744073709551616=((18446744073709551615:Nat):Int):=by omega
   rw [e1,e2,u64_xor_nat _ _ A1 A1,nY _ A1];unfold zz;rw [AK h];omega
 · obtain ⟨m,g⟩:∃m:Nat,n=(m:Int):=⟨n.natAbs,by omega⟩
   have e1:n%18446744073709551616*2%18446744073709551616=((2*m:Nat):Int):=by omega
   have e2:n/9223372036854775808%18446744073709551616=((0:Nat):Int):=by omega
   rw [e1,e2,u64_xor_nat _ _ A1 A1,Nat.xor_zero];unfold zz;rw [AH h];omega
theorem BV{P:Program}{cx:Cx}{c:Code}{Q:Exit->Act->World->Prop}{env:Env}{H:Hp}(h:At P cx c Q env ([]::H)):At P cx c Q env H:=Xg (H':=[]::H) rfl h
theorem VZ{α:Type}{l pre g:List α}{x:α}(h:l=pre++x::g):x∈l:=by rw [h];simp
theorem ZV(I z:Nat)(hz:z<18446744073709551616):
 UB prog 302 #[I5 I] [[(I,.cells #[.int .u64 (z:Int)] 302 (0,0))]] (fun x=>#[.int .u8 (x.1:Int),.bool x.2]) (R6 z):=by
 intro l J Z s K;refine Se func302 ntmps302 [0,1] ?_;intro u R;refine AP<|Zb [0,1] ?_;refine BB (e0:=[]) (fun m e H=>∃(pre:List (Nat×Bool)) (y:Nat) (s:List A9),m=0+y/\(R6 z=pre++R6 y/\y<18446744073709551616/\J pre s)/\e=[]/\H=[[(I,.cells #[.int .u64 (y:Int)] 302 (0,0))],s]) (by exact ⟨[],z,s,V,⟨V,hz,K⟩,V,V⟩) Wp ?_;rintro _ _ _ ⟨pre,y,s,rfl,⟨g,G,K⟩,rfl,rfl⟩;refine AP<|A0<|Zl Z3 Y ?_;refine Zv (Au (n:=128) Y Y)<|A3 Y<|Zq<|Zq ?_;have U:=Z pre (y%128,decide (y<128)) (if y<128 then []else R6 (y/128)) s (by rw [g,<-Kg]) K
 refine Zg<|Zm Y<|Zl Z3 Y ?_;refine Ka (qO (m:=(y:Int)) (n:=127) Y Y (zO y G)) V rfl ?_;refine BX (UR W4 Ln Y A1)<|Zm Y<|Ze (GR (vs:=[_,_]) Y Y (U) Wp) ?_;rintro _ _ ⟨_,⟨X,rfl,rfl,B⟩,rfl⟩;refine Zv (Br Y)<|Zm Y<|Af (t:=13) Y V (fun W=>by cases W)<|fun W=>Zf Y Y<|Zv (AL Y Y)<|Z0<|Zn [0,1,15] ?_;refine Zx<|Av Y (fun O=>?_) (fun O=>?_)
 ·
  refine AJ<|Zt<|Ac<|Zt<|Ac ?_;refine Cv V results302 (by
   exact ⟨X,V,by
    have e:R6 z=pre++[(y%128,decide (y<128))]:=by rw [g,Kg y,AK O]
    rw [e];exact B⟩)
 refine AC<|Zx<|Zg<|Zl Z3 Y ?_;refine BX (Py (n:=7) Y Y (by first|decide|(simp [IntKind.bits];done)|(simp [IntKind.bits];omega)))<|Xe (Zs cy Y Y rfl) ?_;refine Z0<|A8<|Zn [0,1] ?_;refine Aa (e':=[]) (by exact ⟨pre++[(y%128,decide (y<128))],y/2^7,X,rfl,⟨by rw [g,Kg y,AH O];simp,by omega,B⟩,rfl,rfl⟩)
theorem ZU(z:Int):Ba prog 275 #[.int .u64 z] [] (fun r H'=>∃b,r= .func (.func 302) #[] #[I5 b]/\H'=[[(b,.cells #[.int .u64 z] 302 (0,0))]]):=by
 refine Se func275 ntmps275 [0] ?_;intro u R;refine A0<|Ze (Bx #[_])<|AD fun g=>A3 Y<|A0<|Zv (Bg (vs:=[]) (us:=[_]) Y Y)<|A3 Y<|AJ<|AO V results275 Y (by exact ⟨_,V,V⟩)
theorem QX(n:Int)(Z:-4611686018427387903<=n)(h2:n<=4611686018427387903):BJ prog 231 #[I4 n] [] (.tuple #[.string (str (Tv n)),I4 0]):=by
 have ic:=mL;have j3:=xk n Z h2
 have K:=PH n Z h2;unfold Tv at K;rw [B2]at K;refine DK func231 V ntmps231 V ?_;intro u R;refine Zb [0] ?_;refine A0<|Za Y<|A3 Y<|Zq<|A0<|Zm Y<|Zv (Dq Y Y)<|Zm Y<|Ao (t:=9) Y V (fun ax=>by omega)<|fun ax=>Zf Y Y<|Yg (Ep Y Y)<|Zv (AL Y Y)<|A4<|Av Y (fun bn=>by omega)<|fun bn=>AC<|Zx<|A0<|Ze (Al zeroValue97 #[_])<|AD fun bo=>A4<|Zq<|A0<|Zm Y<|Zv (Em Cl W4 Y V) ?_
 (refine BX (iP Y Y ?_ ?_ rfl) ?_;(focus (first|decide|omega|(simp [IntKind.bits];done)|(simp [IntKind.bits];omega)));(focus (first|decide|omega|(simp [IntKind.bits];done)|(simp [IntKind.bits];omega))))
 refine Zm Y ?_
 (refine BX (qG Y Y ?_ ?_ rfl) ?_;(focus (first|decide|omega|(simp [IntKind.bits];done)|(simp [IntKind.bits];omega)));(focus (first|decide|omega|(simp [IntKind.bits];done)|(simp [IntKind.bits];omega))))
 refine Zv (Em Cl W4 Y V)<|Ka (xx Y Y (yG n Z h2)) V rfl ?_;refine Zc [_] Y call275 Y V (ZU _) ?_;rintro _ _ ⟨_,⟨bz,rfl,rfl⟩,rfl⟩;refine Z0<|Zn [4,20] ?_;refine Zx<|AP<|Zb [4,20] ?_;refine BV<|Qt (H0:=_) (R:=_) (I:=(fun pre H=>∃v s,H=[[(bo,.cells #[v] 97 (0,0))],s]/\Row 5 v ((pre.map gb).map u8v) s)) (asg:=fun x=>[(6,.bool x.2),(5,.int .u8 (x.1:Int)),(22,.bool x.2),(21,.int .u8 (x.1:Int))]) V Y call302 (ZV bz (zz n) A1) Y V Wp (⟨_,[],V,Fu _⟩) ?ha_2 ?hbd_2 ?hk_2
 case ha_2=>
  intro _ x _ _;refine A0<|A3 Y<|Zg<|Za Y<|Z0 ?_;exact qY
 case hbd_2=>
  intro l pre x d9 u H1 R1 X hI;obtain ⟨v,s,rfl,U⟩:=hI;have W:=xA _ x (VZ X)
  have O:=zG x W;have cu:=congrArg List.length X
  rw [B7,DE]at cu;obtain ⟨gv,cv,rfl⟩:=U.form;refine AP<|Zq<|A0<|Zm Y<|Zv (Br Y)<|A4<|AV Y (fun B=>?_) (fun B=>?_)
  ·
   have G:x.2=false:=by simpa using B
   refine Zg<|Zm Y<|Ka (nw (m:=(x.1:Int)) (n:=128) Y Y (pZ x.1 W)) V rfl ?_;refine A3 Y<|Zg<|Zl S6 Y ?_;refine Zm Y<|Ze (Ah (vs:=[_]) (cs:=[_]) HA Hv S4 Y V rfl V rfl V)<|AD fun b2=>Ze (EQ (by_:=1) (news:=[_]) HA (V:Tryz.prog.info? 5=some Tryz.t5) V rfl V rfl Y U Y Wo Wh AM V Fm AN (by(simp only [B2];omega)) (by(simp only [B2];omega))) ?_;rintro _ _ ⟨sb,g,rfl⟩;obtain ⟨gb,cb,rfl⟩:=g.form;refine Xe (Zs N6 Y Y V) ?_;refine Z0<|A8<|Ez V (by
    exact ⟨_,_,V,by
     rw [BW,BW,LR,LR,O,G];exact g⟩)
  have G:x.2=true:=by simpa using B
  refine AC<|Zx<|Zg<|Zl S6 Y ?_;refine Zm Y<|Ze (Ah (vs:=[_]) (cs:=[_]) HA Hv S4 Y V rfl V rfl V)<|AD fun b4=>Ze (EQ (by_:=1) (news:=[_]) HA (V:Tryz.prog.info? 5=some Tryz.t5) V rfl V rfl Y U Y Wo Wh AM V Fm AN (by(simp only [B2];omega)) (by(simp only [B2];omega))) ?_;rintro _ _ ⟨sb,g,rfl⟩;obtain ⟨gb,cb,rfl⟩:=g.form;refine Xe (Zs N6 Y Y V) ?_;refine Z0<|A8<|Ez V (by
   exact ⟨_,_,V,by
    rw [BW,BW,LR,LR,O,G];exact g⟩)
 intro D1 H2 af;obtain ⟨v,s,rfl,U⟩:=af;have J:=tq n
 unfold Tv at J;obtain ⟨gv,cv,cur,zv,rfl,rfl,gy,ek,gm,cO,gq⟩:=U.some (by rw [B2];exact J);refine Zn [4] ?_;refine A8<|Zx<|A0<|Zl S6 Y ?_;refine Zo Wh (K7 HA Ln GO Y (by exact ⟨cO,by simp⟩)) ?_;refine Za Y<|A3 Y<|AJ<|GI V (pF results231 Y Y) Wo (by exact ⟨V,V⟩)
structure AU where
 t:Int
 k:Int
 v:V3
deriving DecidableEq
abbrev AU.A16(c:AU):Array Go.Value:=#[I4 c.t,I4 c.k,I4 c.v.a,I4 c.v.b,I4 c.v.c]
structure Chg where
 t:Int
 k:Int
 had:Bool
 o:V3
 has:Bool
 n:V3
deriving DecidableEq
abbrev Chg.A15(c:Chg):Array Go.Value:=#[I4 c.t,I4 c.k,.bool c.had,I4 c.o.a,I4 c.o.b,I4 c.o.c,.bool c.has,I4 c.n.a,I4 c.n.b,I4 c.n.c]
def AU.zero:AU:=⟨0,0,V3.zero⟩
def AU.ok(r:AU):Prop:=r.v.ok/\(0<=r.t/\r.t<=3)/\(1<=r.k/\r.k<=1000000)
instance(r:AU):Decidable r.ok:=inferInstanceAs(Decidable (_/\_/\_))
def Chg.before(c:Chg):AU:=if c.had then⟨c.t,c.k,c.o⟩else AU.zero
def Chg.after(c:Chg):AU:=if c.has then⟨c.t,c.k,c.n⟩else AU.zero
variable{c:Chg}
theorem PK(h:c.had=true):c.before=⟨c.t,c.k,c.o⟩:=AK h
theorem uM(h:c.had=false):c.before=AU.zero:=AH (by rw [h];decide)
theorem Kr(h:c.has=true):c.after=⟨c.t,c.k,c.n⟩:=AK h
theorem xc(h:c.has=false):c.after=AU.zero:=AH (by rw [h];decide)
def Chg.ok(c:Chg):Prop:=¬((¬c.had/\¬c.has)\/(c.had/\c.has/\c.o=c.n))/\¬((c.had/\¬c.before.ok)\/(c.has/\¬c.after.ok))/\(c.had\/c.o=V3.zero)/\(c.has\/c.n=V3.zero)
instance(c:Chg):Decidable c.ok:=inferInstanceAs(Decidable (_/\_/\_/\_))
theorem Jw(n lo hi:Int):BJ prog 153 #[I4 n,I4 lo,I4 hi] [] (.bool (decide (lo<=n/\n<=hi))):=by
 refine Se func153 ntmps153 [0,1,2] ?_;intro u R;refine A0<|A3 Y<|A0<|Zm Y<|Zm Y<|Zv (H5 Y Y)<|Zm Y<|Ao (t:=10) Y V (fun g=>?_) (fun g=>?_)
 ·
  refine Zf Y Y<|Zf Y Y<|Yg (Le Y Y)<|Zv (AX Y Y)<|A3 Y<|AJ<|AO V results153 Y (by exact ⟨by simp [g],V⟩)
 refine A7 Y V<|A7 Y V<|A7 Y V<|Zv (AL Y Y)<|A3 Y<|AJ<|AO V results153 Y (by exact ⟨by simp [g],V⟩)
theorem kD(c:Chg):BJ prog 211 #[.agg c.A15] [] (.tuple #[.agg c.before.A16,.bool c.had]):=by
 refine Se func211 ntmps211 [0] ?_;intro u R;refine A0<|Ze (Bx #[_,_,_,_,_,_,_,_,_,_])<|AD fun m=>Ze (Al DP #[_,_,_,_,_])<|AD fun B=>A3 Y<|Zq<|A0<|Zh 2 B8 V rfl CD Y<|Zl E4 Y ?_;refine Zv (Br Y)<|A4<|AV Y (fun g=>?_) (fun g=>?_)
 ·
  refine A0<|Zv (BK (vs:=[]) (cs:=#[_,_,_,_,_]) Y (AY (pl:=#[(0,1),(1,1),(2,3)]) DP Fi (fun _=>by kernel_rfl) V))<|Xe (Xw AW _) ?_;refine A3 Y<|AJ<|Zt<|Bn V results211 Y Wh (Ak CH AW Wn (V)) Y (by simp only [dt,S0,cP]at g;exact ⟨by(rw [uM g,g];rfl),V⟩)
 refine AC<|Zx<|A0<|Zh 0 B8 V rfl A5 Y<|Zl AE Y ?_;refine Zh 1 B8 V rfl A5 Y<|Zl AE Y ?_;refine Zh 3 B8 V rfl DB Y<|Zo Wh (Pa #[_,_,_] HB DB Y) ?_;refine Zv (BK (vs:=[(0,_),(1,_),(2,_)]) (cs:=#[_,_,_,_,_]) Y (AY (pl:=#[(0,1),(1,1),(2,3)]) DP Fi (fun _=>by kernel_rfl) rfl))<|Xe (BM AW Y Y (by(simp [Value.oneCell',Value.cells];done)) Wu AM E7 Wn (by exact BA _)) ?_;refine AG Y<|Zn [2,3] ?_;refine Zx<|AJ<|Bn V results211 Y Wh (Ak CH AW Wn (V)) Y (by simp only [dt,S0,cP]at g;exact ⟨by(rw [PK g,g];rfl),V⟩)
theorem SK(c:Chg):BJ prog 80 #[.agg c.A15] [] (.tuple #[.agg c.after.A16,.bool c.has]):=by
 refine Se func80 ntmps80 [0] ?_;intro u R;refine A0<|Ze (Bx #[_,_,_,_,_,_,_,_,_,_])<|AD fun m=>Ze (Al DP #[_,_,_,_,_])<|AD fun B=>A3 Y<|Zq<|A0<|Zh 6 B8 V rfl CD Y<|Zl E4 Y ?_;refine Zv (Br Y)<|A4<|AV Y (fun g=>?_) (fun g=>?_)
 ·
  refine A0<|Zv (BK (vs:=[]) (cs:=#[_,_,_,_,_]) Y (AY (pl:=#[(0,1),(1,1),(2,3)]) DP Fi (fun _=>by kernel_rfl) V))<|Xe (Xw AW _) ?_;refine A3 Y<|AJ<|Zt<|Bn V results80 Y Wh (Ak CH AW Wn (V)) Y (by simp only [dt,S0,cP]at g;exact ⟨by(rw [xc g,g];rfl),V⟩)
 refine AC<|Zx<|A0<|Zh 0 B8 V rfl A5 Y<|Zl AE Y ?_;refine Zh 1 B8 V rfl A5 Y<|Zl AE Y ?_;refine Zh 7 B8 V rfl DB Y<|Zo Wh (Pa #[_,_,_] HB DB Y) ?_;refine Zv (BK (vs:=[(0,_),(1,_),(2,_)]) (cs:=#[_,_,_,_,_]) Y (AY (pl:=#[(0,1),(1,1),(2,3)]) DP Fi (fun _=>by kernel_rfl) rfl))<|Xe (BM AW Y Y (by(simp [Value.oneCell',Value.cells];done)) Wu AM E7 Wn (by exact BA _)) ?_;refine AG Y<|Zn [2,3] ?_;refine Zx<|AJ<|Bn V results80 Y Wh (Ak CH AW Wn (V)) Y (by simp only [dt,S0,cP]at g;exact ⟨by(rw [Kr g,g];rfl),V⟩)
theorem SH(r:AU):BJ prog 212 #[.agg r.A16] [] (.bool (decide r.ok)):=by
 refine Se func212 ntmps212 [0] ?_;intro u R;refine A0<|Ze (Bx #[_,_,_,_,_])<|AD fun K=>A3 Y<|Zq<|A0<|A3 Y<|AP<|Zb [3,1] ?_;refine BB (e0:=[(3,_)]) (fun m e H=>∃(i:Nat),m=3 -i/\(i<=3/\(∀j,j<i->inV (r.v.get j)))/\e=[(3,I4 (i:Int))]/\H=[]) (by exact ⟨0,V,⟨by omega,by intro j J;omega⟩,V,V⟩) Wp ?_;rintro _ _ _ ⟨i,rfl,⟨hi,g⟩,rfl,rfl⟩;refine Zq<|A0<|Zm Y<|Zv (Au (n:=3) Y Y)<|A4<|Av Y (fun G=>?_) (fun G=>?_)
 ·
  refine AC<|Zx<|Zq<|AP<|A0<|Zm Y<|Zh 2 Fi V rfl DB Y ?_;refine BX (Cm Hj A5 Y Y A1)<|Zl AE Y (hv:=by rw [LS];exact zZ _ _ r.v _ A1) ?_;refine Xr [_,_,_] Y call153 Y V (Jw _ _ _) ?_;refine Zv (DD Y)<|A4<|Av Y (fun B=>?_) (fun B=>?_)
  ·
   refine A0<|A3 Y<|AJ<|Ac<|Zt<|Zt<|Ac<|Zt<|AO rfl results212 Y (by exact ⟨by rw [CI (fun h9:r.ok=>B (o6.1 h9.1 i A1))],rfl⟩)
  refine AC<|A8<|Zx<|Zg<|Zm Y<|Ya (n:=1) Y Y<|AG Y<|Zn [3,1] ?_;refine Aa (e':=[(3,_)]) (by exact ⟨i+1,V,⟨by omega,vJ g (HS.1 B)⟩,V,V⟩)
 refine Ay<|Zt<|Zt<|AR<|Zx<|A0<|Zh 0 Fi V rfl A5 Y<|Zl AE Y ?_;refine Xr [_,_,_] Y call153 Y V (Jw _ _ _) ?_;refine Zm Y<|Ao (t:=17) Y V (fun I=>?_) (fun I=>?_)
 ·
  refine Yf 1 Fi V rfl A5 Y<|Yl AE Y ?_;refine Xr [_,_,_] Y call153 Y V (Jw _ _ _) ?_;refine Zv (AX Y Y)<|A3 Y<|AJ<|AO V results212 Y (by have hv:r.v.ok:=o6.2 (fun j J=>g j A1);exact ⟨by simp only [AU.ok,hv,I,Wc,ij,ZD],V⟩)
 refine A7 Y V<|A7 Y V<|A7 Y V<|Zv (AL Y Y)<|A3 Y<|AJ<|AO V results212 Y (by have hv:r.v.ok:=o6.2 (fun j J=>g j A1);exact ⟨by simp only [AU.ok,hv,I,Wc,ij,ZD],V⟩)
theorem kC(c:Chg):BJ prog 154 #[.agg c.A15] [] (.bool (decide c.ok)):=by
 refine Se func154 ntmps154 [0] ?_;intro u R;refine A0<|Ze (Bx #[_,_,_,_,_,_,_,_,_,_])<|AD fun b1=>A3 Y<|A0<|Zo Wh (Pa #[_,_,_,_,_,_,_,_,_,_] Fk C1 Y) ?_;refine Xr [_] Y call211 Y V (kD c) ?_;refine Zm Y<|Zd Y V<|Zd Y V<|Ze (Al DP #[_,_,_,_,_])<|AD fun b2=>Xe (Xw AW _) ?_;refine A3 Y<|A0<|Zo Wh (Pa #[_,_,_,_,_,_,_,_,_,_] Fk C1 Y) ?_;refine Xr [_] Y call80 Y V (SK c) ?_;refine Zm Y<|Zd Y V<|Zd Y V<|Ze (Al DP #[_,_,_,_,_])<|AD fun b3=>Xe (Xw AW _) ?_;refine AG Y<|Zn [1,3,4,5,6] ?_;refine Zx<|Zq<|Zb [1,3,4,5,6] ?_;refine D7 (e0:=[]) (H0:=[]) (fun e H=>∃(U:Bool),(U=decide ((¬c.had/\¬c.has)\/(c.had/\c.has/\c.o=c.n)))/\e=[(35,.bool U)]/\H=[]) Wp ?hx_1 ?hy_1
 case hx_1=>
  refine Zg<|Zm Y<|Zv (Br Y)<|Zm Y<|Af (t:=19) Y V (fun W=>?_) (fun W=>?_)
  ·
   refine Zf Y Y<|Yg (Br Y)<|Zv (AX Y Y)<|Zm Y<|Af (t:=23) Y V (fun X=>?_) (fun X=>?_)
   ·
    repeat refine A7 Y rfl ?_
    refine Zv (AX Y Y)<|Z0<|Zn [35,1,3,4,5,6] ?_;refine BL (e':=[(35,_)]) (by exact ⟨_,by simp_all,V,V⟩)
   refine Zf Y Y<|Zf Y Y ?_;refine Af (t:=25) Y V (fun Z=>?_) (fun Z=>?_)
   ·
    refine Zf Y Y<|Yg (AX Y Y)<|Zf Y Y ?_;refine Af (t:=28) Y V (fun af=>?_) (fun af=>?_)
    ·
     refine Yf 3 B8 V rfl DB Y<|E5 Y Wh (Pa #[_,_,_] HB DB Y) V rfl ?_;refine Yf 7 B8 V rfl DB Y<|E5 Y Wh (Pa #[_,_,_] HB DB Y) V rfl ?_;refine Yg (KZ A6 Hj Cl AE A5 Y Y) ?_;refine Yg (AX Y Y)<|Zv (AL Y Y)<|Z0<|Zn [35,1,3,4,5,6] ?_;refine BL (e':=[(35,_)]) (by exact ⟨_,by simp_all,V,V⟩)
    repeat refine A7 Y rfl ?_
    refine Yg (AL Y Y)<|Zv (AL Y Y)<|Z0<|Zn [35,1,3,4,5,6] ?_;refine BL (e':=[(35,_)]) (by exact ⟨_,by simp_all,V,V⟩)
   refine A7 Y V<|Yg (AL Y Y)<|Zf Y Y ?_;repeat refine A7 Y rfl ?_
   refine Yg (AL Y Y)<|Zv (AL Y Y)<|Z0<|Zn [35,1,3,4,5,6] ?_;refine BL (e':=[(35,_)]) (by exact ⟨_,by simp_all,V,V⟩)
  refine A7 Y V<|A7 Y V<|Zv (AL Y Y)<|Zm Y<|Zf Y Y<|Zf Y Y ?_;refine Af (t:=25) Y V (fun ax=>?_) (fun ax=>?_)
  ·
   refine Zf Y Y<|Yg (AX Y Y)<|Zf Y Y ?_;refine Af (t:=28) Y V (fun bn=>?_) (fun bn=>?_)
   ·
    refine Yf 3 B8 V rfl DB Y<|E5 Y Wh (Pa #[_,_,_] HB DB Y) V rfl ?_;refine Yf 7 B8 V rfl DB Y<|E5 Y Wh (Pa #[_,_,_] HB DB Y) V rfl ?_;refine Yg (KZ A6 Hj Cl AE A5 Y Y) ?_;refine Yg (AX Y Y)<|Zv (AL Y Y)<|Z0<|Zn [35,1,3,4,5,6] ?_;refine BL (e':=[(35,_)]) (by exact ⟨_,by simp_all,V,V⟩)
   repeat refine A7 Y rfl ?_
   refine Yg (AL Y Y)<|Zv (AL Y Y)<|Z0<|Zn [35,1,3,4,5,6] ?_;refine BL (e':=[(35,_)]) (by exact ⟨_,by simp_all,V,V⟩)
  refine A7 Y V<|Yg (AL Y Y)<|Zf Y Y ?_;repeat refine A7 Y rfl ?_
  refine Yg (AL Y Y)<|Zv (AL Y Y)<|Z0<|Zn [35,1,3,4,5,6] ?_;refine BL (e':=[(35,_)]) (by exact ⟨_,by simp_all,V,V⟩)
 rintro _ _ ⟨U,gm,rfl,rfl⟩;refine AV Y (fun cu=>?_) (fun cu=>?_)
 ·
  refine A0<|A3 Y<|AJ<|Zt<|AO V cY Y (by exact ⟨by simp_all [Chg.ok],V⟩)
 refine AC<|Zx<|Zq<|Zb [3,5,1,4,6] ?_;refine D7 (e0:=[(3,_),(5,_)]) (H0:=[]) (fun e H=>∃(O:Bool),(O=decide ((c.had/\¬c.before.ok)\/(c.has/\¬c.after.ok)))/\e=[(49,.bool O)]/\H=[]) Wp ?hx_10 ?hy_10
 case hx_10=>
  refine Zg<|Zm Y<|Zm Y<|Af (t:=37) Y V (fun cO=>?_) (fun cO=>?_)
  ·
   refine E5 Y Wh (Pa #[_,_,_,_,_] CH AW Y) V rfl ?_;refine Xr [_] Y call212 Y V (SH _) ?_;refine Yg (DD Y)<|Zv (AX Y Y)<|Zm Y<|Ao (t:=42) Y V (fun d9=>?_) (fun d9=>?_)
   ·
    repeat refine A7 Y rfl ?_
    refine Zv (AX Y Y)<|Z0<|Zn [49,1,4,6] ?_;refine BL (e':=[(49,_)]) (by exact ⟨_,by simp_all,V,V⟩)
   refine Zf Y Y<|Zf Y Y ?_;refine Af (t:=44) Y V (fun g=>?_) (fun g=>?_)
   ·
    refine E5 Y Wh (Pa #[_,_,_,_,_] CH AW Y) V rfl ?_;refine Xr [_] Y call212 Y V (SH _) ?_;refine Yg (DD Y)<|Yg (AX Y Y)<|Zv (AL Y Y)<|Z0<|Zn [49,1,4,6] ?_;refine BL (e':=[(49,_)]) (by exact ⟨_,by simp_all,V,V⟩)
   refine A7 Y V<|A7 Y V<|A7 Y V<|Yg (AL Y Y)<|Zv (AL Y Y)<|Z0<|Zn [49,1,4,6] ?_;refine BL (e':=[(49,_)]) (by exact ⟨_,by simp_all,V,V⟩)
  refine A7 Y V<|A7 Y V<|A7 Y V<|Zv (AL Y Y)<|Zm Y<|Zf Y Y<|Zf Y Y ?_;refine Af (t:=44) Y V (fun m=>?_) (fun m=>?_)
  ·
   refine E5 Y Wh (Pa #[_,_,_,_,_] CH AW Y) V rfl ?_;refine Xr [_] Y call212 Y V (SH _) ?_;refine Yg (DD Y)<|Yg (AX Y Y)<|Zv (AL Y Y)<|Z0<|Zn [49,1,4,6] ?_;refine BL (e':=[(49,_)]) (by exact ⟨_,by simp_all,V,V⟩)
  refine A7 Y V<|A7 Y V<|A7 Y V<|Yg (AL Y Y)<|Zv (AL Y Y)<|Z0<|Zn [49,1,4,6] ?_;refine BL (e':=[(49,_)]) (by exact ⟨_,by simp_all,V,V⟩)
 rintro _ _ ⟨O,ek,rfl,rfl⟩;refine AV Y (fun B=>?_) (fun B=>?_)
 ·
  refine A0<|A3 Y<|AJ<|Zt<|AO V cY Y (by exact ⟨by simp_all [Chg.ok],V⟩)
 refine AC<|Zx<|A0<|Zm Y<|Zm Y<|Af (t:=51) Y V (fun G=>?_) (fun G=>?_)
 ·
  refine A7 Y V<|A7 Y V<|A7 Y V<|A7 Y V<|Zv (AX Y Y)<|Zm Y<|Zf Y Y<|Zf Y Y ?_;refine Af (t:=59) Y V (fun I=>?_) (fun I=>?_)
  ·
   refine A7 Y V<|A7 Y V<|A7 Y V<|A7 Y V<|Yg (AX Y Y)<|Zv (AX Y Y)<|AG Y<|Zn [2] ?_;refine Zx<|AJ<|AO V cY Y (by exact ⟨by simp_all [Chg.ok],V⟩)
  refine Yf 7 B8 V rfl DB Y<|E5 Y Wh (Pa #[_,_,_] HB DB Y) V rfl ?_;refine Yg (BK (vs:=[]) (cs:=#[_,_,_]) Y (DY cA Hj A5 V)) ?_;refine Yg (IK A6 Hj Cl AE A5 Y Y) ?_;refine Yg (AL Y Y)<|Zv (AX Y Y)<|AG Y<|Zn [2] ?_;refine Zx<|AJ<|AO V cY Y (by exact ⟨by simp_all [Chg.ok],V⟩)
 refine Yf 3 B8 V rfl DB Y<|E5 Y Wh (Pa #[_,_,_] HB DB Y) V rfl ?_;refine Yg (BK (vs:=[]) (cs:=#[_,_,_]) Y (DY cA Hj A5 V)) ?_;refine Yg (IK A6 Hj Cl AE A5 Y Y) ?_;refine Zv (AL Y Y)<|Zm Y<|Ao (t:=57) Y V (fun J=>?_) (fun J=>?_)
 ·
  refine Zf Y Y<|Zf Y Y ?_;refine Af (t:=59) Y V (fun K=>?_) (fun K=>?_)
  ·
   refine A7 Y V<|A7 Y V<|A7 Y V<|A7 Y V<|Yg (AX Y Y)<|Zv (AX Y Y)<|AG Y<|Zn [2] ?_;refine Zx<|AJ<|AO V cY Y (by exact ⟨by simp_all [Chg.ok],V⟩)
  refine Yf 7 B8 V rfl DB Y<|E5 Y Wh (Pa #[_,_,_] HB DB Y) V rfl ?_;refine Yg (BK (vs:=[]) (cs:=#[_,_,_]) Y (DY cA Hj A5 V)) ?_;refine Yg (IK A6 Hj Cl AE A5 Y Y) ?_;refine Yg (AL Y Y)<|Zv (AX Y Y)<|AG Y<|Zn [2] ?_;refine Zx<|AJ<|AO V cY Y (by exact ⟨by simp_all [Chg.ok],V⟩)
 repeat refine A7 Y rfl ?_
 refine Zv (AL Y Y)<|AG Y<|Zn [2] ?_;refine Zx<|AJ<|AO V cY Y (by exact ⟨by simp_all [Chg.ok],V⟩)
def Ck(M:List A9)(v:Value)(cs:List Chg):Prop:=∃p cap,v= .slice p cs.length cap/\cs.length<=maxLen/\∀(i:Nat) (c:Chg),cs[i]?=some c->∃g off cur T zz,p=some ⟨g,off,none⟩/\(g,Obj.cells cur T zz)∈M/\off+i*10+10<=cur.size/\cur.extract (off+i*10) (off+i*10+10)=c.A15
def Chg.lt(b c:Chg):Prop:=b.t<c.t\/b.t=c.t/\b.k<c.k
instance(b c:Chg):Decidable (b.lt c):=inferInstanceAs(Decidable (_\/_))
structure EG(p:Int)(cs:List Chg):Prop where
 pos:1<=p/\p<=10000
 len:1<=cs.length/\cs.length<=8
 all:∀(i:Nat) (c:Chg),cs[i]?=some c->c.ok
 ord:∀(i:Nat) (b c:Chg),cs[i]?=some b->cs[i+1]?=some c->b.lt c
noncomputable instance(p:Int)(cs:List Chg):Decidable (EG p cs):=Classical.propDecidable _
variable{i:Nat}
theorem M7{cs:List Chg}{x:Chg}(h:∀(j:Nat) (c:Chg),j<i->cs[j]?=some c->c.ok)(m:cs[i]?=some x)(g:x.ok):∀(j:Nat) (c:Chg),j<i+1->cs[j]?=some c->c.ok:=by
 intro j c B hc;rcases EV j i with h9|h9
 · exact h j c h9 hc
 · have e:j=i:=by omega
   rw [e,m]at hc;injection hc with hc;rw [<-hc];exact g
theorem Lg{cs:List Chg}{x:Chg}(h:∀(j:Nat) (b c:Chg),j+1<i->cs[j]?=some b->cs[j+1]?=some c->b.lt c)(B:cs[i]?=some x)(m:i=0\/∃y,cs[i -1]?=some y/\y.lt x):∀(j:Nat) (b c:Chg),j+1<i+1->cs[j]?=some b->cs[j+1]?=some c->b.lt c:=by
 intro j b c G g hc;rcases EV (j+1) i with h9|h9
 · exact h j b c h9 g hc
 · have e:j+1=i:=by omega
   rw [e,B]at hc;injection hc with hc
   rcases m with h0|⟨y,hy,hl⟩
   · omega
   · rw [show i -1=j by omega,g]at hy;injection hy with hy;rw [hy,<-hc];exact hl
theorem jy(p:Int)(q:Option Addr)(cap:Nat)(cs:List Chg)(M:List A9)(hO:Ck M (.slice q cs.length cap) cs):BJ prog 79 #[.agg #[I4 p,.slice q cs.length cap]] [M] (.bool (decide (EG p cs))):=by
 have ic:=mL;obtain ⟨p9,gm,e9,j3,hg⟩:=hO;injection e9 with e91 e92 e93
 subst e91 e93;refine Se func79 ntmps79 [0] ?_;intro u R;refine A0<|Ze (Bx #[_,_])<|AD fun b1=>A3 Y<|Zq<|A0<|Zh 0 GF V rfl A5 Y<|Zl AE Y ?_;refine Xr [_,_,_] Y call153 Y V (Jw _ _ _) ?_;refine Zv (DD Y)<|Zm Y<|Ao (t:=10) Y V (fun hp=>?_) (fun hp=>?_)
 ·
  repeat refine A7 Y rfl ?_
  refine Zv (AX Y Y)<|Z0<|Zn [1,16] ?_;refine Zx<|Cn Y<|A0<|A3 Y<|AJ<|Zt<|AO rfl ep Y (by exact ⟨by rw [CI (fun h9:EG p cs=>by have J:=h9.pos;have af:=h9.len;exact hp J)],rfl⟩)
 refine Yf 1 GF V rfl Ks Y<|Yl Lq Y ?_;refine Yg (Ab G3 Y)<|Xr [_,_,_] Y call153 Y V (Jw _ _ _) ?_;refine Yg (DD Y)<|Zv (AL Y Y)<|Z0<|Zn [1,16] ?_;refine Zx<|Av Y (fun hl=>?_) (fun hl=>?_)
 ·
  refine A0<|A3 Y<|AJ<|Zt<|AO rfl ep Y (by exact ⟨by rw [CI (fun h9:EG p cs=>by have J:=h9.pos;have af:=h9.len;(apply hl;omega))],rfl⟩)
 refine AC<|Zx<|Zq<|A0<|A3 Y<|AP<|Zb [3,1] ?_;refine BB (e0:=[(3,_)]) (fun m e H=>∃(i:Nat),m=cs.length -i/\(i<=cs.length/\(∀(j:Nat) (c:Chg),j<i->cs[j]?=some c->c.ok)/\(∀(j:Nat) (b c:Chg),j+1<i->cs[j]?=some b->cs[j+1]?=some c->b.lt c))/\e=[(3,I4 (i:Int))]/\H=[]) (by exact ⟨0,V,⟨by omega,by intro j c hj;omega,by intro j b c hj;omega⟩,V,V⟩) Wp ?_;rintro _ _ _ ⟨i,rfl,⟨hi,G,I⟩,rfl,rfl⟩;refine Zq<|A0<|Zm Y<|Zh 1 GF V rfl Ks Y<|Zl Lq Y ?_;refine Zv (Ab G3 Y)<|Zv (Au Y Y)<|A4<|Av Y (fun W=>?_) (fun W=>?_)
 ·
  refine AC<|Zx<|Zq<|AP<|Zq ?_;obtain ⟨x,K⟩:∃x,cs[i]?=some x:=⟨_,B4 W⟩;obtain ⟨g,off,cur,T,zz,rfl,hm,j5,ax⟩:=hg i x K;refine Zg<|Zh 1 GF V rfl Ks Y<|Zl Lq Y ?_;refine Zm Y<|BX (Ad G3 C1 Y Y A1)<|CO (cs:=[(g,.cells cur T zz)]) (by simp [hm]) (AA (cs:=x.A15) Fk C1 Y A1 ax) V rfl ?_;refine Ze (Al LI #[_,_,_,_,_,_,_,_,_,_])<|AD fun b2=>Xe (Xw C1 _) ?_;refine A4<|Zq<|A0<|Zo Wh (Pa #[_,_,_,_,_,_,_,_,_,_] Fk C1 Y) ?_;refine Xr [_] Y call154 Y V (kC x) ?_;refine Zv (DD Y)<|Z0<|Zn [1,3,4,31] ?_;refine Zx<|Av Y (fun B=>?_) (fun B=>?_)
  ·
   refine A0<|A3 Y<|AJ<|Zt<|Ac<|Zt<|Zt<|Ac<|Zt<|AO rfl ep Y (by exact ⟨by rw [CI (fun h9:EG p cs=>B (h9.all i x K))],rfl⟩)
  refine AC<|Zx<|A0<|Zm Y<|Zv (DF (n:=0) Y Y)<|A4<|Av Y (fun X=>?_) (fun X=>?_)
  ·
   refine Zq ?_;obtain ⟨y,Z⟩:∃y,cs[i -1]?=some y:=⟨_,B4 A1⟩;obtain ⟨g2,gy,O,T2,ek,e2,bn,gq,U⟩:=hg (i -1) y Z;injection e2 with e2
   injection e2 with e21 e22
   subst e21 e22;refine Zg<|Zh 1 GF V rfl Ks Y<|Zl Lq Y ?_;refine Zm Y<|Yb (n:=1) Y Y ?_;refine BX (Ad G3 C1 Y Y A1)<|CO (cs:=[(g,.cells O T2 ek)]) (by simp [bn]) (AA (cs:=y.A15) Fk C1 Y A1 U) V rfl ?_;refine Ze (Al LI #[_,_,_,_,_,_,_,_,_,_])<|AD fun b3=>Xe (Xw C1 _) ?_;refine A4<|A0<|Zh 0 B8 V rfl A5 Y<|Zl AE Y ?_;refine Zh 0 B8 V rfl A5 Y<|Zl AE Y ?_;refine Zv (Ep Y Y)<|Zm Y<|Ao (t:=45) Y V (fun cu=>?_) (fun cu=>?_)
   ·
    repeat refine A7 Y rfl ?_
    refine Zv (AX Y Y)<|Z0<|Zn [1,3,58] ?_;refine Zx<|Cn Y<|A0<|A3 Y<|AJ<|Ac<|Zt<|Zt<|Ac<|Zt<|AO rfl ep Y (by exact ⟨by rw [CI (fun h9:EG p cs=>by have J:=h9.ord (i -1) y x Z (by rw [show i -1+1=i by omega];exact K);unfold Chg.lt at J;omega)],rfl⟩)
   refine Yf 0 B8 V rfl A5 Y<|Yl AE Y ?_;refine Yf 0 B8 V rfl A5 Y<|Yl AE Y ?_;refine Yg (CP Y Y)<|Zf Y Y ?_;refine Ao (t:=51) Y V (fun cO=>?_) (fun cO=>?_)
   ·
    refine Yf 1 B8 V rfl A5 Y<|Yl AE Y ?_;refine Yf 1 B8 V rfl A5 Y<|Yl AE Y ?_;refine Yg (H5 Y Y)<|Yg (AX Y Y)<|Zv (AL Y Y)<|Z0<|Zn [1,3,58] ?_;refine Zx<|Av Y (fun d9=>?_) (fun d9=>?_)
    ·
     refine A0<|A3 Y<|AJ<|Ac<|Zt<|Zt<|Ac<|Zt<|AO rfl ep Y (by exact ⟨by rw [CI (fun h9:EG p cs=>by have J:=h9.ord (i -1) y x Z (by rw [show i -1+1=i by omega];exact K);unfold Chg.lt at J;omega)],rfl⟩)
    refine AC<|A8<|Zx<|Zg<|Zm Y<|Ya (n:=1) Y Y<|AG Y<|Zn [3,1] ?_;refine Aa (e':=[(3,_)]) (by exact ⟨i+1,V,⟨by omega,M7 G K (HS.1 B),Lg I K (by(right;refine ⟨y,Z,?_⟩;unfold Chg.lt;omega))⟩,V,V⟩)
   repeat refine A7 Y rfl ?_
   refine Yg (AL Y Y)<|Zv (AL Y Y)<|Z0<|Zn [1,3,58] ?_;refine Zx<|D5 Y<|AC<|A8<|Zx<|Zg<|Zm Y<|Ya (n:=1) Y Y<|AG Y<|Zn [3,1] ?_;refine Aa (e':=[(3,_)]) (by exact ⟨i+1,V,⟨by omega,M7 G K (HS.1 B),Lg I K (by(right;refine ⟨y,Z,?_⟩;unfold Chg.lt;omega))⟩,V,V⟩)
  refine AC<|A8<|Zx<|Zg<|Zm Y<|Ya (n:=1) Y Y<|AG Y<|Zn [3,1] ?_;refine Aa (e':=[(3,_)]) (by exact ⟨i+1,V,⟨by omega,M7 G K (HS.1 B),Lg I K (by(left;omega))⟩,V,V⟩)
 refine Ay<|Zt<|Zt<|AR<|Zx<|A0<|A3 Y<|AJ<|AO rfl ep Y (by exact ⟨by rw [DA (⟨by omega,by omega,fun j c hc=>G j c (by have:=(BE.1 hc).1;omega) hc,fun j b c hb hc=>I j b c (by have:=(BE.1 hc).1;omega) hb hc⟩:EG p cs)],rfl⟩)
def gV(M:List A9)(v:Value)(rs:List AU):Prop:=∃p cap,v= .slice p rs.length cap/\rs.length<=maxLen/\∀(i:Nat) (r:AU),rs[i]?=some r->∃g off cur T zz,p=some ⟨g,off,none⟩/\(g,Obj.cells cur T zz)∈M/\off+i*5+5<=cur.size/\cur.extract (off+i*5) (off+i*5+5)=r.A16
variable{cur:Array Value}
theorem Tj{cs:Array Value}{a n j:Nat}{v:Value}(h:cur.extract a (a+n)=cs)(hv:cs[j]?=some v):cur[a+j]?=some v:=by
 rw [<-h,ab]at hv;split at hv
 · exact hv
 · cases hv
def AU.lt2(r:AU)(t k:Int):Prop:=r.t<t\/r.t=t/\r.k<k
instance(r:AU)(t k:Int):Decidable (r.lt2 t k):=inferInstanceAs(Decidable (_\/_))
def AU.is(r:AU)(t k:Int):Prop:=r.t=t/\r.k=k
instance(r:AU)(t k:Int):Decidable (r.is t k):=inferInstanceAs(Decidable (_/\_))
def BP(rs:List AU):Prop:=rs.Pairwise (fun a b=>a.lt2 b.t b.k)
def Dw(rs:List AU)(t k:Int):Nat:=(rs.takeWhile (fun r=>decide (r.lt2 t k))).length
theorem VK:∀{rs:List AU} {t k:Int} {m:Nat},m<=rs.length->(∀(i:Nat) (r:AU),i<m->rs[i]?=some r->r.lt2 t k)->(∀(i:Nat) (r:AU),m<=i->rs[i]?=some r->¬r.lt2 t k)->Dw rs t k=m
 |[],t,k,m,hm,_,_=>by simp only [It]at hm;simp [Dw];omega
 |r::rs,t,k,0,_,_,h2=>by unfold Dw;rw [ON,AH (by simpa using h2 0 r A1 rfl)];rfl
 |r::rs,t,k,m+1,hm,h1,h2=>by
  unfold Dw;rw [ON,AK (by simpa using h1 0 r A1 rfl),DE];exact congrArg (·+1) (VK (by simpa using hm) (fun i x hi g=>h1 (i+1) x A1 g) (fun i x hi g=>h2 (i+1) x A1 g))
variable{k t:Int}
theorem Q8{a b:AU}(h:a.lt2 b.t b.k)(g:b.lt2 t k):a.lt2 t k:=by unfold AU.lt2 at*;omega
variable{rs:List AU}
theorem Uu(h:BP rs){j:Nat}{a b:AU}(g:i<j)(m:rs[i]?=some a)(B:rs[j]?=some b):a.lt2 b.t b.k:=by
 obtain ⟨hi,rfl⟩:=BE.1 m;obtain ⟨G,rfl⟩:=BE.1 B;exact dq.1 h i j hi G g
variable{x:AU}
theorem Vx(h:BP rs){m:Nat}(G:rs[m]?=some x)(B:x.lt2 t k):∀(i:Nat) (r:AU),i<m+1->rs[i]?=some r->r.lt2 t k:=by
 intro i r hi g;rcases EV i m with h9|h9
 · exact Q8 (Uu h h9 g G) B
 · rw [show i=m by omega,G]at g;injection g with g;rw [<-g];exact B
theorem W9(h:BP rs){m:Nat}(G:rs[m]?=some x)(B:¬x.lt2 t k):∀(i:Nat) (r:AU),m<=i->rs[i]?=some r->¬r.lt2 t k:=by
 intro i r hi g hc;rcases EV m i with h9|h9
 · exact B (Q8 (Uu h h9 G g) hc)
 · rw [show i=m by omega,G]at g;injection g with g;rw [<-g]at hc;exact B hc
theorem YO(Z:Nat)(q:Option Addr)(cap:Nat)(p t k:Int)(rs:List AU)(M:List A9)(hO:gV M (.slice q rs.length cap) rs)(hn:rs.length<=1000000)(K:BP rs):BJ prog 78 #[I5 Z,I4 t,I4 k] [[(Z,.cells #[.slice q rs.length cap,I4 p] 87 (0,0))],M] (I4 (Dw rs t k:Int)):=by
 have bn:=mL;obtain ⟨p9,X,e9,cu,hg⟩:=hO;injection e9 with e91 e92 e93
 subst e91 e93;refine Se func78 ntmps78 [0,1,2] ?_;intro u R;refine A0<|A3 Y<|A0<|A3 Y<|A0<|Zm Y<|Zp Y V<|Zh 0 Hs V rfl C5 Y<|Zl Fl Y ?_;refine Zv (Ab B6 Y)<|A3 Y<|Zq<|AP<|Zb [7,8,0,1,2] ?_;refine BB (e0:=[(7,_),(8,_)]) (fun m e H=>∃(lo hi:Nat),m=hi -lo/\(lo<=hi/\hi<=rs.length/\(∀(i:Nat) (r:AU),i<lo->rs[i]?=some r->r.lt2 t k)/\(∀(i:Nat) (r:AU),hi<=i->rs[i]?=some r->¬r.lt2 t k))/\e=[(7,I4 (lo:Int)),(8,I4 (hi:Int))]/\H=[]) (by exact ⟨0,rs.length,V,⟨by omega,by omega,by intro i r hi;omega,by intro i r hi W;have:=(BE.1 W).1;omega⟩,V,V⟩) Wp ?_;rintro _ _ _ ⟨lo,hi,rfl,⟨ax,af,G,B⟩,rfl,rfl⟩;refine Zq<|A0<|Zm Y<|Zm Y<|Zv (Au Y Y)<|A4<|Av Y (fun O=>?_) (fun O=>?_)
 ·
  refine AC<|Zx<|AP<|A0<|Zm Y<|Zm Y<|Ya Y Y ?_
  (refine BX (K6 (n:=2) Y Y ?_ ?_) ?_;(focus (omega));(focus (omega)))
  refine A3 Y<|Zq ?_;obtain ⟨x,J⟩:∃x,rs[(lo+hi)/2]?=some x:=⟨_,B4 A1⟩;obtain ⟨g,off,cur,T,zz,rfl,U,cO,I⟩:=hg _ x J;refine Zg<|Zm Y<|Zp Y V<|Zh 0 Hs V rfl C5 Y<|Zl Fl Y ?_;refine Zm Y<|BX (Ad B6 AW Y Y A1)<|Zv (Aq (off:=0) Fi V rfl A5 Y)<|CO (cs:=[(g,.cells cur T zz)]) (by simp [U]) (BO AE Y (Tj (j:=0) I V)) V rfl ?_;refine Zm Y<|Zv (Dq Y Y)<|Zm Y<|Ao (t:=32) Y V (fun h1=>?_) (fun h1=>?_)
  ·
   repeat refine A7 Y rfl ?_
   refine Zv (AX Y Y)<|Z0<|Zn [0,1,2,7,8,9,55] ?_;refine Zx<|Cn Y<|Zg<|Zm Y<|Ya (n:=1) Y Y<|AG Y<|A8<|Zn [7,8,0,1,2] ?_;refine Aa (e':=[(7,_),(8,_)]) (by exact ⟨(lo+hi)/2+1,hi,V,⟨by omega,by omega,Vx K J (by unfold AU.lt2;omega),B⟩,V,V⟩)
  refine Zf Y Y<|Yg (Ap Y V)<|Yf 0 Hs V rfl C5 Y<|Yl Fl Y ?_;refine Zf Y Y ?_
  (refine Gp Y (Ad B6 AW Y Y ?_) rfl rfl ?_;(focus (omega)))
  refine Yg (Aq (off:=0) Fi V rfl A5 Y)<|Lh Y (cs:=[(g,.cells cur T zz)]) (by simp [U]) (BO AE Y (Tj (j:=0) I V)) V rfl ?_;refine Zf Y Y<|Yg (CP Y Y)<|Zf Y Y ?_;refine Ao (t:=43) Y V (fun h2=>?_) (fun h2=>?_)
  ·
   refine Zf Y Y<|Yg (Ap Y V)<|Yf 0 Hs V rfl C5 Y<|Yl Fl Y ?_;refine Zf Y Y ?_
   (refine Gp Y (Ad B6 AW Y Y ?_) rfl rfl ?_;(focus (omega)))
   refine Yg (Aq (off:=1) Fi V rfl A5 Y)<|Lh Y (cs:=[(g,.cells cur T zz)]) (by simp [U]) (BO AE Y (Tj (j:=1) I V)) V rfl ?_;refine Zf Y Y<|Yg (Dq Y Y)<|Yg (AX Y Y)<|Zv (AL Y Y)<|Z0<|Zn [0,1,2,7,8,9,55] ?_;refine Zx<|Av Y (fun h3=>?_) (fun h3=>?_)
   ·
    refine Zg<|Zm Y<|Ya (n:=1) Y Y<|AG Y<|A8<|Zn [7,8,0,1,2] ?_;refine Aa (e':=[(7,_),(8,_)]) (by exact ⟨(lo+hi)/2+1,hi,V,⟨by omega,by omega,Vx K J (by unfold AU.lt2;omega),B⟩,V,V⟩)
   refine Zg<|Zm Y<|AG Y<|A8<|Zn [7,8,0,1,2] ?_;refine Aa (e':=[(7,_),(8,_)]) (by exact ⟨lo,(lo+hi)/2,V,⟨by omega,by omega,G,W9 K J (by unfold AU.lt2;omega)⟩,V,V⟩)
  repeat refine A7 Y rfl ?_
  refine Yg (AL Y Y)<|Zv (AL Y Y)<|Z0<|Zn [0,1,2,7,8,9,55] ?_;refine Zx<|D5 Y<|Zg<|Zm Y<|AG Y<|A8<|Zn [7,8,0,1,2] ?_;refine Aa (e':=[(7,_),(8,_)]) (by exact ⟨lo,(lo+hi)/2,V,⟨by omega,by omega,G,W9 K J (by unfold AU.lt2;omega)⟩,V,V⟩)
 refine Ay<|Zt<|Zt<|AR<|Zx<|A0<|Zm Y<|A3 Y<|AJ<|AO rfl results78 Y (by exact ⟨by rw [VK A1 G (fun i r hi W=>B i r A1 W)],rfl⟩)
def Fg(rs:List AU)(t k:Int):AU×Bool:=match rs[Dw rs t k]?with
 |some r=>if r.is t k then(r,true)else(AU.zero,false)
 |none=>(AU.zero,false)
theorem VL(rs:List AU)(t k:Int):Dw rs t k<=rs.length:=by unfold Dw;exact List.IsPrefix.length_le (List.takeWhile_prefix _)
theorem mF(m:rs[Dw rs t k]?=some x)(g:x.t=t)(h2:x.k=k):Fg rs t k=(x,true):=by unfold Fg;rw [m];exact AK ⟨g,h2⟩
theorem jB(g:rs[Dw rs t k]?=some x)(h:¬(x.t=t/\x.k=k)):Fg rs t k=(AU.zero,false):=by unfold Fg;rw [g];exact AH h
theorem sQ(h:¬Dw rs t k<rs.length):Fg rs t k=(AU.zero,false):=by unfold Fg;rw [Mp A1]
theorem pK(K:Nat)(q:Option Addr)(cap:Nat)(p t k:Int)(rs:List AU)(M:List A9)(U:gV M (.slice q rs.length cap) rs)(hn:rs.length<=1000000)(hs:BP rs):BJ prog 32 #[I5 K,I4 t,I4 k] [[(K,.cells #[.slice q rs.length cap,I4 p] 87 (0,0))],M] (.tuple #[.agg #[I4 (Fg rs t k).1.t,I4 (Fg rs t k).1.k,I4 (Fg rs t k).1.v.a,I4 (Fg rs t k).1.v.b,I4 (Fg rs t k).1.v.c],.bool (Fg rs t k).2]):=by
 have I:=id U;have af:=mL
 obtain ⟨p9,O,Z,ax,hg⟩:=U;injection Z with e91 e92 e93
 subst e91 e93;have bn:=VL rs t k
 refine Se func32 ntmps32 [0,1,2] ?_;intro u R;refine A0<|Ze (Al DP #[_,_,_,_,_])<|AD fun b1=>A3 Y<|A0<|Zm Y<|Zm Y<|Zm Y<|Xr [_,_,_] Y call78 Y V (YO K _ _ p t k rs M I hn hs) ?_;refine A3 Y<|Zq<|A0<|Zm Y<|Zm Y<|Zp Y V<|Zh 0 Hs V rfl C5 Y<|Zl Fl Y ?_;refine Zv (Ab B6 Y)<|Zv (Au Y Y)<|Zm Y<|Ao (t:=20) Y V (fun B=>?_) (fun B=>?_)
 ·
  obtain ⟨x,G⟩:∃x,rs[Dw rs t k]?=some x:=⟨_,B4 B⟩;obtain ⟨g,off,cur,T,zz,rfl,J,cu,m⟩:=hg _ x G;refine Zf Y Y<|Yg (Ap Y V)<|Yf 0 Hs V rfl C5 Y<|Yl Fl Y ?_;refine Zf Y Y ?_
  (refine Gp Y (Ad B6 AW Y Y ?_) rfl rfl ?_;(focus (omega)))
  refine Yg (Aq (off:=0) Fi V rfl A5 Y)<|Lh Y (cs:=[(g,.cells cur T zz)]) (by simp [J]) (BO AE Y (Tj (j:=0) m V)) V rfl ?_;refine Zf Y Y<|Yg (CP Y Y)<|Zv (AX Y Y)<|Zm Y<|Ao (t:=32) Y V (fun X=>?_) (fun X=>?_)
  ·
   refine Zf Y Y<|Yg (Ap Y V)<|Yf 0 Hs V rfl C5 Y<|Yl Fl Y ?_;refine Zf Y Y ?_
   (refine Gp Y (Ad B6 AW Y Y ?_) rfl rfl ?_;(focus (omega)))
   refine Yg (Aq (off:=1) Fi V rfl A5 Y)<|Lh Y (cs:=[(g,.cells cur T zz)]) (by simp [J]) (BO AE Y (Tj (j:=1) m V)) V rfl ?_;refine Zf Y Y<|Yg (CP Y Y)<|Zv (AX Y Y)<|Z0<|Zn [0,6,8,43] ?_;refine Zx<|Av Y (fun W=>?_) (fun W=>?_)
   ·
    refine A0<|Zm Y<|Zp Y V<|Zh 0 Hs V rfl C5 Y<|Zl Fl Y ?_;refine Zm Y<|BX (Ad B6 AW Y Y A1)<|CO (cs:=[(g,.cells cur T zz)]) (by simp [J]) (AA (cs:=x.A16) CH AW Y A1 m) V rfl ?_;refine Xe (Xw AW _) ?_;refine A3 Y<|AJ<|Zt<|Bn rfl results32 Y Wh (Ak CH AW Wn (rfl)) Y (by exact ⟨by rw [mF G X W];rfl,rfl⟩)
   refine AC<|Zx<|A0<|Zv (BK (vs:=[]) (cs:=#[_,_,_,_,_]) Y (AY (pl:=#[(0,1),(1,1),(2,3)]) DP Fi (fun _=>by kernel_rfl) V))<|Xe (Xw AW _) ?_;refine A3 Y<|AJ<|Bn V results32 Y Wh (Ak CH AW Wn (V)) Y (by exact ⟨by(rw [jB G A1];rfl),V⟩)
  repeat refine A7 Y rfl ?_
  refine Zv (AL Y Y)<|Z0<|Zn [0,6,8,43] ?_;refine Zx<|D5 Y<|AC<|Zx<|A0<|Zv (BK (vs:=[]) (cs:=#[_,_,_,_,_]) Y (AY (pl:=#[(0,1),(1,1),(2,3)]) DP Fi (fun _=>by kernel_rfl) V))<|Xe (Xw AW _) ?_;refine A3 Y<|AJ<|Bn V results32 Y Wh (Ak CH AW Wn (V)) Y (by exact ⟨by(rw [jB G A1];rfl),V⟩)
 repeat first|refine A7 Y rfl ?_|refine Zv (AL Y Y)<|Zm Y ?_
 refine Zv (AL Y Y)<|Z0<|Zn [0,6,8,43] ?_;refine Zx<|D5 Y<|AC<|Zx<|A0<|Zv (BK (vs:=[]) (cs:=#[_,_,_,_,_]) Y (AY (pl:=#[(0,1),(1,1),(2,3)]) DP Fi (fun _=>by kernel_rfl) V))<|Xe (Xw AW _) ?_;refine A3 Y<|AJ<|Bn V results32 Y Wh (Ak CH AW Wn (V)) Y (by exact ⟨by(rw [sQ B];rfl),V⟩)
def out(lo hi n:Int):Bool:=decide (n<lo)||decide (hi<n)
def Kt(cur:Array Value)(o:Nat)(ns:List Int):Prop:=∀(i:Nat) (n:Int),ns[i]?=some n->cur[o+i]?=some (I4 n)
theorem nS(p:Int->Bool)(ls:List Int)(i:Nat)(x:Int)(h:ls[i]?=some x):(ls.take (i+1)).any p=((ls.take i).any p||p x):=by
 rw [P0,h];simp
theorem xZ(p:Int->Bool)(ls:List Int)(i:Nat)(x:Int)(h:ls[i]?=some x)(g:p x=true):ls.any p=true:=by
 rw [fy];exact ⟨x,DG h,g⟩
theorem yX(lp m:Nat)(n lo hi:Int):BJ prog 182 #[I4 n,I5 lp,I5 m] [[(lp,.cells #[I4 lo] 3 (0,0))],[(m,.cells #[I4 hi] 3 (0,0))]] (.bool (out lo hi n)):=by
 refine Se func182 ntmps182 [0,1,2] ?_;intro u R;refine A0<|A3 Y<|A0<|Zm Y<|Zl AE Y ?_;refine Zv (Dq Y Y)<|Zm Y<|Ao (t:=8) Y V (fun g=>?_) (fun g=>?_)
 ·
  refine A7 Y V<|A7 Y V<|A7 Y V<|Zv (AX Y Y)<|A3 Y<|AJ<|AO V results182 Y (by exact ⟨by simp [out,g],V⟩)
 refine Zf Y Y<|Yl AE Y ?_;refine Yg (Ep Y Y)<|Zv (AL Y Y)<|A3 Y<|AJ<|AO V results182 Y (by exact ⟨by simp [out,g],V⟩)
theorem fH(lp J g off cap:Nat)(lo hi:Int)(cur:Array Value)(T:TypeId)(z:Nat×Nat)(ls:List Int)(K:Kt cur off ls)(X:ls.length<=1073741824):
 Ba prog 239 #[.slice (some ⟨g,off,none⟩) ls.length cap,.func (.func 182) #[] #[I5 lp,I5 J]] [[(lp,.cells #[I4 lo] 3 (0,0))],[(J,.cells #[I4 hi] 3 (0,0))],[(g,.cells cur T z)]] (fun r H'=>∃k:Int,r=I4 k/\decide (0<=k)=ls.any (out lo hi)/\H'=[[(lp,.cells #[I4 lo] 3 (0,0))],[(J,.cells #[I4 hi] 3 (0,0))],[(g,.cells cur T z)]]):=by
 refine Se func239 ntmps239 [0,1] ?_;intro u R;refine A0<|A3 Y<|Zq<|A0<|Zm Y<|Zv (Ab Cd Y)<|Zm Y<|A4<|AP<|Zb [8,0,1,7] ?_;refine BB (e0:=[(8,_)]) (fun m e H=>∃(i:Nat),m=ls.length -i/\(i<=ls.length/\(ls.take i).any (out lo hi)=false)/\e=[(8,I4 (i:Int))]/\H=[]) (by exact ⟨0,V,⟨C0 _,V⟩,V,V⟩) Wp ?_;rintro _ _ _ ⟨i,rfl,⟨W,B⟩,rfl,rfl⟩;refine A0<|Zv (Au Y Y)<|A4<|Zq<|Av Y (fun I=>?_) (fun I=>?_)
 ·
  refine AC<|Zx<|Zq<|AP<|A0<|Zm Y<|A3 Y<|Zq ?_;obtain ⟨x,O⟩:∃x,ls[i]?=some x:=⟨_,B4 I⟩;refine Zg<|Zm Y<|Zm Y<|Zm Y<|BX (CW Cd A5 Y Y A1)<|Zl AE Y (hv:=by exact K i x O) ?_;refine Xr [_] Y call182 Y V (yX lp J x lo hi) ?_;refine A4<|AV Y (fun G=>?_) (fun G=>?_)
  ·
   refine A0<|Zm Y<|A3 Y<|AJ<|Ac<|Zt<|Zt<|Ac<|Zt<|AO rfl results239 Y (by exact ⟨(i:Int),rfl,by rw [xZ _ ls i x O G];exact DA A1,rfl⟩)
  refine AC<|A8<|Zx<|Zg<|Ya (n:=1) Y Y<|Zm Y<|Z0<|Zn [8,0,1,7] ?_;refine Aa (e':=[(8,_)]) (by exact ⟨i+1,rfl,⟨by omega,by rw [nS _ ls i x O,B];exact G⟩,rfl,rfl⟩)
 have U:i=ls.length:=by omega
 subst U;rw [FF]at B;refine Ay<|Zt<|Zt<|AR<|Zx<|A0<|A3 Y<|AJ<|AO rfl results239 Y (by exact ⟨-1,rfl,by rw [B];rfl,rfl⟩)
theorem UV(lp B g off cap:Nat)(lo hi:Int)(cur:Array Value)(T:TypeId)(z:Nat×Nat)(ls:List Int)(m:Kt cur off ls)(I:ls.length<=1073741824):
 BJ prog 181 #[.slice (some ⟨g,off,none⟩) ls.length cap,.func (.func 182) #[] #[I5 lp,I5 B]] [[(lp,.cells #[I4 lo] 3 (0,0))],[(B,.cells #[I4 hi] 3 (0,0))],[(g,.cells cur T z)]] (.bool (ls.any (out lo hi))):=by
 refine Se func181 ntmps181 [0,1] ?_;intro u R;refine A0<|A3 Y<|A0<|Zm Y<|Zm Y<|Zc [_,_] Y call239 Y V (fH lp B g off cap lo hi cur T z ls m I) ?_;rintro _ _ ⟨_,⟨k,rfl,G,rfl⟩,rfl⟩;refine Zv (H5 Y Y)<|A3 Y<|AJ<|AO rfl results181 Y (by exact ⟨by rw [<-G],rfl⟩)
theorem Uv(g off cap:Nat)(lo hi:Int)(cur:Array Value)(T:TypeId)(z:Nat×Nat)(ls:List Int)(m:Kt cur off ls)(B:ls.length<=1073741824):
 BJ prog 107 #[I4 lo,I4 hi,.slice (some ⟨g,off,none⟩) ls.length cap] [[(g,.cells cur T z)]] (.bool (!(ls.any (out lo hi)))):=by
 refine Se func107 ntmps107 [0,1,2] ?_;intro u R;refine A0<|Ze (Bx #[_])<|AD fun G=>Ze (Bx #[_])<|AD fun I=>A3 Y<|A0<|Zm Y<|Zv (Bg (vs:=[]) (us:=[_,_]) Y Y)<|Xr [_,_] Y call181 Y V (UV _ _ g off cap lo hi cur T z ls m B) ?_;refine Zv (Br Y)<|A3 Y<|AJ<|AO V results107 Y (by exact ⟨V,V⟩)
def EK(c:Chg)(th:Bool)(v:V3):AU:=if th then⟨c.t,c.k,v⟩else AU.zero
variable{v:V3}
theorem sI{g:Bool}(h:g=true):EK c g v=⟨c.t,c.k,v⟩:=AK h
theorem zD{g:Bool}(h:g=false):EK c g v=AU.zero:=AH (by rw [h];decide)
theorem iR(lo hi n:Int):(!(([n]:List Int).any (out lo hi)))=decide (lo<=n/\n<=hi):=by
 simp only [kj,kl,eE,out];by_cases g:n<lo<;>by_cases h2:hi<n<;>simp [g,h2]<;>omega
theorem yl(v:V3):(!(([v.a,v.b,v.c]:List Int).any (out (-1000000000) 1000000000)))=decide v.ok:=by
 have h:∀n,out (-1000000000) 1000000000 n=!decide (inV n):=by
  intro n;have:=iR (-1000000000) 1000000000 n
  simp only [kj,kl,eE]at this;rw [<-Bool.not_not (out _ _ n),this];rfl
 simp only [kj,kl,eE,h,V3.ok];by_cases g:inV v.a<;>by_cases h2:inV v.b<;>by_cases m:inV v.c<;>simp [g,h2,m]
theorem q6{n:Int}(h:cur[o]?=some (I4 n)):Kt cur o [n]:=by
 intro i x g;rcases i with _|i
 · injection g with g;rw [<-g];exact h
 · cases g
theorem q5(h0:cur[o]?=some (I4 v.a))(m:cur[o+1]?=some (I4 v.b))(h2:cur[o+2]?=some (I4 v.c)):Kt cur o [v.a,v.b,v.c]:=by
 intro i x g;rcases i with _|_|_|i
 · injection g with g;rw [<-g];exact h0
 · injection g with g;rw [<-g];exact m
 · injection g with g;rw [<-g];exact h2
 · cases g
theorem KT(g off cap:Nat)(lo hi:Int)(cur:Array Value)(T:TypeId)(z:Nat×Nat)(n:Int)(h:cur[off]?=some (I4 n)):
 BJ prog 107 #[I4 lo,I4 hi,.slice (some ⟨g,off,none⟩) 1 cap] [[(g,.cells cur T z)]] (.bool (decide (lo<=n/\n<=hi))):=by
 rw [<-iR];exact Uv g off cap lo hi cur T z [n] (q6 h) B0
theorem cK(g off cap:Nat)(cur:Array Value)(T:TypeId)(z:Nat×Nat)(v:V3)(h:Kt cur off [v.a,v.b,v.c]):
 BJ prog 107 #[I4 (-1000000000),I4 1000000000,.slice (some ⟨g,off,none⟩) 3 cap] [[(g,.cells cur T z)]] (.bool (decide v.ok)):=by
 rw [<-yl];exact Uv g off cap _ _ cur T z [v.a,v.b,v.c] h B0
theorem WZ(c:Chg)(m:Bool)(v:V3):BJ prog 202 #[.agg c.A15,.bool m,.agg #[I4 v.a,I4 v.b,I4 v.c]] [] (.tuple #[.agg #[I4 (EK c m v).t,I4 (EK c m v).k,I4 (EK c m v).v.a,I4 (EK c m v).v.b,I4 (EK c m v).v.c],.bool m]):=by
 refine Se func202 ntmps202 [0,1,2] ?_;intro u R;refine A0<|Ze (Bx #[_,_,_,_,_,_,_,_,_,_])<|AD fun B=>Ze (Bx #[_,_,_])<|AD fun G=>Ze (Al DP #[_,_,_,_,_])<|AD fun I=>A3 Y<|Zq<|A0<|Zm Y<|Zv (Br Y)<|A4<|AV Y (fun g=>?_) (fun g=>?_)
 ·
  refine A0<|Zv (BK (vs:=[]) (cs:=#[_,_,_,_,_]) Y (AY (pl:=#[(0,1),(1,1),(2,3)]) DP Fi (fun _=>by kernel_rfl) V))<|Xe (Xw AW _) ?_;refine A3 Y<|AJ<|Zt<|Bn V results202 Y Wh (Ak CH AW Wn (V)) Y (by simp only [dt,S0,cP]at g;exact ⟨by(rw [zD g,g];rfl),V⟩)
 refine AC<|Zx<|A0<|Zh 0 B8 V rfl A5 Y<|Zl AE Y ?_;refine Zh 1 B8 V rfl A5 Y<|Zl AE Y ?_;refine Zo Wh (Pa #[_,_,_] HB DB Y) ?_;refine Zv (BK (vs:=[(0,_),(1,_),(2,_)]) (cs:=#[_,_,_,_,_]) Y (AY (pl:=#[(0,1),(1,1),(2,3)]) DP Fi (fun _=>by kernel_rfl) rfl))<|Xe (BM AW Y Y (by(simp [Value.oneCell',Value.cells];done)) Wu AM E7 Wn (by exact BA _)) ?_;refine AG Y<|Zn [6,7] ?_;refine Zx<|AJ<|Bn V results202 Y Wh (Ak CH AW Wn (V)) Y (by simp only [dt,S0,cP]at g;exact ⟨by(rw [sI g,g];rfl),V⟩)
theorem Rv(r:AU):BJ prog 203 #[.agg r.A16] [] (.bool (decide r.ok)):=by
 refine Se func203 ntmps203 [0] ?_;intro u R;refine A0<|Ze (Bx #[_,_,_,_,_])<|AD fun I=>A3 Y<|A0<|Zh 0 Fi V rfl A5 Y<|Zl AE Y ?_;refine Ze (Ah (vs:=[_]) (cs:=[_]) Cd A5 Gk Y V rfl V rfl V)<|AD fun J=>Xr [_,_,_] Y call107 Y V (KT _ 0 1 _ _ _ _ _ r.t V) ?_;refine Zm Y<|Ao (t:=7) Y V (fun g=>?_) (fun g=>?_)
 ·
  refine Yf 1 Fi V rfl A5 Y<|Yl AE Y ?_;refine Ze (Ah (vs:=[_]) (cs:=[_]) Cd A5 Gk Y V rfl V rfl V)<|AD fun K=>Xr [_,_,_] Y call107 Y V (KT _ 0 1 _ _ _ _ _ r.k V) ?_;refine Zv (AX Y Y)<|Zm Y<|Ao (t:=13) Y V (fun m=>?_) (fun m=>?_)
  ·
   refine Yf 2 Fi V rfl DB Y<|Yg (Ia Hj A5 Y)<|Xr [_,_,_] Y call107 Y V (cK _ 2 3 _ _ _ r.v (q5 V rfl V)) ?_;refine Zv (AX Y Y)<|AG Y<|Zn [2] ?_;refine Zx<|AJ<|AO V results203 Y (by exact ⟨by(simp_all [AU.ok];done),V⟩)
  refine A7 Y V<|A7 Y V<|A7 Y V<|Zv (AL Y Y)<|AG Y<|Zn [2] ?_;refine Zx<|AJ<|AO V results203 Y (by exact ⟨by(simp_all [AU.ok];done),V⟩)
 repeat first|refine A7 Y rfl ?_|refine Zv (AL Y Y)<|Zm Y ?_
 refine Zv (AL Y Y)<|AG Y<|Zn [2] ?_;refine Zx<|AJ<|AO rfl results203 Y (by exact ⟨by rw [CI (fun h9:r.ok=>by have B:=h9.2.1;have G:=h9.2.2;omega)],rfl⟩)
theorem YC(c:Chg)(g:Bool)(v:V3):BJ prog 125 #[.agg c.A15,.bool g,.agg #[I4 v.a,I4 v.b,I4 v.c]] [] (.bool (if g then decide (EK c g v).ok else decide (v=V3.zero))):=by
 refine Se func125 ntmps125 [0,1,2] ?_;intro u R;refine A0<|Ze (Bx #[_,_,_,_,_,_,_,_,_,_])<|AD fun J=>Ze (Bx #[_,_,_])<|AD fun K=>A3 Y<|A0<|Zo Wh (Pa #[_,_,_,_,_,_,_,_,_,_] Fk C1 Y) ?_;refine Zm Y<|Zo Wh (Pa #[_,_,_] HB DB Y) ?_;refine Xr [_,_,_] Y call202 Y V (WZ c g v) ?_;refine Zm Y<|Zd Y V<|Zd Y V<|Ze (Al DP #[_,_,_,_,_])<|AD fun O=>Xe (Xw AW _) ?_;refine AG Y<|Zn [1,5,7] ?_;refine Zx<|A0<|Zm Y<|Zm Y<|Af (t:=17) Y V (fun m=>?_) (fun m=>?_)
 ·
  refine E5 Y Wh (Pa #[_,_,_,_,_] CH AW Y) V rfl ?_;refine Xr [_] Y call203 Y V (Rv _) ?_;refine Zv (AX Y Y)<|Zm Y<|Ao (t:=21) Y V (fun B=>?_) (fun B=>?_)
  ·
   repeat refine A7 Y rfl ?_
   refine Zv (AX Y Y)<|AG Y<|Zn [6] ?_;refine Zx<|AJ<|AO V ia Y (by exact ⟨by simp_all,V⟩)
  refine Zf Y Y<|Yg (Br Y)<|Zf Y Y ?_;refine Af (t:=24) Y V (fun G=>?_) (fun G=>?_)
  ·
   refine E5 Y Wh (Pa #[_,_,_] HB DB Y) V rfl ?_;refine Yg (BK (vs:=[]) (cs:=#[_,_,_]) Y (DY cA Hj A5 V)) ?_;refine Yg (IK A6 Hj Cl AE A5 Y Y) ?_;refine Yg (AX Y Y)<|Zv (AL Y Y)<|AG Y<|Zn [6] ?_;refine Zx<|AJ<|AO V ia Y (by exact ⟨by simp_all,V⟩)
  refine A7 Y V<|A7 Y V<|A7 Y V<|Yg (AL Y Y)<|Zv (AL Y Y)<|AG Y<|Zn [6] ?_;refine Zx<|AJ<|AO V ia Y (by exact ⟨by simp_all,V⟩)
 refine A7 Y V<|A7 Y V<|Zv (AL Y Y)<|Zm Y<|Zf Y Y<|Yg (Br Y)<|Zf Y Y ?_;refine Af (t:=24) Y V (fun I=>?_) (fun I=>?_)
 ·
  refine E5 Y Wh (Pa #[_,_,_] HB DB Y) V rfl ?_;refine Yg (BK (vs:=[]) (cs:=#[_,_,_]) Y (DY cA Hj A5 V)) ?_;refine Yg (IK A6 Hj Cl AE A5 Y Y) ?_;refine Yg (AX Y Y)<|Zv (AL Y Y)<|AG Y<|Zn [6] ?_;refine Zx<|AJ<|AO V ia Y (by exact ⟨by simp_all,V⟩)
 refine A7 Y V<|A7 Y V<|A7 Y V<|Yg (AL Y Y)<|Zv (AL Y Y)<|AG Y<|Zn [6] ?_;refine Zx<|AJ<|AO V ia Y (by exact ⟨by simp_all,V⟩)
end Go.Proofs.YteaiajghbkenoaaGreatDoor
