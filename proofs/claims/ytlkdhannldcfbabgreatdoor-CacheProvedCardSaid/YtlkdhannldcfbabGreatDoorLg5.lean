/-
  DERIVED: THE SHELF's CONTRACTS AT THIS DUMP, IN PLAIN WORDS (tools/lay-plain.mjs out of 'TryzShelf.lean', which tools/lay-shelf.mjs wrote): THE SAME DECLARATIONS UNDER THE SAME NAMES: 'import', 'namespace', 'open', 'def', 'theorem' AND NOTHING ELSE: no command of the shelf's: FOR A HAND-IN. Each laying: the table of numbers ('.._ren') and one theorem, a field a fact of the dump's own or the kernel's comparison; each contract: ONE APPLICATION.
-/
import Derived.Shelf.Strings.OnBuilder
import Derived.Shelf.Small.Wraps
import Derived.Shelf.Strconv.Itoa3
import Derived.Shelf.Sort.Plain
import Derived.Shelf.Strings.Repeat
import Derived.Shelf.Strings.BuilderCap
import Derived.Shelf.Slices.Clone
import Derived.Shelf.Slices.SearchI
import Derived.Shelf.Slices.Cells
import Derived.Shelf.Slices.In.SortNone
import Derived.Shelf.Slices.Empties2
import Derived.Shelf.SlicesE.Clone
import Derived.Test.YtlkdhannldcfbabGreatDoorDg4
set_option linter.unusedVariables false
set_option linter.unusedSimpArgs false
namespace Go.Proofs
open Go.Shelf
def Tryz.lays156_ren:Go.Shelf.Ren:=⟨fun|156=>227|165=>76|166=>65|169=>69|240=>138|241=>145|276=>221|277=>225|n=>n,fun|31=>50|9=>9|3=>3|4=>4|0=>0|20=>20|72=>159|76=>162|70=>156|37=>157|75=>161|127=>252|164=>357|5=>5|80=>171|n=>n,fun|n=>n⟩
theorem Tryz.lays156:Go.Proofs.Lays.n156 prog Tryz.lays156_ren:={
 mixed:=by kernel_rfl
 f156:=func227.trans (congrArg some AD)
 f165:=func76.trans (congrArg some AD)
 f166:=func65.trans (congrArg some AD)
 f169:=func69.trans (congrArg some AD)
 f240:=func138.trans (congrArg some AD)
 f241:=func145.trans (congrArg some AD)
 f276:=func221.trans (congrArg some AD)
 f277:=func225.trans (congrArg some AD)
 t0:=du
 a0:=isAgg0
 z0:=eJ
 v0:=dy
 t3:=D3
 a3:=AE
 z3:=A6
 v3:=HT
 t4:=N6
 a4:=G0
 z4:=F1
 v4:=V1
 t9:=GW
 a9:=H3
 z9:=FG
 v9:=I2
 t20:=underlying20
 a20:=isAgg20
 z20:=sizeOf20
 v20:=zeroValue20
 t31:=DO
 a31:=ID
 z31:=Hc
 v31:=dv
 t37:=Hi
 a37:=S5
 z37:=RK
 v37:=pH
 t70:=eM
 a70:=isAgg156
 z70:=fS
 v70:=zeroValue156
 t72:=S2
 a72:=isAgg159
 z72:=sizeOf159
 v72:=zeroValue159
 t75:=underlying161
 a75:=isAgg161
 z75:=sizeOf161
 v75:=zeroValue161
 t76:=underlying162
 a76:=isAgg162
 z76:=sizeOf162
 v76:=zeroValue162
 t127:=underlying252
 a127:=isAgg252
 z127:=sizeOf252
 v127:=zeroValue252
 t164:=od
 a164:=isAgg357
 z164:=sizeOf357
 v164:=zeroValue357}
theorem Tryz.Builder_Extra_156:Builder.Extra prog Tryz.lays156_ren:={
 sizeBuilder:=by kernel_rfl
 liesBuilder:=by kernel_rfl
 t5:=N0
 a5:=V0
 z5:=Ks
 v5:=RE
 infoByte:=by kernel_rfl
 cellsByte:=by kernel_rfl
 sizeByte:=by kernel_rfl
 neB5:=by decide}
open Go.RowKit in
theorem Tryz.strings_Join(I o c:Nat)(xs:List CA)(m:CA)(w:A5)(g:∀(j:Nat) x,xs[j]?=some x->w.cell? ⟨I,o+j,none⟩=some (.string x))(J:I<w.heap.size)(K:xs.length<=140737488355328)(B:xs.length<=c)(G:(Lib.join (xs.map (·.data.toList)) m.data.toList).length<=140737488355328):
 Calls prog 227 #[.slice (some ⟨I,o,none⟩) xs.length c,.string m] w fun e O=>e= .returned (.string ⟨(Lib.join (xs.map (·.data.toList)) m.data.toList).toArray⟩)/\Below w.heap.size w O:=Any.strings_Join Tryz.lays156 Tryz.Builder_Extra_156 I o c xs m w g J K B G
def Tryz.lays125_ren:Go.Shelf.Ren:=⟨fun|125=>117|128=>202|129=>203|n=>n,fun|46=>173|3=>3|51=>253|53=>256|4=>4|5=>5|9=>9|n=>n,fun|n=>n⟩
theorem Tryz.lays125:Go.Proofs.Lays.n125 prog Tryz.lays125_ren:={
 mixed:=by kernel_rfl
 f125:=func117.trans (congrArg some AD)
 f128:=func202.trans (congrArg some AD)
 f129:=func203.trans (congrArg some AD)
 t3:=D3
 a3:=AE
 z3:=A6
 v3:=HT
 t4:=N6
 a4:=G0
 z4:=F1
 v4:=V1
 t5:=N0
 a5:=V0
 z5:=Ks
 v5:=RE
 t9:=GW
 a9:=H3
 z9:=FG
 v9:=I2
 t46:=W7
 a46:=ff
 z46:=fW
 v46:=ep
 t51:=Sp
 a51:=It
 z51:=HI
 v51:=er
 t53:=W8
 a53:=cI
 z53:=eA
 v53:=ew}
theorem Tryz.bits_Len(x:Int)(w:A5)(h0:0<=x)(g:x<=18446744073709551615):
 Calls prog 117 #[.int .u64 x] w fun e m=>e= .returned (I4 (Lib.bitLen x.toNat))/\m=w:=Any.bits_Len Tryz.lays125 x w h0 g
def Tryz.lays122_ren:Go.Shelf.Ren:=⟨fun|122=>248|215=>294|n=>n,fun|3=>3|4=>4|n=>n,fun|n=>n⟩
theorem Tryz.lays122:Go.Proofs.Lays.n122 prog Tryz.lays122_ren:={
 mixed:=by kernel_rfl
 f122:=func248.trans (congrArg some AD)
 f215:=func294.trans (congrArg some AD)
 t3:=D3
 a3:=AE
 z3:=A6
 v3:=HT
 t4:=N6
 a4:=G0
 z4:=F1
 v4:=V1}
open Go.RowKit in
theorem Tryz.cmp_Compare_int(x y:Int)(w:A5):
 Calls prog 248 #[I4 x,I4 y] w fun e g=>e= .returned (I4 (Lib.compareInt x y))/\g=w:=Any.cmp_Compare_int Tryz.lays122 x y w
def Tryz.laysM171_ren:Go.Shelf.Ren:=⟨fun|171=>68|243=>139|246=>222|283=>285|284=>286|285=>287|286=>288|129=>203|317=>314|318=>315|319=>316|320=>317|337=>347|338=>348|n=>n,fun|3=>3|9=>9|2=>2|4=>4|171=>405|0=>0|53=>256|37=>157|5=>5|173=>407|212=>436|51=>253|20=>20|213=>437|46=>173|232=>368|233=>474|n=>n,fun|17=>3|18=>4|19=>5|n=>n⟩
theorem Tryz.laysM171:Go.Proofs.LaysM.n171 prog Tryz.laysM171_ren:={
 mixed:=by kernel_rfl
 f129:=func203.trans (congrArg some AD)
 f171:=func68.trans (congrArg some AD)
 f243:=func139.trans (congrArg some AD)
 f246:=func222.trans (congrArg some AD)
 f283:=func285.trans (congrArg some AD)
 f284:=func286.trans (congrArg some AD)
 f285:=func287.trans (congrArg some AD)
 f286:=func288.trans (congrArg some AD)
 f317:=func314.trans (congrArg some AD)
 f318:=func315.trans (congrArg some AD)
 f319:=func316.trans (congrArg some AD)
 f320:=func317.trans (congrArg some AD)
 f337:=func347.trans (congrArg some AD)
 f338:=func348.trans (congrArg some AD)
 t0:=du
 a0:=isAgg0
 z0:=eJ
 v0:=dy
 t2:=underlying2
 a2:=isAgg2
 z2:=sizeOf2
 v2:=zeroValue2
 t3:=D3
 a3:=AE
 z3:=A6
 v3:=HT
 t4:=N6
 a4:=G0
 z4:=F1
 v4:=V1
 t5:=N0
 a5:=V0
 z5:=Ks
 v5:=RE
 t9:=GW
 a9:=H3
 z9:=FG
 v9:=I2
 t20:=underlying20
 a20:=isAgg20
 z20:=sizeOf20
 v20:=zeroValue20
 t37:=Hi
 a37:=S5
 z37:=RK
 v37:=pH
 t46:=W7
 a46:=ff
 z46:=fW
 v46:=ep
 t51:=Sp
 a51:=It
 z51:=HI
 v51:=er
 t53:=W8
 a53:=cI
 z53:=eA
 v53:=ew
 t171:=underlying405
 a171:=isAgg405
 z171:=sizeOf405
 v171:=zeroValue405
 t173:=underlying407
 a173:=isAgg407
 z173:=sizeOf407
 v173:=zeroValue407
 t212:=underlying436
 a212:=isAgg436
 z212:=sizeOf436
 v212:=zeroValue436
 t213:=underlying437
 a213:=isAgg437
 z213:=sizeOf437
 t232:=underlying368
 a232:=isAgg368
 z232:=sizeOf368
 v232:=zeroValue368
 t233:=underlying474
 a233:=isAgg474
 z233:=sizeOf474
 v233:=zeroValue474
 g17:=by kernel_rfl
 g18:=by kernel_rfl
 g19:=by kernel_rfl
 i0:=by kernel_rfl
 i2:=by kernel_rfl
 i3:=by kernel_rfl
 i4:=by kernel_rfl
 i5:=by kernel_rfl
 i9:=by kernel_rfl
 i20:=by kernel_rfl
 i37:=by kernel_rfl
 i46:=by kernel_rfl
 i51:=by kernel_rfl
 i53:=by kernel_rfl
 i171:=by kernel_rfl
 i173:=by kernel_rfl
 i212:=by kernel_rfl
 i232:=by kernel_rfl
 i233:=by kernel_rfl
 m17:=by kernel_rfl
 m18:=by kernel_rfl
 m19:=by kernel_rfl}
open Go.RowKit Go.Sort Go.Lib in
theorem Tryz.strconv_Itoa(n:Int)(h0:-9223372036854775808≤n)(h1:n≤9223372036854775807)(w:A5)(htab:Lib.TabIs prog w "internal/strconv.uint64pow10" .u64 Lib.pow10Tab):
 Calls prog 68 #[I4 n] w fun e w'=>e= .returned (.string ⟨(Lib.itoa n).toArray⟩)/\∃k os,w'=grow (w.drewN k) os:=Any.strconv_Itoa Tryz.laysM171 n h0 h1 w htab
def Tryz.lays189_ren:Go.Shelf.Ren:=⟨fun|189=>191|125=>117|257=>273|128=>202|129=>203|294=>303|295=>304|296=>305|297=>306|298=>307|299=>308|216=>309|300=>310|301=>311|328=>344|329=>275|330=>276|331=>345|332=>346|215=>294|343=>360|n=>n,fun|28=>24|3=>3|46=>173|0=>0|51=>253|53=>256|4=>4|183=>333|182=>332|131=>337|5=>5|9=>9|218=>398|222=>168|228=>431|229=>432|n=>n,fun|n=>n⟩
theorem Tryz.lays189:Go.Proofs.Lays.n189 prog Tryz.lays189_ren:={
 mixed:=by kernel_rfl
 f125:=func117.trans (congrArg some AD)
 f128:=func202.trans (congrArg some AD)
 f129:=func203.trans (congrArg some AD)
 f189:=func191.trans (congrArg some AD)
 f215:=func294.trans (congrArg some AD)
 f216:=func309.trans (congrArg some AD)
 f257:=func273.trans (congrArg some AD)
 f294:=func303.trans (congrArg some AD)
 f295:=func304.trans (congrArg some AD)
 f296:=func305.trans (congrArg some AD)
 f297:=func306.trans (congrArg some AD)
 f298:=func307.trans (congrArg some AD)
 f299:=func308.trans (congrArg some AD)
 f300:=func310.trans (congrArg some AD)
 f301:=func311.trans (congrArg some AD)
 f328:=func344.trans (congrArg some AD)
 f329:=func275.trans (congrArg some AD)
 f330:=func276.trans (congrArg some AD)
 f331:=func345.trans (congrArg some AD)
 f332:=func346.trans (congrArg some AD)
 f343:=func360.trans (congrArg some AD)
 t0:=du
 a0:=isAgg0
 z0:=eJ
 v0:=dy
 t3:=D3
 a3:=AE
 z3:=A6
 v3:=HT
 t4:=N6
 a4:=G0
 z4:=F1
 v4:=V1
 t5:=N0
 a5:=V0
 z5:=Ks
 v5:=RE
 t9:=GW
 a9:=H3
 z9:=FG
 v9:=I2
 t28:=DP
 a28:=eK
 z28:=fg
 v28:=zeroValue24
 t46:=W7
 a46:=ff
 z46:=fW
 v46:=ep
 t51:=Sp
 a51:=It
 z51:=HI
 v51:=er
 t53:=W8
 a53:=cI
 z53:=eA
 v53:=ew
 t131:=oe
 a131:=isAgg337
 z131:=sizeOf337
 v131:=pL
 t182:=ov
 a182:=isAgg332
 z182:=sizeOf332
 v182:=pN
 t183:=ox
 a183:=isAgg333
 z183:=sizeOf333
 v183:=pP
 t218:=oy
 a218:=isAgg398
 z218:=sizeOf398
 v218:=pS
 t222:=p5
 a222:=isAgg168
 z222:=Z2
 v222:=ar
 t228:=p6
 a228:=isAgg431
 z228:=sizeOf431
 v228:=pT
 t229:=pA
 a229:=isAgg432
 z229:=sizeOf432
 v229:=pZ}
open Go.Sort Go.RowKit in
theorem Tryz.slices_Sort_int(g off cap:Nat)(zs:List Int)(w:A5)(G:Holds (Value.int .i64) w g off zs.toArray)(m:g<w.heap.size)(B:zs.length<4611686018427387904):
 Calls prog 191 #[.slice (some ⟨g,off,none⟩) zs.length cap] w fun e I=>
  e= .returned (.tuple #[])/\∃n os,I=grow (putRow (Value.int .i64) (Sort.ahead w n) g off (zs.mergeSort fun x y=>decide (x<=y)).toArray) os:=Any.slices_Sort_int Tryz.lays189 g off cap zs w G m B
def Tryz.lays190_ren:Go.Shelf.Ren:=⟨fun|190=>50|125=>117|258=>116|128=>202|129=>203|302=>193|303=>194|304=>195|305=>196|306=>197|307=>198|308=>199|309=>200|310=>201|333=>274|329=>275|330=>276|334=>277|335=>278|336=>279|344=>312|n=>n,fun|31=>50|9=>9|3=>3|46=>173|0=>0|51=>253|53=>256|4=>4|183=>333|182=>332|131=>337|5=>5|218=>398|222=>168|228=>431|229=>432|n=>n,fun|n=>n⟩
theorem Tryz.lays190:Go.Proofs.Lays.n190 prog Tryz.lays190_ren:={
 mixed:=by kernel_rfl
 f125:=func117.trans (congrArg some AD)
 f128:=func202.trans (congrArg some AD)
 f129:=func203.trans (congrArg some AD)
 f190:=func50.trans (congrArg some AD)
 f258:=func116.trans (congrArg some AD)
 f302:=func193.trans (congrArg some AD)
 f303:=func194.trans (congrArg some AD)
 f304:=func195.trans (congrArg some AD)
 f305:=func196.trans (congrArg some AD)
 f306:=func197.trans (congrArg some AD)
 f307:=func198.trans (congrArg some AD)
 f308:=func199.trans (congrArg some AD)
 f309:=func200.trans (congrArg some AD)
 f310:=func201.trans (congrArg some AD)
 f329:=func275.trans (congrArg some AD)
 f330:=func276.trans (congrArg some AD)
 f333:=func274.trans (congrArg some AD)
 f334:=func277.trans (congrArg some AD)
 f335:=func278.trans (congrArg some AD)
 f336:=func279.trans (congrArg some AD)
 f344:=func312.trans (congrArg some AD)
 t0:=du
 a0:=isAgg0
 z0:=eJ
 v0:=dy
 t3:=D3
 a3:=AE
 z3:=A6
 v3:=HT
 t4:=N6
 a4:=G0
 z4:=F1
 v4:=V1
 t5:=N0
 a5:=V0
 z5:=Ks
 v5:=RE
 t9:=GW
 a9:=H3
 z9:=FG
 v9:=I2
 t31:=DO
 a31:=ID
 z31:=Hc
 v31:=dv
 t46:=W7
 a46:=ff
 z46:=fW
 v46:=ep
 t51:=Sp
 a51:=It
 z51:=HI
 v51:=er
 t53:=W8
 a53:=cI
 z53:=eA
 v53:=ew
 t131:=oe
 a131:=isAgg337
 z131:=sizeOf337
 v131:=pL
 t182:=ov
 a182:=isAgg332
 z182:=sizeOf332
 v182:=pN
 t183:=ox
 a183:=isAgg333
 z183:=sizeOf333
 v183:=pP
 t218:=oy
 a218:=isAgg398
 z218:=sizeOf398
 v218:=pS
 t222:=p5
 a222:=isAgg168
 z222:=Z2
 v222:=ar
 t228:=p6
 a228:=isAgg431
 z228:=sizeOf431
 v228:=pT
 t229:=pA
 a229:=isAgg432
 z229:=sizeOf432
 v229:=pZ}
open Go.Sort Go.RowKit in
theorem Tryz.slices_Sort_string(g off cap:Nat)(B:List (List UInt8))(w:A5)(I:Holds encStr w g off B.toArray)(m:g<w.heap.size)(G:B.length<4611686018427387904):
 Calls prog 50 #[.slice (some ⟨g,off,none⟩) B.length cap] w fun e J=>
  e= .returned (.tuple #[])/\∃n os,J=grow (putRow encStr (Sort.ahead w n) g off (B.mergeSort fun x y=>decide (x<=y)).toArray) os:=Any.slices_Sort_string Tryz.lays190 g off cap B w I m G
def Tryz.lays105_ren:Go.Shelf.Ren:=⟨fun|105=>29|212=>74|99=>75|165=>76|166=>65|170=>77|169=>69|263=>142|264=>143|206=>144|240=>138|241=>145|276=>221|277=>225|n=>n,fun|9=>9|3=>3|4=>4|20=>20|0=>0|46=>173|109=>174|5=>5|72=>159|76=>162|51=>253|146=>254|53=>256|148=>257|70=>156|37=>157|75=>161|127=>252|164=>357|80=>171|n=>n,fun|n=>n⟩
theorem Tryz.lays105:Go.Proofs.Lays.n105 prog Tryz.lays105_ren:={
 mixed:=by kernel_rfl
 f99:=func75.trans (congrArg some AD)
 f105:=func29.trans (congrArg some AD)
 f165:=func76.trans (congrArg some AD)
 f166:=func65.trans (congrArg some AD)
 f169:=func69.trans (congrArg some AD)
 f170:=func77.trans (congrArg some AD)
 f206:=func144.trans (congrArg some AD)
 f212:=func74.trans (congrArg some AD)
 f240:=func138.trans (congrArg some AD)
 f241:=func145.trans (congrArg some AD)
 f263:=func142.trans (congrArg some AD)
 f264:=func143.trans (congrArg some AD)
 f276:=func221.trans (congrArg some AD)
 f277:=func225.trans (congrArg some AD)
 t0:=du
 a0:=isAgg0
 z0:=eJ
 v0:=dy
 t3:=D3
 a3:=AE
 z3:=A6
 v3:=HT
 t4:=N6
 a4:=G0
 z4:=F1
 v4:=V1
 t5:=N0
 a5:=V0
 z5:=Ks
 v5:=RE
 t9:=GW
 a9:=H3
 z9:=FG
 v9:=I2
 t20:=underlying20
 a20:=isAgg20
 z20:=sizeOf20
 v20:=zeroValue20
 t37:=Hi
 a37:=S5
 z37:=RK
 v37:=pH
 t46:=W7
 a46:=ff
 z46:=fW
 v46:=ep
 t51:=Sp
 a51:=It
 z51:=HI
 v51:=er
 t53:=W8
 a53:=cI
 z53:=eA
 v53:=ew
 t70:=eM
 a70:=isAgg156
 z70:=fS
 v70:=zeroValue156
 t72:=S2
 a72:=isAgg159
 z72:=sizeOf159
 v72:=zeroValue159
 t75:=underlying161
 a75:=isAgg161
 z75:=sizeOf161
 v75:=zeroValue161
 t76:=underlying162
 a76:=isAgg162
 z76:=sizeOf162
 v76:=zeroValue162
 t109:=underlying174
 a109:=isAgg174
 z109:=sizeOf174
 v109:=zeroValue174
 t127:=underlying252
 a127:=isAgg252
 z127:=sizeOf252
 v127:=zeroValue252
 t146:=underlying254
 a146:=isAgg254
 z146:=sizeOf254
 v146:=zeroValue254
 t148:=underlying257
 a148:=isAgg257
 z148:=sizeOf257
 v148:=zeroValue257
 t164:=od
 a164:=isAgg357
 z164:=sizeOf357
 v164:=zeroValue357}
theorem Tryz.Builder_Extra_105:Builder.Extra prog Tryz.lays105_ren:={
 sizeBuilder:=by kernel_rfl
 liesBuilder:=by kernel_rfl
 t5:=N0
 a5:=V0
 z5:=Ks
 v5:=RE
 infoByte:=by kernel_rfl
 cellsByte:=by kernel_rfl
 sizeByte:=by kernel_rfl
 neB5:=by decide}
open Go.RowKit Go.Lib in
theorem Tryz.strings_Repeat(s:CA)(c:Nat)(w:A5)(hc:c<=9223372036854775807)(g:s.size*c<=140737488355328):
 Calls prog 29 #[.string s,I4 c] w fun e m=>e= .returned (.string ⟨(Lib.repeatL s.data.toList c).toArray⟩)/\Below w.heap.size w m:=Any.strings_Repeat Tryz.lays105 Tryz.Builder_Extra_105 s c w hc g
def Tryz.laysNm217_ren:Go.Shelf.Ren:=⟨fun|17=>244|n=>n,fun|24=>50|9=>9|3=>3|4=>4|0=>0|n=>n,fun|n=>n⟩
theorem Tryz.laysNm217:Go.Proofs.Lays2.n17 prog Tryz.laysNm217_ren:={
 mixed:=by kernel_rfl
 f17:=func244.trans (congrArg some AD)
 t0:=du
 a0:=isAgg0
 z0:=eJ
 v0:=dy
 t3:=D3
 a3:=AE
 z3:=A6
 v3:=HT
 t4:=N6
 a4:=G0
 z4:=F1
 v4:=V1
 t9:=GW
 a9:=H3
 z9:=FG
 v9:=I2
 t24:=DO
 a24:=ID
 z24:=Hc
 v24:=dv}
open Go.RowKit Go.Lib Go.Sort in
theorem Tryz.slices_Reverse_string(g off cap:Nat)(zs:List (List UInt8))(w:A5)(B:Holds encStr w g off zs.toArray)(m:zs.length<=9223372036854775807):
 Calls prog 244 #[.slice (some ⟨g,off,none⟩) zs.length cap] w fun e G=>e= .returned (.tuple #[])/\∃n,G=putRow encStr (Sort.ahead w n) g off zs.reverse.toArray:=Any.slices_Reverse_string Tryz.laysNm217 g off cap zs w B m
open Go.RowKit Go.Lib Go.Sort in
theorem Tryz.slices_Reverse_string_empty(a:BE)(cap:Nat)(w:A5):
 Calls prog 244 #[.slice a 0 cap] w fun e g=>e= .returned (.tuple #[])/\g=w:=Any.slices_Reverse_string_empty Tryz.laysNm217 a cap w
open Go.RowKit Go.Sort in
theorem Tryz.slices_Sort_string_none(p:BE)(cap:Nat)(w:A5):
 Calls prog 50 #[.slice p 0 cap] w fun e g=>e= .returned (.tuple #[])/\g=w:=Any.slices_Sort_string_none Tryz.lays190 p cap w
open Go.RowKit Go.Sort in
theorem Tryz.slices_Sort_int_none(p:BE)(cap:Nat)(w:A5):
 Calls prog 191 #[.slice p 0 cap] w fun e g=>e= .returned (.tuple #[])/\g=w:=Any.slices_Sort_int_none Tryz.lays189 p cap w
end Go.Proofs
namespace Go.Proofs.YtlkdhannldcfbabGreatDoor
open Go.Proofs.Tryz
open Go Go.RowKit Gw
set_option maxRecDepth 100000
attribute [local irreducible] Gw.At Gw.Nx Gw.Ops
def EZ(l:List UInt8):A2:= .string (str l)
theorem LA(a b:List UInt8):str a++str b=str (a++b):=by
 apply ByteArray.ext;simp [str]
theorem D5(a:List UInt8):(str a).size=a.length:=by simp [str,ByteArray.size]
theorem Ib(a:List UInt8):(str a).data.toList=a:=by simp [str]
theorem bT(xs:List (List UInt8)):Lib.join xs []=xs.flatten:=by
 unfold Lib.join;induction xs with
 |nil=>rfl
 |cons x r ih=>cases r with
  |nil=>simp
  |cons y r=>rw [List.intercalate_cons_cons];rw [ih];simp
variable{o:Nat}
theorem wg{w:A5}{b:Nat}{c:AN}{T:AM}{z:Nat×Nat}{cs:List A2}(g:w.heap[b]?=some (.cells c T z))(h:Bq c o cs)(j:Nat)(v:A2)(m:cs[j]?=some v):w.cell? ⟨b,o+j,none⟩=some v:=by
 have:=Hr g h j v m;rcases Rg j with rfl|h0
 · simpa [Addr.add]using this
 · simpa [Addr.add,Nat.ne_of_gt h0]using this
theorem qC(g o cap:Nat)(cs:AN)(T:AM)(z:Nat×Nat)(xs:List (List UInt8))(hc:Bq cs o (xs.map EZ))(J:xs.length<=140737488355328)(m:xs.length<=cap)(B:xs.flatten.length<=140737488355328):
 Au prog 227 #[.slice (some ⟨g,o,none⟩) xs.length cap,.string (str [])] [[(g,.cells cs T z)]] (.string (str xs.flatten)):=
 TE (Rl:=fun v=>v= .string (str xs.flatten)) (fun w K=>by
  have G:=K (g,.cells cs T z) B7;have h:=Tryz.strings_Join g o cap (xs.map str) (str []) w (fun j x hx=>by
   refine wg G hc j _ ?_;rw [E6]at hx⊢;cases h1:xs[j]?with
   |none=>rw [h1]at hx;cases hx
   |some y=>rw [h1]at hx;cases hx;rfl) (by
    rcases Fi g w.heap.size with h1|h1
    · exact h1
    · rw [LN h1]at G;cases G) (by simpa using J) (by simpa using m) (by
    rw [Mn];have:(xs.map ((fun s:CA=>s.data.toList)∘str))=xs:=by simp [str,nj]
    rw [this,Ib,bT];exact B)
  rw [Bk]at h;refine h.mono ?_;rintro e O ⟨rfl,I⟩;refine ⟨_,V,?_,I⟩;rw [Mn];have:(xs.map ((fun s:CA=>s.data.toList)∘str))=xs:=by simp [str,nj]
  rw [this,Ib,bT];rfl) (fun v hv=>⟨hv,rfl⟩)
def Hq(head rec:List UInt8):List UInt8:=sha (2::head++rec)
theorem lF(l:List UInt8)(B:l.length<=140737488355000)(g:AM)(m:Nat×Nat):Au prog 80 #[.string (str l)] [[(0,.cells (Dn.map CW).toArray g m)]] (.string (str (sha l))):=by
 have:=A07 (str l) (by rw [D5];exact B) g m;rw [Ib]at this;exact this
theorem JW(B o cap I:Nat)(cs:AN)(T O:AM)(z W:Nat×Nat)(xs:List (List UInt8))(m:List UInt8)(hc:Bq cs o (xs.map EZ))(U:xs.length<=140737488355328)(g:xs.length<=cap)(J:m.length+xs.flatten.length<=140737488355000)(G:AM)(K:Nat×Nat):
 Au prog 226 #[.slice (some ⟨B,o,none⟩) xs.length cap,I5 I] [[(B,.cells cs T z)],[(I,.cells #[EZ m] O W)],[(0,.cells (Dn.map CW).toArray G K)]] (.string (str (sha (m++xs.flatten)))):=by
 refine LB func226 V ntmps226 V ?_;intro u R;unfold EZ;refine Zb [0,1] ?_;refine A3<|CT Y<|Ay (n:=6) (0::0::2::7::15::31::[]) 20 AD AD V<|Bm 0 V H3 Y<|A1 1 V (AP Y)<|Zz (l:=[2])<|BW [true] [(0,(_,_))] V rfl (Zu [_,_] Y call227 Y V (qC B o cap cs T z xs hc U g A0)) ?_ (fun _ _ h=>h.elim) Aj;rintro _ _ ⟨rfl,rfl⟩;refine C3<|A1 3 rfl (JO Y Y (by rw [D5,D5];omega))<|Yw 4 31 rfl (Zu [_] Y call80 Y rfl ((LA m xs.flatten)▸lF (m++xs.flatten) (by rw [C0];omega) G K))<|F0<|A1 5 V (BC Y)<|Aq<|Zx<|AL<|AO V results226 Y (by exact ⟨V,V⟩)
theorem Mk(m:CA):BS prog 146 #[.string m] [] (fun r H'=>∃b,r= .func (.func 226) #[] #[I5 b]/\H'=[[(b,.cells #[.string m] 9 (0,0))]]):=by
 refine Se func146 ntmps146 [0] ?_;intro u R;refine A3<|Ze (Bx #[_])<|AF fun g=>AH Y<|A3<|Zv (Be (vs:=[]) (us:=[_]) Y Y)<|An Y<|AO V results146 Y (by exact ⟨_,V,V⟩)
theorem Uv(h r:List UInt8)(g:h.length+r.length<=140737488354999)(m:AM)(I:Nat×Nat):
 Au prog 120 #[.string (str h),.string (str r)] [[(0,.cells (Dn.map CW).toArray m I)]] (.string (str (Hq h r))):=by
 refine Se func120 ntmps120 [0,1] ?_;intro u R;refine A3<|AH Y<|A3<|Zc [_] Y call146 Y V (Mk _) ?_;rintro _ _ ⟨_,⟨G,rfl,rfl⟩,rfl⟩;refine Zm Y<|Zm Y<|Ze (Ah (vs:=[_,_]) (cs:=[_,_]) DO FG I2 Y V rfl V rfl V)<|AF fun B=>Xr [_] Y call226 Y V (JW B 0 2 G #[EZ h,EZ r] _ _ _ _ [h,r] [2] V B7 B7 Kd _ _)<|An Y<|AO V results120 Y (by exact ⟨by simp [Hq],V⟩)
def SA(z:Nat):List (Nat×Bool):=if h:z<128 then [(z,true)]else(z%128,false)::SA (z/128)
termination_by z
decreasing_by omega
theorem LU(z:Nat):SA z=(z%128,decide (z<128))::(if z<128 then []else SA (z/128)):=by
 rw [SA];by_cases h:z<128;· simp [h,ec h]
 · simp [h]
theorem wP(z:Nat):∀x∈SA z,x.1<128:=by
 induction z using Nat.strongRecOn with
 |_ z ih=>
  intro x hx;rw [LU]at hx;rcases DS.1 hx with rfl|hx
  · exact ir _ B0
  · by_cases h:z<128
    · rw [Ax h]at hx;cases hx
    · rw [As h]at hx;exact ih (z/128) A0 x hx
theorem A87(z k:Nat)(h:z<128^(k+1)):(SA z).length<=k+1:=by
 induction k generalizing z with
 |zero=>rw [LU,Ax (by simpa using h)];simp
 |succ k ih=>
  rw [LU];by_cases g:z<128;· rw [Ax g];simp
  · rw [As g,F2]
    have:z/128<128^(k+1):=by
     rw [el]at h;exact sE (by rw [oX];exact h)
    have:=ih _ this;omega
def gb(x:Nat×Bool):UInt8:=UInt8.ofNat (if x.2 then x.1 else x.1+128)
theorem xw(x:Nat×Bool)(h:x.1<128):u8v (gb x)= .int .u8 ((if x.2 then x.1 else x.1+128:Nat):Int):=by
 unfold u8v gb;rw [UInt8.toNat_ofNat',ec (by split<;>omega)]
def zz(n:Int):Nat:=(if n<0 then-(2*n) -1 else 2*n).toNat
def R6(n:Int):List UInt8:=(SA (zz n)).map gb
theorem td(n:Int)(g:-4611686018427387903<=n)(h2:n<=4611686018427387903):zz n<9223372036854775808:=by unfold zz;split<;>omega
theorem AB1(n:Int):0<(R6 n).length:=by unfold R6;rw [LU];simp
theorem Kq(n:Int)(g:-4611686018427387903<=n)(h2:n<=4611686018427387903):(R6 n).length<=9:=by
 unfold R6;rw [Bk];exact A87 (zz n) 8 (by have:=td n g h2;omega)
theorem yD(y:Nat)(h:y<18446744073709551616):bits .and .u64 (y:Int) 127=((y%128:Nat):Int):=by
 have:=u64_and_nat y 127 h B0;rw [nat_mask7]at this;exact this
theorem yc(g:Nat)(h:g<128):bits .or .u8 (g:Int) 128=((g+128:Nat):Int):=by
 have:=u8_or_nat g 128 A0 B0;rw [Nat.or_comm,nat_join 7 128 g B0 h,Nat.add_comm]at this;exact this
theorem tL(a:Nat)(h:a<18446744073709551616):a^^^18446744073709551615=18446744073709551615 -a:=by
 have g:BitVec.ofNat 64 a^^^BitVec.allOnes 64= ~~~BitVec.ofNat 64 a:=BitVec.xor_allOnes;have h2:=congrArg BitVec.toNat g
 rw [BitVec.toNat_xor,BitVec.toNat_not,BitVec.toNat_ofNat,ec h]at h2;exact h2
theorem xA(n:Int)(B:-4611686018427387903<=n)(h2:n<=4611686018427387903):bits .xor .u64 (IntKind.u64.wrap (IntKind.u64.wrap n*2^(1:Int).toNat)) (IntKind.u64.wrap (n/2^(63:Int).toNat))=(zz n:Int):=by
 rw [IntKind.wrap_u64,IntKind.wrap_u64,IntKind.wrap_u64];rw [show(2:Int)^(1:Int).toNat=2 from rfl,show(2:Int)^(63:Int).toNat=9223372036854775808 from rfl];by_cases h:n<0
 · obtain ⟨m,g⟩:∃m:Nat,n=-(m:Int):=⟨n.natAbs,by omega⟩
   have e1:n%18446744073709551616*2%18446744073709551616=((18446744073709551616 -2*m:Nat):Int):=by omega
   have e2:n/9223372036854775808%18446744073709551616=((18446744073709551615:Nat):Int):=by omega
   rw [e1,e2,u64_xor_nat _ _ A0 A0,tL _ A0];unfold zz;rw [Ax h];omega
 · obtain ⟨m,g⟩:∃m:Nat,n=(m:Int):=⟨n.natAbs,by omega⟩
   have e1:n%18446744073709551616*2%18446744073709551616=((2*m:Nat):Int):=by omega
   have e2:n/9223372036854775808%18446744073709551616=((0:Nat):Int):=by omega
   rw [e1,e2,u64_xor_nat _ _ A0 A0,Nat.xor_zero];unfold zz;rw [As h];omega
theorem Bc{P:Program}{cx:Cx}{c:Code}{Q:Exit->Act->A5->Prop}{env:Env}{H:Hp}(h:At P cx c Q env ([]::H)):At P cx c Q env H:=Yx (H':=[]::H) rfl h
theorem Qw{α:Type}{l pre g:List α}{x:α}(h:l=pre++x::g):x∈l:=by rw [h];simp
theorem dI(I z:Nat)(hz:z<18446744073709551616):
 VD prog 231 #[I5 I] [[(I,.cells #[.int .u64 (z:Int)] 256 (0,0))]] (fun x=>#[.int .u8 (x.1:Int),.bool x.2]) (SA z):=by
 intro l J hy s K;refine Se func231 ntmps231 [0,1] ?_;intro u R;refine AQ<|Zb [0,1] ?_;refine Aw (e0:=[]) (fun m e H=>∃(pre:List (Nat×Bool)) (y:Nat) (s:List A8),m=0+y/\(SA z=pre++SA y/\y<18446744073709551616/\J pre s)/\e=[]/\H=[[(I,.cells #[.int .u64 (y:Int)] 256 (0,0))],s]) (by exact ⟨[],z,s,V,⟨V,hz,K⟩,V,V⟩) Wp ?_;rintro _ _ _ ⟨pre,y,s,rfl,⟨g,G,K⟩,rfl,rfl⟩;refine AQ<|A3<|Zl cI Y ?_;refine Zv (Ap (n:=128) Y Y)<|CT Y<|Zq ?_;have U:=hy pre (y%128,decide (y<128)) (if y<128 then []else SA (y/128)) s (by rw [g,<-LU]) K
 refine Zg<|Zm Y<|Zl cI Y ?_;refine LM (vX (m:=(y:Int)) (n:=127) Y Y (yD y G)) V rfl ?_;refine BX (VT W8 N0 Y A0)<|Zm Y<|Ze (GH (vs:=[_,_]) Y Y (U) Wp) ?_;rintro _ _ ⟨_,⟨X,rfl,rfl,B⟩,rfl⟩;refine Zv (Bo Y)<|Zm Y<|Ad (t:=13) Y V (fun W=>by cases W)<|fun W=>Zf Y Y<|B9 Y Y<|Z0<|Zn [0,1,15] ?_;refine Zx<|Ak Y (fun O=>?_) (fun O=>?_);·
  refine AL<|Zt<|Ag<|Zt<|Ag ?_;refine DC V results231 (by
   exact ⟨X,V,by
    have e:SA z=pre++[(y%128,decide (y<128))]:=by rw [g,LU y,Ax O]
    rw [e];exact B⟩)
 refine B3<|Zg<|Zl cI Y ?_;refine BX (Qo (n:=7) Y Y (by first|decide|(simp [IntKind.bits];done)|(simp [IntKind.bits];omega)))<|Xe (Zs eA Y Y rfl) ?_;refine Z0<|AA<|DG (e:=[]) (h:=by exact ⟨pre++[(y%128,decide (y<128))],y/2^7,X,rfl,⟨by rw [g,LU y,As O];simp,by omega,B⟩,rfl,rfl⟩)
theorem dH(z:Int):BS prog 153 #[.int .u64 z] [] (fun r H'=>∃b,r= .func (.func 231) #[] #[I5 b]/\H'=[[(b,.cells #[.int .u64 z] 256 (0,0))]]):=by
 refine Se func153 ntmps153 [0] ?_;intro u R;refine A3<|Ze (Bx #[_])<|AF fun g=>AH Y<|A3<|Zv (Be (vs:=[]) (us:=[_]) Y Y)<|An Y<|AO V results153 Y (by exact ⟨_,V,V⟩)
theorem MX(n:Int)(X:-4611686018427387903<=n)(h2:n<=4611686018427387903):Au prog 83 #[I4 n] [] (.tuple #[.string (str (R6 n)),I4 0]):=by
 have gQ:=mL;have ic:=td n X h2
 have G:=Kq n X h2;unfold R6 at G;rw [Bk]at G;refine DF func83 V ntmps83 V ?_;intro u R;refine Zb [0] ?_;refine A3<|Za Y<|AH Y<|B8 Y<|Zv (Dy Y Y)<|Zm Y<|Af (t:=9) Y V (fun af=>by omega)<|fun af=>Zf Y Y<|Yg (F4 Y Y)<|B9 Y Y<|A4<|Ak Y (fun ax=>by omega)<|fun ax=>AC<|C6<|Ze (Al pH #[_])<|AF fun bo=>A4<|B8 Y<|Zv (Ez D3 W8 Y V) ?_
 (refine BX (lQ Y Y ?_ ?_ rfl) ?_;(focus (first|decide|omega|(simp [IntKind.bits];done)|(simp [IntKind.bits];omega)));(focus (first|decide|omega|(simp [IntKind.bits];done)|(simp [IntKind.bits];omega))))
 refine Zm Y ?_
 (refine BX (vQ Y Y ?_ ?_ rfl) ?_;(focus (first|decide|omega|(simp [IntKind.bits];done)|(simp [IntKind.bits];omega)));(focus (first|decide|omega|(simp [IntKind.bits];done)|(simp [IntKind.bits];omega))))
 refine Zv (Ez D3 W8 Y V)<|LM (tx Y Y (xA n X h2)) V rfl ?_;refine Zc [_] Y call153 Y V (dH _) ?_;rintro _ _ ⟨_,⟨bz,rfl,rfl⟩,rfl⟩;refine Z0<|Zn [4,20] ?_;refine Zx<|AQ<|Zb [4,20] ?_;refine Bc<|Rq (H0:=_) (R:=_) (I:=(fun pre H=>∃v s,H=[[(bo,.cells #[v] 157 (0,0))],s]/\Row 5 v ((pre.map gb).map u8v) s)) (asg:=fun x=>[(6,.bool x.2),(5,.int .u8 (x.1:Int)),(22,.bool x.2),(21,.int .u8 (x.1:Int))]) V Y call231 (dI bz (zz n) A0) Y V Wp (⟨_,[],V,Gg _⟩) ?ha_2 ?hbd_2 ?hk_2
 case ha_2=>
  intro _ x _ _;refine A3<|AH Y<|Zg<|Za Y<|Z0 ?_;exact wE
 case hbd_2=>
  intro l pre x d9 u H1 R1 U hI;obtain ⟨v,s,rfl,W⟩:=hI;have K:=wP _ x (Qw U)
  have bn:=xw x K;have cu:=congrArg List.length U
  rw [C0,F2]at cu;obtain ⟨gv,cv,rfl⟩:=W.form;refine AQ<|B8 Y<|Zv (Bo Y)<|A4<|AY Y (fun g=>?_) (fun g=>?_);focus
   have O:x.2=false:=by simpa using g
   refine Zg<|Zm Y<|LM (uM (m:=(x.1:Int)) (n:=128) Y Y (yc x.1 K)) V rfl ?_;refine AH Y<|Zg<|Zl S5 Y ?_;refine Zm Y<|Ze (Ah (vs:=[_]) (cs:=[_]) Hi Ks RE Y V rfl V rfl V) ?_;rintro _ _ ⟨b2,rfl,rfl⟩
  rotate_left
  focus
   have O:x.2=true:=by simpa using g
   refine B3<|Zg<|Zl S5 Y ?_;refine Zm Y<|Ze (Ah (vs:=[_]) (cs:=[_]) Hi Ks RE Y V rfl V rfl V) ?_;rintro _ _ ⟨b4,rfl,rfl⟩
  all_goals
   refine Ze (F8 (by_:=1) (news:=[_]) Hi (V:Tryz.prog.info? 5=some Tryz.t5) V rfl V rfl Y W Y Wo Wh B1 V HO B0 (by(simp only [Bk];omega)) (by(simp only [Bk];omega))) ?_;rintro _ _ ⟨sb,J,rfl⟩;obtain ⟨gb,cb,rfl⟩:=J.form;refine Xe (Zs RK Y Y V) ?_;refine Z0<|AA<|FZ V (by
    exact ⟨_,_,V,by
     rw [CN,CN,S0,S0,bn,O];exact J⟩)
 intro D1 H2 Z;obtain ⟨v,s,rfl,W⟩:=Z;have B:=AB1 n
 unfold R6 at B;obtain ⟨gv,cv,cur,zv,rfl,rfl,gy,ek,gm,cO,gq⟩:=W.some (by rw [Bk];exact B);refine Zn [4] ?_;refine AA<|C6<|Zl S5 Y ?_;refine Zo Wh (Kb Hi N0 GW Y (by exact ⟨cO,by simp⟩)) ?_;refine Za Y<|An Y<|G7 V (ul results83 Y Y) Wo (by exact ⟨V,V⟩)
structure AV where
 t:Int
 k:Int
 v:V3
deriving DecidableEq
abbrev AV.BM4(c:AV):Array Go.Value:=#[I4 c.t,I4 c.k,I4 c.v.a,I4 c.v.b,I4 c.v.c]
structure Chg where
 t:Int
 k:Int
 had:Bool
 o:V3
 has:Bool
 n:V3
deriving DecidableEq
abbrev Chg.BM3(c:Chg):Array Go.Value:=#[I4 c.t,I4 c.k,.bool c.had,I4 c.o.a,I4 c.o.b,I4 c.o.c,.bool c.has,I4 c.n.a,I4 c.n.b,I4 c.n.c]
def AV.zero:AV:=⟨0,0,V3.zero⟩
def AV.ok(r:AV):Prop:=r.v.ok/\(0<=r.t/\r.t<=3)/\(1<=r.k/\r.k<=1000000)
instance(r:AV):Decidable r.ok:=inferInstanceAs(Decidable (_/\_/\_))
def Chg.before(c:Chg):AV:=if c.had then⟨c.t,c.k,c.o⟩else AV.zero
def Chg.after(c:Chg):AV:=if c.has then⟨c.t,c.k,c.n⟩else AV.zero
variable{c:Chg}
theorem N9(h:c.had=true):c.before=⟨c.t,c.k,c.o⟩:=Ax h
theorem AC6(h:c.had=false):c.before=AV.zero:=As (by rw [h];decide)
theorem KC(h:c.has=true):c.after=⟨c.t,c.k,c.n⟩:=Ax h
theorem x7(h:c.has=false):c.after=AV.zero:=As (by rw [h];decide)
def Chg.ok(c:Chg):Prop:=¬((¬c.had/\¬c.has)\/(c.had/\c.has/\c.o=c.n))/\¬((c.had/\¬c.before.ok)\/(c.has/\¬c.after.ok))/\(c.had\/c.o=V3.zero)/\(c.has\/c.n=V3.zero)
instance(c:Chg):Decidable c.ok:=inferInstanceAs(Decidable (_/\_/\_/\_))
theorem KV(n lo hi:Int):Au prog 140 #[I4 n,I4 lo,I4 hi] [] (.bool (decide (lo<=n/\n<=hi))):=by
 refine Se func140 ntmps140 [0,1,2] ?_;intro u R;refine A3<|AH Y<|AK Y<|Zm Y<|Zv (Ga Y Y)<|Zm Y<|Af (t:=10) Y V (fun g=>?_) (fun g=>?_);focus
  refine Zf Y Y<|Zf Y Y<|Yg (Md Y Y)<|Zv (AU Y Y) ?_
 rotate_left
 focus
  refine AG<|C4<|Zv (AJ Y Y) ?_
 all_goals
  refine An Y<|AO V results140 Y (by exact ⟨by simp [g],V⟩)
theorem oG(c:Chg):Au prog 223 #[.agg c.BM3] [] (.tuple #[.agg c.before.BM4,.bool c.had]):=by
 refine Se func223 ntmps223 [0] ?_;intro u R;refine A3<|Ze (Bx #[_,_,_,_,_,_,_,_,_,_])<|AF fun m=>Ze (Al Ft #[_,_,_,_,_])<|AF fun B=>CT Y<|A3<|Zh 2 CC V rfl F1 Y<|Zl G0 Y ?_;refine Zv (Bo Y)<|A4<|AY Y (fun g=>?_) (fun g=>?_);·
  refine A3<|Zv (BN (vs:=[]) (cs:=#[_,_,_,_,_]) Y (Aa (pl:=#[(0,1),(1,1),(2,3)]) Ft HC (fun _=>by kernel_rfl) V))<|Xe (Xw B6 _) ?_;refine An Y<|Zt<|CS V results223 Y Wh (Av DM B6 Wn (V)) Y (by simp only [gA,US,eh]at g;exact ⟨by(rw [AC6 g,g];rfl),V⟩)
 refine AC<|C6<|Zh 0 CC V rfl A6 Y<|Zl AE Y ?_;refine Zh 1 CC V rfl A6 Y<|Zl AE Y ?_;refine Zh 3 CC V rfl E4 Y<|Zo Wh (Pa #[_,_,_] Hb E4 Y) ?_;refine Zv (BN (vs:=[(0,_),(1,_),(2,_)]) (cs:=#[_,_,_,_,_]) Y (Aa (pl:=#[(0,1),(1,1),(2,3)]) Ft HC (fun _=>by kernel_rfl) rfl))<|Xe (BJ B6 Y Y (by(simp [Value.oneCell',Value.cells];done)) Wu B1 G4 Wn (by exact BB _)) ?_;refine B2 Y<|Zn [2,3] ?_;refine Zx<|AL<|CS V results223 Y Wh (Av DM B6 Wn (V)) Y (by simp only [gA,US,eh]at g;exact ⟨by(rw [N9 g,g];rfl),V⟩)
theorem Tj(c:Chg):Au prog 73 #[.agg c.BM3] [] (.tuple #[.agg c.after.BM4,.bool c.has]):=by
 refine Se func73 ntmps73 [0] ?_;intro u R;refine A3<|Ze (Bx #[_,_,_,_,_,_,_,_,_,_])<|AF fun m=>Ze (Al Ft #[_,_,_,_,_])<|AF fun B=>CT Y<|A3<|Zh 6 CC V rfl F1 Y<|Zl G0 Y ?_;refine Zv (Bo Y)<|A4<|AY Y (fun g=>?_) (fun g=>?_);·
  refine A3<|Zv (BN (vs:=[]) (cs:=#[_,_,_,_,_]) Y (Aa (pl:=#[(0,1),(1,1),(2,3)]) Ft HC (fun _=>by kernel_rfl) V))<|Xe (Xw B6 _) ?_;refine An Y<|Zt<|CS V results73 Y Wh (Av DM B6 Wn (V)) Y (by simp only [gA,US,eh]at g;exact ⟨by(rw [x7 g,g];rfl),V⟩)
 refine AC<|C6<|Zh 0 CC V rfl A6 Y<|Zl AE Y ?_;refine Zh 1 CC V rfl A6 Y<|Zl AE Y ?_;refine Zh 7 CC V rfl E4 Y<|Zo Wh (Pa #[_,_,_] Hb E4 Y) ?_;refine Zv (BN (vs:=[(0,_),(1,_),(2,_)]) (cs:=#[_,_,_,_,_]) Y (Aa (pl:=#[(0,1),(1,1),(2,3)]) Ft HC (fun _=>by kernel_rfl) rfl))<|Xe (BJ B6 Y Y (by(simp [Value.oneCell',Value.cells];done)) Wu B1 G4 Wn (by exact BB _)) ?_;refine B2 Y<|Zn [2,3] ?_;refine Zx<|AL<|CS V results73 Y Wh (Av DM B6 Wn (V)) Y (by simp only [gA,US,eh]at g;exact ⟨by(rw [KC g,g];rfl),V⟩)
theorem Ti(r:AV):Au prog 224 #[.agg r.BM4] [] (.bool (decide r.ok)):=by
 refine Se func224 ntmps224 [0] ?_;intro u R;refine A3<|Ze (Bx #[_,_,_,_,_])<|AF fun K=>CT Y<|A3<|AH Y<|AQ<|Zb [3,1] ?_;refine Aw (e0:=[(3,_)]) (fun m e H=>∃(i:Nat),m=3 -i/\(i<=3/\(∀j,j<i->inV (r.v.get j)))/\e=[(3,I4 (i:Int))]/\H=[]) (by exact ⟨0,V,⟨by omega,by intro j J;omega⟩,V,V⟩) Wp ?_;rintro _ _ _ ⟨i,rfl,⟨hi,B⟩,rfl,rfl⟩;refine B8 Y<|Zv (Ap (n:=3) Y Y)<|A4<|Ak Y (fun G=>?_) (fun G=>?_);·
  refine B3<|Zq<|AQ<|AK Y<|Zh 2 HC V rfl E4 Y ?_;refine BX (Iy K1 A6 Y Y A0)<|Zl AE Y (hv:=by rw [O2];exact yM _ _ r.v _ A0) ?_;refine Xr [_,_,_] Y call140 Y V (KV _ _ _) ?_;refine Zv (CG Y)<|A4<|Ak Y (fun g=>?_) (fun g=>?_);·
   refine A3<|An Y<|Ag<|Zt<|Zt<|Ag<|Zt<|AO rfl results224 Y (by exact ⟨by rw [DQ (fun h9:r.ok=>g (tj.1 h9.1 i A0))],rfl⟩)
  refine AC<|AA<|Zx<|Zg<|Zm Y<|Ya (n:=1) Y Y<|B2 Y<|HJ (by exact ⟨i+1,V,⟨by omega,AF0 B (HP.1 g)⟩,V,V⟩)
 refine BA<|Zt<|Zt<|AX<|C6<|Zh 0 HC V rfl A6 Y<|Zl AE Y ?_;refine Xr [_,_,_] Y call140 Y V (KV _ _ _) ?_;refine Zm Y<|Af (t:=17) Y V (fun I=>?_) (fun I=>?_);focus
  refine Yf 1 HC V rfl A6 Y<|Yl AE Y ?_;refine Xr [_,_,_] Y call140 Y V (KV _ _ _) ?_;refine Zv (AU Y Y) ?_
 rotate_left
 focus
  refine AG<|C4<|Zv (AJ Y Y) ?_
 all_goals
  refine An Y<|AO V results224 Y (by have hv:r.v.ok:=tj.2 (fun j J=>B j A0);exact ⟨by simp only [AV.ok,hv,I,db,false_and,eL],V⟩)
theorem oF(c:Chg):Au prog 141 #[.agg c.BM3] [] (.bool (decide c.ok)):=by
 refine Se func141 ntmps141 [0] ?_;intro u R;refine A3<|Ze (Bx #[_,_,_,_,_,_,_,_,_,_])<|AF fun b1=>AH Y<|A3<|Zo Wh (Pa #[_,_,_,_,_,_,_,_,_,_] HD Cl Y)<|Xr [_] Y call223 Y V (oG c)<|Zm Y<|Zd Y V<|Zd Y V<|Ze (Al Ft #[_,_,_,_,_])<|AF fun b2=>Xe (Xw B6 _)<|AH Y<|A3<|Zo Wh (Pa #[_,_,_,_,_,_,_,_,_,_] HD Cl Y)<|Xr [_] Y call73 Y V (Tj c)<|Zm Y<|Zd Y V<|Zd Y V<|Ze (Al Ft #[_,_,_,_,_])<|AF fun b3=>Xe (Xw B6 _)<|B2 Y<|Zn [1,3,4,5,6] ?_;refine Zx<|Zq<|Zb [1,3,4,5,6] ?_;refine CP (e0:=[]) (H0:=[]) (fun e H=>∃(U:Bool),(U=decide ((¬c.had/\¬c.has)\/(c.had/\c.has/\c.o=c.n)))/\e=[(35,.bool U)]/\H=[]) Wp ?hx_1 ?hy_1
 case hx_1=>
  refine Zg<|Zm Y<|Zv (Bo Y)<|Zm Y<|Ad (t:=19) Y V (fun W=>?_) (fun W=>?_);focus
   refine Zf Y Y<|Yg (Bo Y)<|C1 Y Y<|Zm Y<|Ad (t:=23) Y V (fun X=>?_) (fun X=>?_);·
    refine AG<|AG<|AG<|AG<|AG<|C4<|C1 Y Y<|Z0<|HB (e:=[(35,_)]) (h:=by exact ⟨_,by simp_all,V,V⟩)
   focus
    refine Zf Y Y<|Zf Y Y<|Ad (t:=25) Y V (fun Z=>?_) (fun Z=>?_);focus
     refine Zf Y Y<|Yg (AU Y Y)<|Zf Y Y<|Ad (t:=28) Y V (fun af=>?_) (fun af=>?_);refine Yf 3 CC V rfl E4 Y<|D6 Y Wh (Pa #[_,_,_] Hb E4 Y) V rfl<|Yf 7 CC V rfl E4 Y<|D6 Y Wh (Pa #[_,_,_] Hb E4 Y) V rfl<|Yg (LK AD K1 D3 AE A6 Y Y) ?_;refine Yg (AU Y Y)<|B9 Y Y<|Z0<|HB (e:=[(35,_)]) (h:=by exact ⟨_,by simp_all,V,V⟩)
    rotate_left
    focus
     refine C4<|Yg (AJ Y Y)<|Zf Y Y ?_
  rotate_left 2
  focus
   refine AG<|B9 Y Y<|Zm Y<|Zf Y Y<|Zf Y Y<|Ad (t:=25) Y V (fun ax=>?_) (fun ax=>?_);focus
    refine Zf Y Y<|Yg (AU Y Y)<|Zf Y Y<|Ad (t:=28) Y V (fun bn=>?_) (fun bn=>?_);refine Yf 3 CC V rfl E4 Y<|D6 Y Wh (Pa #[_,_,_] Hb E4 Y) V rfl<|Yf 7 CC V rfl E4 Y<|D6 Y Wh (Pa #[_,_,_] Hb E4 Y) V rfl<|Yg (LK AD K1 D3 AE A6 Y Y) ?_;refine Yg (AU Y Y)<|B9 Y Y<|Z0<|HB (e:=[(35,_)]) (h:=by exact ⟨_,by simp_all,V,V⟩)
   rotate_left
   focus
    refine C4<|Yg (AJ Y Y)<|Zf Y Y ?_
  all_goals
   refine AG<|AG<|C4<|Yg (AJ Y Y)<|B9 Y Y<|Z0<|HB (e:=[(35,_)]) (h:=by exact ⟨_,by simp_all,V,V⟩)
 rintro _ _ ⟨U,gm,rfl,rfl⟩;refine AY Y (fun cu=>?_) (fun cu=>?_);rotate_left;focus
  refine B3<|Zq<|Zb [3,5,1,4,6] ?_;refine CP (e0:=[(3,_),(5,_)]) (H0:=[]) (fun e H=>∃(O:Bool),(O=decide ((c.had/\¬c.before.ok)\/(c.has/\¬c.after.ok)))/\e=[(49,.bool O)]/\H=[]) Wp ?hx_10 ?hy_10
  case' hx_10=>
   refine Zg<|Zm Y<|Zm Y<|Ad (t:=37) Y V (fun cO=>?_) (fun cO=>?_);focus
    refine D6 Y Wh (Pa #[_,_,_,_,_] DM B6 Y) V rfl<|Xr [_] Y call224 Y V (Ti _)<|Yg (CG Y)<|C1 Y Y<|Zm Y<|Af (t:=42) Y V (fun d9=>?_) (fun d9=>?_);focus
     refine AG<|AG<|AG<|Zv (AU Y Y) ?_
    rotate_left
    focus
     refine Zf Y Y<|Zf Y Y<|Ad (t:=44) Y V (fun g=>?_) (fun g=>?_);focus
      refine D6 Y Wh (Pa #[_,_,_,_,_] DM B6 Y) V rfl<|Xr [_] Y call224 Y V (Ti _)<|Yg (CG Y)<|Yg (AU Y Y)<|Zv (AJ Y Y) ?_
     rotate_left
     focus
      refine AG<|C4<|Yg (AJ Y Y)<|Zv (AJ Y Y) ?_
   rotate_left 3
   focus
    refine AG<|C4<|B9 Y Y<|Zm Y<|Zf Y Y<|Zf Y Y<|Ad (t:=44) Y V (fun m=>?_) (fun m=>?_);focus
     refine D6 Y Wh (Pa #[_,_,_,_,_] DM B6 Y) V rfl<|Xr [_] Y call224 Y V (Ti _)<|Yg (CG Y)<|Yg (AU Y Y)<|Zv (AJ Y Y) ?_
    rotate_left
    focus
     refine AG<|C4<|Yg (AJ Y Y)<|Zv (AJ Y Y) ?_
   all_goals
    refine Z0<|HB (e:=[(49,_)]) (h:=by exact ⟨_,by simp_all,V,V⟩)
  case' hy_10=>
   rintro _ _ ⟨O,ek,rfl,rfl⟩;refine AY Y (fun B=>?_) (fun B=>?_);rotate_left;focus
    refine B3<|AK Y<|Zm Y<|Ad (t:=51) Y V (fun G=>?_) (fun G=>?_);focus
     refine AG<|AG<|C1 Y Y<|Zm Y<|Zf Y Y<|Zf Y Y<|Ad (t:=59) Y V (fun I=>?_) (fun I=>?_);refine AG<|AG<|Yg (AU Y Y)<|C1 Y Y<|B2 Y<|Zn [2] ?_;refine Zx<|AL<|AO V mT Y (by exact ⟨by simp_all [Chg.ok],V⟩)
    rotate_left
    focus
     refine Yf 3 CC V rfl E4 Y<|D6 Y Wh (Pa #[_,_,_] Hb E4 Y) V rfl<|Yg (BN (vs:=[]) (cs:=#[_,_,_]) Y (Dc fL K1 A6 V)) ?_;refine Yg (Jy AD K1 D3 AE A6 Y Y) ?_;refine B9 Y Y<|Zm Y<|Af (t:=57) Y V (fun J=>?_) (fun J=>?_);focus
      refine Zf Y Y<|Zf Y Y<|Ad (t:=59) Y V (fun K=>?_) (fun K=>?_);refine AG<|AG<|Yg (AU Y Y)<|C1 Y Y<|B2 Y<|Zn [2] ?_;refine Zx<|AL<|AO V mT Y (by exact ⟨by simp_all [Chg.ok],V⟩)
     rotate_left
     refine AG<|AG<|AG<|C4<|B9 Y Y<|B2 Y<|Zn [2] ?_;refine Zx<|AL<|AO V mT Y (by exact ⟨by simp_all [Chg.ok],V⟩)
    all_goals
     refine Yf 7 CC V rfl E4 Y<|D6 Y Wh (Pa #[_,_,_] Hb E4 Y) V rfl<|Yg (BN (vs:=[]) (cs:=#[_,_,_]) Y (Dc fL K1 A6 V)) ?_;refine Yg (Jy AD K1 D3 AE A6 Y Y) ?_;refine Yg (AJ Y Y)<|C1 Y Y<|B2 Y<|Zn [2] ?_;refine Zx<|AL<|AO V mT Y (by exact ⟨by simp_all [Chg.ok],V⟩)
 all_goals
  refine A3<|An Y<|Zt<|AO V mT Y (by exact ⟨by simp_all [Chg.ok],V⟩)
def CL(M:List A8)(v:A2)(cs:List Chg):Prop:=∃p cap,v= .slice p cs.length cap/\cs.length<=maxLen/\∀(i:Nat) (c:Chg),cs[i]?=some c->∃g off cur T zz,p=some ⟨g,off,none⟩/\(g,Obj.cells cur T zz)∈M/\off+i*10+10<=cur.size/\cur.extract (off+i*10) (off+i*10+10)=c.BM3
def Chg.lt(b c:Chg):Prop:=b.t<c.t\/b.t=c.t/\b.k<c.k
instance(b c:Chg):Decidable (b.lt c):=inferInstanceAs(Decidable (_\/_))
structure Db(p:Int)(cs:List Chg):Prop where
 pos:1<=p/\p<=10000
 len:1<=cs.length/\cs.length<=8
 all:∀(i:Nat) (c:Chg),cs[i]?=some c->c.ok
 ord:∀(i:Nat) (b c:Chg),cs[i]?=some b->cs[i+1]?=some c->b.lt c
noncomputable instance(p:Int)(cs:List Chg):Decidable (Db p cs):=Classical.propDecidable _
variable{cs:List Chg}{i:Nat}{x:Chg}
theorem V6(h:∀(j:Nat) (c:Chg),j<i->cs[j]?=some c->c.ok)(hx:cs[i]?=some x)(g:x.ok):∀(j:Nat) (c:Chg),j<i+1->cs[j]?=some c->c.ok:=by
 intro j c m hc;rcases Fi j i with h9|h9
 · exact h j c h9 hc
 · have e:j=i:=by omega
   rw [e,hx]at hc;injection hc with hc;rw [<-hc];exact g
theorem UG(h:∀(j:Nat) (b c:Chg),j+1<i->cs[j]?=some b->cs[j+1]?=some c->b.lt c)(hx:cs[i]?=some x)(m:i=0\/∃y,cs[i -1]?=some y/\y.lt x):∀(j:Nat) (b c:Chg),j+1<i+1->cs[j]?=some b->cs[j+1]?=some c->b.lt c:=by
 intro j b c B g hc;rcases Fi (j+1) i with h9|h9
 · exact h j b c h9 g hc
 · have e:j+1=i:=by omega
   rw [e,hx]at hc;injection hc with hc
   rcases m with h0|⟨y,hy,hl⟩
   · omega
   · rw [show i -1=j by omega,g]at hy;injection hy with hy;rw [hy,<-hc];exact hl
theorem oD(p:Int)(q:BE)(cap:Nat)(cs:List Chg)(M:List A8)(hO:CL M (.slice q cs.length cap) cs):Au prog 72 #[.agg #[I4 p,.slice q cs.length cap]] [M] (.bool (decide (Db p cs))):=by
 have gq:=mL;obtain ⟨p9,d9,e9,gy,hg⟩:=hO;injection e9 with e91 e92 e93
 subst e91 e93;refine Se func72 ntmps72 [0] ?_;intro u R;refine A3<|Ze (Bx #[_,_])<|AF fun b1=>CT Y<|A3<|Zh 0 GS V rfl A6 Y<|Zl AE Y<|Xr [_,_,_] Y call140 Y V (KV _ _ _)<|Zv (CG Y)<|Zm Y<|Af (t:=10) Y V (fun hp=>?_) (fun hp=>?_);·
  refine AG<|AG<|C4<|C1 Y Y<|Z0<|Zn [1,16] ?_;refine Zx<|Cy Y<|A3<|An Y<|Zt<|AO rfl jt Y (by exact ⟨by rw [DQ (fun h9:Db p cs=>by have G:=h9.pos;have X:=h9.len;exact hp G)],rfl⟩)
 refine Yf 1 GS V rfl Kf Y<|Yl MA Y<|Yg (AR GO Y)<|Xr [_,_,_] Y call140 Y V (KV _ _ _)<|Yg (CG Y)<|B9 Y Y<|Z0<|Zn [1,16] ?_;refine Zx<|Ak Y (fun hl=>?_) (fun hl=>?_);·
  refine A3<|An Y<|Zt<|AO rfl jt Y (by exact ⟨by rw [DQ (fun h9:Db p cs=>by have G:=h9.pos;have X:=h9.len;(apply hl;omega))],rfl⟩)
 refine B3<|Zq<|A3<|AH Y<|AQ<|Zb [3,1] ?_;refine Aw (e0:=[(3,_)]) (fun m e H=>∃(i:Nat),m=cs.length -i/\(i<=cs.length/\(∀(j:Nat) (c:Chg),j<i->cs[j]?=some c->c.ok)/\(∀(j:Nat) (b c:Chg),j+1<i->cs[j]?=some b->cs[j+1]?=some c->b.lt c))/\e=[(3,I4 (i:Int))]/\H=[]) (by exact ⟨0,V,⟨by omega,by intro j c hj;omega,by intro j b c hj;omega⟩,V,V⟩) Wp ?_;rintro _ _ _ ⟨i,rfl,⟨hi,I,J⟩,rfl,rfl⟩;refine B8 Y<|Zh 1 GS V rfl Kf Y<|Zl MA Y<|Zv (AR GO Y)<|Zv (Ap Y Y)<|A4<|Ak Y (fun U=>?_) (fun U=>?_);·
  refine B3<|Zq<|AQ<|Zq ?_;obtain ⟨x,hx⟩:∃x,cs[i]?=some x:=⟨_,BT U⟩;obtain ⟨g,off,cur,T,zz,rfl,hm,gQ,Z⟩:=hg i x hx;refine Zg<|Zh 1 GS V rfl Kf Y<|Zl MA Y<|Zm Y<|BX (AZ GO Cl Y Y A0)<|Bu (cs:=[(g,.cells cur T zz)]) (by simp [hm]) (A9 (cs:=x.BM3) HD Cl Y A0 Z) V rfl<|Ze (Al N1 #[_,_,_,_,_,_,_,_,_,_])<|AF fun b2=>Xe (Xw Cl _)<|A4<|Zq<|A3<|Zo Wh (Pa #[_,_,_,_,_,_,_,_,_,_] HD Cl Y)<|Xr [_] Y call141 Y V (oF x)<|Zv (CG Y)<|Z0<|Zn [1,3,4,31] ?_;refine Zx<|Ak Y (fun B=>?_) (fun B=>?_);·
   refine A3<|An Y<|Zt<|Ag<|Zt<|Zt<|Ag<|Zt<|AO rfl jt Y (by exact ⟨by rw [DQ (fun h9:Db p cs=>B (h9.all i x hx))],rfl⟩)
  refine B3<|AK Y<|Zv (DX (n:=0) Y Y)<|A4<|Ak Y (fun W=>?_) (fun W=>?_);·
   refine Zq ?_;obtain ⟨y,hy⟩:∃y,cs[i -1]?=some y:=⟨_,BT A0⟩;obtain ⟨g2,gm,K,T2,cO,e2,af,ek,O⟩:=hg (i -1) y hy;injection e2 with e2
   injection e2 with e21 e22
   subst e21 e22;refine Zg<|Zh 1 GS V rfl Kf Y<|Zl MA Y<|Zm Y<|Yb (n:=1) Y Y ?_;refine BX (AZ GO Cl Y Y A0)<|Bu (cs:=[(g,.cells K T2 cO)]) (by simp [af]) (A9 (cs:=y.BM3) HD Cl Y A0 O) V rfl<|Ze (Al N1 #[_,_,_,_,_,_,_,_,_,_])<|AF fun b3=>Xe (Xw Cl _)<|A4<|A3<|Zh 0 CC V rfl A6 Y<|Zl AE Y<|Zh 0 CC V rfl A6 Y<|Zl AE Y<|Zv (F4 Y Y)<|Zm Y<|Af (t:=45) Y V (fun ax=>?_) (fun ax=>?_);·
    refine AG<|AG<|AG<|AG<|AG<|AG<|C1 Y Y<|Z0<|Zn [1,3,58] ?_;refine Zx<|Cy Y<|A3<|An Y<|Ag<|Zt<|Zt<|Ag<|Zt<|AO rfl jt Y (by exact ⟨by rw [DQ (fun h9:Db p cs=>by have G:=h9.ord (i -1) y x hy (by rw [show i -1+1=i by omega];exact hx);unfold Chg.lt at G;omega)],rfl⟩)
   refine Yf 0 CC V rfl A6 Y<|Yl AE Y<|Yf 0 CC V rfl A6 Y<|Yl AE Y<|Yg (CO Y Y)<|Zf Y Y<|Af (t:=51) Y V (fun bn=>?_) (fun bn=>?_);focus
    refine Yf 1 CC V rfl A6 Y<|Yl AE Y<|Yf 1 CC V rfl A6 Y<|Yl AE Y<|Yg (Ga Y Y)<|Yg (AU Y Y)<|B9 Y Y<|Z0<|Zn [1,3,58] ?_;refine Zx<|Ak Y (fun cu=>?_) (fun cu=>?_);refine A3<|An Y<|Ag<|Zt<|Zt<|Ag<|Zt<|AO rfl jt Y (by exact ⟨by rw [DQ (fun h9:Db p cs=>by have G:=h9.ord (i -1) y x hy (by rw [show i -1+1=i by omega];exact hx);unfold Chg.lt at G;omega)],rfl⟩)
   rotate_left
   focus
    refine AG<|AG<|C4<|Yg (AJ Y Y)<|B9 Y Y<|Z0<|Zn [1,3,58] ?_;refine Zx<|Df Y ?_
   all_goals
    refine AC<|AA<|Zx<|Zg<|Zm Y<|Ya (n:=1) Y Y<|B2 Y<|HJ (by exact ⟨i+1,V,⟨by omega,V6 I hx (HP.1 B),UG J hx (by(right;refine ⟨y,hy,?_⟩;unfold Chg.lt;omega))⟩,V,V⟩)
  refine AC<|AA<|Zx<|Zg<|Zm Y<|Ya (n:=1) Y Y<|B2 Y<|HJ (by exact ⟨i+1,V,⟨by omega,V6 I hx (HP.1 B),UG J hx (by(left;omega))⟩,V,V⟩)
 refine BA<|Zt<|Zt<|AX<|C6<|An Y<|AO rfl jt Y (by exact ⟨by rw [DE (⟨by omega,by omega,fun j c hc=>I j c (by have:=(C7.1 hc).1;omega) hc,fun j b c hb hc=>J j b c (by have:=(C7.1 hc).1;omega) hb hc⟩:Db p cs)],rfl⟩)
def kX(M:List A8)(v:A2)(rs:List AV):Prop:=∃p cap,v= .slice p rs.length cap/\rs.length<=maxLen/\∀(i:Nat) (r:AV),rs[i]?=some r->∃g off cur T zz,p=some ⟨g,off,none⟩/\(g,Obj.cells cur T zz)∈M/\off+i*5+5<=cur.size/\cur.extract (off+i*5) (off+i*5+5)=r.BM4
variable{cur:AN}
theorem Un{cs:AN}{a n j:Nat}{v:A2}(h:cur.extract a (a+n)=cs)(hv:cs[j]?=some v):cur[a+j]?=some v:=by
 rw [<-h,eS]at hv;split at hv;· exact hv
 · cases hv
def AV.lt2(r:AV)(t k:Int):Prop:=r.t<t\/r.t=t/\r.k<k
instance(r:AV)(t k:Int):Decidable (r.lt2 t k):=inferInstanceAs(Decidable (_\/_))
def AV.is(r:AV)(t k:Int):Prop:=r.t=t/\r.k=k
instance(r:AV)(t k:Int):Decidable (r.is t k):=inferInstanceAs(Decidable (_/\_))
def BM(rs:List AV):Prop:=rs.Pairwise (fun a b=>a.lt2 b.t b.k)
def EA(rs:List AV)(t k:Int):Nat:=(rs.takeWhile (fun r=>decide (r.lt2 t k))).length
theorem WZ:∀{rs:List AV} {t k:Int} {m:Nat},m<=rs.length->(∀(i:Nat) (r:AV),i<m->rs[i]?=some r->r.lt2 t k)->(∀(i:Nat) (r:AV),m<=i->rs[i]?=some r->¬r.lt2 t k)->EA rs t k=m
 |[],t,k,m,hm,_,_=>by simp only [MY]at hm;simp [EA];omega
 |r::rs,t,k,0,_,_,h2=>by unfold EA;rw [S7,As (by simpa using h2 0 r A0 rfl)];rfl
 |r::rs,t,k,m+1,hm,h1,h2=>by
  unfold EA;rw [S7,Ax (by simpa using h1 0 r A0 rfl),F2];exact congrArg (·+1) (WZ (by simpa using hm) (fun i x hi hx=>h1 (i+1) x A0 hx) (fun i x hi hx=>h2 (i+1) x A0 hx))
variable{k t:Int}
theorem Qx{a b:AV}(h:a.lt2 b.t b.k)(g:b.lt2 t k):a.lt2 t k:=by unfold AV.lt2 at*;omega
variable{rs:List AV}
theorem WB(h:BM rs){j:Nat}{a b:AV}(g:i<j)(m:rs[i]?=some a)(B:rs[j]?=some b):a.lt2 b.t b.k:=by
 obtain ⟨hi,rfl⟩:=C7.1 m;obtain ⟨G,rfl⟩:=C7.1 B;exact ft.1 h i j hi G g
theorem sN(h:BM rs){m:Nat}{x:AV}(hx:rs[m]?=some x)(B:x.lt2 t k):∀(i:Nat) (r:AV),i<m+1->rs[i]?=some r->r.lt2 t k:=by
 intro i r hi g;rcases Fi i m with h9|h9
 · exact Qx (WB h h9 g hx) B
 · rw [show i=m by omega,hx]at g;injection g with g;rw [<-g];exact B
theorem XU(h:BM rs){m:Nat}{x:AV}(hx:rs[m]?=some x)(B:¬x.lt2 t k):∀(i:Nat) (r:AV),m<=i->rs[i]?=some r->¬r.lt2 t k:=by
 intro i r hi g hc;rcases Fi m i with h9|h9
 · exact B (Qx (WB h h9 hx g) hc)
 · rw [show i=m by omega,hx]at g;injection g with g;rw [<-g]at hc;exact B hc
theorem aS(X:Nat)(q:BE)(cap:Nat)(p t k:Int)(rs:List AV)(M:List A8)(hO:kX M (.slice q rs.length cap) rs)(hn:rs.length<=1000000)(U:BM rs):Au prog 71 #[I5 X,I4 t,I4 k] [[(X,.cells #[.slice q rs.length cap,I4 p] 87 (0,0))],M] (I4 (EA rs t k:Int)):=by
 have bn:=mL;obtain ⟨p9,W,Z,cu,hg⟩:=hO;injection Z with e91 e92 e93
 subst e91 e93;refine Se func71 ntmps71 [0,1,2] ?_;intro u R;refine A3<|AH Y<|A3<|AH Y<|AK Y<|Zp Y V<|Zh 0 Mz V rfl E3 Y<|Zl GP Y ?_;refine Zv (AR C2 Y)<|CT Y<|AQ<|Zb [7,8,0,1,2] ?_;refine Aw (e0:=[(7,_),(8,_)]) (fun m e H=>∃(lo hi:Nat),m=hi -lo/\(lo<=hi/\hi<=rs.length/\(∀(i:Nat) (r:AV),i<lo->rs[i]?=some r->r.lt2 t k)/\(∀(i:Nat) (r:AV),hi<=i->rs[i]?=some r->¬r.lt2 t k))/\e=[(7,I4 (lo:Int)),(8,I4 (hi:Int))]/\H=[]) (by exact ⟨0,rs.length,V,⟨by omega,by omega,by intro i r hi;omega,by intro i r hi O;have:=(C7.1 O).1;omega⟩,V,V⟩) Wp ?_;rintro _ _ _ ⟨lo,hi,rfl,⟨ax,af,B,I⟩,rfl,rfl⟩;refine B8 Y<|Zm Y<|Zv (Ap Y Y)<|A4<|Ak Y (fun J=>?_) (fun J=>?_);·
  refine B3<|AQ<|AK Y<|Zm Y<|Ya Y Y ?_
  (refine BX (Ka (n:=2) Y Y ?_ ?_) ?_;(focus (omega));(focus (omega)))
  refine AH Y<|Zq ?_;obtain ⟨x,hx⟩:∃x,rs[(lo+hi)/2]?=some x:=⟨_,BT A0⟩;obtain ⟨g,off,cur,T,zz,rfl,K,cO,G⟩:=hg _ x hx;refine Zg<|Zm Y<|Zp Y V<|Zh 0 Mz V rfl E3 Y<|Zl GP Y ?_;refine Zm Y<|BX (AZ C2 B6 Y Y A0)<|Zv (Ar (off:=0) HC V rfl A6 Y)<|Bu (cs:=[(g,.cells cur T zz)]) (by simp [K]) (BK AE Y (Un (j:=0) G V)) V rfl ?_;refine Zm Y<|Zv (Dy Y Y)<|Zm Y<|Af (t:=32) Y V (fun h1=>?_) (fun h1=>?_);focus
   refine AG<|AG<|AG<|AG<|AG<|AG<|AG<|AG<|AG<|AG<|AG<|C1 Y Y<|Z0<|Zn [0,1,2,7,8,9,55] ?_;refine Zx<|Cy Y ?_
  rotate_left
  focus
   refine Zf Y Y<|Yg (Ao Y V)<|Yf 0 Mz V rfl E3 Y<|Yl GP Y ?_;refine Zf Y Y ?_
   (refine Gy Y (AZ C2 B6 Y Y ?_) rfl rfl ?_;(focus (omega)))
   refine Yg (Ar (off:=0) HC V rfl A6 Y)<|Mf Y (cs:=[(g,.cells cur T zz)]) (by simp [K]) (BK AE Y (Un (j:=0) G V)) V rfl ?_;refine Zf Y Y<|Yg (CO Y Y)<|Zf Y Y ?_;refine Af (t:=43) Y V (fun h2=>?_) (fun h2=>?_);focus
    refine Zf Y Y<|Yg (Ao Y V)<|Yf 0 Mz V rfl E3 Y<|Yl GP Y ?_;refine Zf Y Y ?_
    (refine Gy Y (AZ C2 B6 Y Y ?_) rfl rfl ?_;(focus (omega)))
    refine Yg (Ar (off:=1) HC V rfl A6 Y)<|Mf Y (cs:=[(g,.cells cur T zz)]) (by simp [K]) (BK AE Y (Un (j:=1) G V)) V rfl ?_;refine Zf Y Y<|Yg (Dy Y Y)<|Yg (AU Y Y)<|B9 Y Y<|Z0<|Zn [0,1,2,7,8,9,55] ?_;refine Zx<|Ak Y (fun h3=>?_) (fun h3=>?_);rotate_left;refine Zg<|Zm Y<|B2 Y<|AA<|HJ (by exact ⟨lo,(lo+hi)/2,V,⟨by omega,by omega,B,XU U hx (by unfold AV.lt2;omega)⟩,V,V⟩)
   rotate_left
   refine AG<|AG<|AG<|AG<|AG<|Yg (AJ Y Y)<|B9 Y Y<|Z0<|Zn [0,1,2,7,8,9,55] ?_;refine Zx<|Df Y<|Zg<|Zm Y<|B2 Y<|AA<|HJ (by exact ⟨lo,(lo+hi)/2,V,⟨by omega,by omega,B,XU U hx (by unfold AV.lt2;omega)⟩,V,V⟩)
  all_goals
   refine Zg<|Zm Y<|Ya (n:=1) Y Y<|B2 Y<|AA<|HJ (by exact ⟨(lo+hi)/2+1,hi,V,⟨by omega,by omega,sN U hx (by unfold AV.lt2;omega),I⟩,V,V⟩)
 refine BA<|Zt<|Zt<|AX<|Zx<|AK Y<|An Y<|AO rfl results71 Y (by exact ⟨by rw [WZ A0 B (fun i r hi O=>I i r A0 O)],rfl⟩)
def G8(rs:List AV)(t k:Int):AV×Bool:=match rs[EA rs t k]?with
 |some r=>if r.is t k then(r,true)else(AV.zero,false)
 |none=>(AV.zero,false)
theorem Wd(rs:List AV)(t k:Int):EA rs t k<=rs.length:=by unfold EA;exact List.IsPrefix.length_le (List.takeWhile_prefix _)
theorem qU{x:AV}(hx:rs[EA rs t k]?=some x)(g:x.t=t)(h2:x.k=k):G8 rs t k=(x,true):=by unfold G8;rw [hx];exact Ax ⟨g,h2⟩
theorem wT{x:AV}(hx:rs[EA rs t k]?=some x)(h:¬(x.t=t/\x.k=k)):G8 rs t k=(AV.zero,false):=by unfold G8;rw [hx];exact As h
theorem A89(h:¬EA rs t k<rs.length):G8 rs t k=(AV.zero,false):=by unfold G8;rw [Of A0]
theorem ut(J:Nat)(q:BE)(cap:Nat)(p t k:Int)(rs:List AV)(M:List A8)(O:kX M (.slice q rs.length cap) rs)(hn:rs.length<=1000000)(hs:BM rs):Au prog 26 #[I5 J,I4 t,I4 k] [[(J,.cells #[.slice q rs.length cap,I4 p] 87 (0,0))],M] (.tuple #[.agg #[I4 (G8 rs t k).1.t,I4 (G8 rs t k).1.k,I4 (G8 rs t k).1.v.a,I4 (G8 rs t k).1.v.b,I4 (G8 rs t k).1.v.c],.bool (G8 rs t k).2]):=by
 have G:=id O;have af:=mL
 obtain ⟨p9,K,X,ax,Z⟩:=O;injection X with e91 e92 e93
 subst e91 e93;have bn:=Wd rs t k
 refine Se func26 ntmps26 [0,1,2] ?_;intro u R;refine A3<|Ze (Al Ft #[_,_,_,_,_])<|AF fun b1=>AH Y<|AK Y<|Zm Y<|Zm Y<|Xr [_,_,_] Y call71 Y V (aS J _ _ p t k rs M G hn hs)<|AH Y<|B8 Y<|Zm Y<|Zp Y V<|Zh 0 Mz V rfl E3 Y<|Zl GP Y<|Zv (AR C2 Y)<|Zv (Ap Y Y)<|Zm Y<|Af (t:=20) Y V (fun B=>?_) (fun B=>?_);·
  obtain ⟨x,hx⟩:∃x,rs[EA rs t k]?=some x:=⟨_,BT B⟩;obtain ⟨g,off,cur,T,zz,rfl,I,cu,m⟩:=Z _ x hx;refine Zf Y Y<|Yg (Ao Y V)<|Yf 0 Mz V rfl E3 Y<|Yl GP Y<|Zf Y Y<|Gy Y (AZ C2 B6 Y Y A0) V rfl ?_;refine Yg (Ar (off:=0) HC V rfl A6 Y)<|Mf Y (cs:=[(g,.cells cur T zz)]) (by simp [I]) (BK AE Y (Un (j:=0) m V)) V rfl ?_;refine Zf Y Y<|Yg (CO Y Y)<|C1 Y Y<|Zm Y<|Af (t:=32) Y V (fun W=>?_) (fun W=>?_);focus
   refine Zf Y Y<|Yg (Ao Y V)<|Yf 0 Mz V rfl E3 Y<|Yl GP Y<|Zf Y Y<|Gy Y (AZ C2 B6 Y Y A0) V rfl ?_;refine Yg (Ar (off:=1) HC V rfl A6 Y)<|Mf Y (cs:=[(g,.cells cur T zz)]) (by simp [I]) (BK AE Y (Un (j:=1) m V)) V rfl ?_;refine Zf Y Y<|Yg (CO Y Y)<|C1 Y Y<|Z0<|Zn [0,6,8,43] ?_;refine Zx<|Ak Y (fun U=>?_) (fun U=>?_);refine AK Y<|Zp Y rfl<|Zh 0 Mz rfl rfl E3 Y<|Zl GP Y<|Zm Y<|BX (AZ C2 B6 Y Y A0)<|Bu (cs:=[(g,.cells cur T zz)]) (by simp [I]) (A9 (cs:=x.BM4) DM B6 Y A0 m) rfl rfl<|Xe (Xw B6 _)<|An Y<|Zt<|CS rfl results26 Y Wh (Av DM B6 Wn (rfl)) Y (by exact ⟨by rw [qU hx W U];rfl,rfl⟩)
  rotate_left
  focus
   refine AG<|AG<|AG<|AG<|AG<|B9 Y Y<|Z0<|Zn [0,6,8,43] ?_;refine Zx<|Df Y ?_
  all_goals
   refine AC<|C6<|Zv (BN (vs:=[]) (cs:=#[_,_,_,_,_]) Y (Aa (pl:=#[(0,1),(1,1),(2,3)]) Ft HC (fun _=>by kernel_rfl) V))<|Xe (Xw B6 _)<|An Y<|CS V results26 Y Wh (Av DM B6 Wn (V)) Y (by exact ⟨by(rw [wT hx A0];rfl),V⟩)
 refine AG<|AG<|AG<|AG<|AG<|B9 Y Y<|Zm Y<|AG<|AG<|AG<|AG<|AG<|B9 Y Y<|Z0<|Zn [0,6,8,43] ?_;refine Zx<|Df Y<|AC<|C6<|Zv (BN (vs:=[]) (cs:=#[_,_,_,_,_]) Y (Aa (pl:=#[(0,1),(1,1),(2,3)]) Ft HC (fun _=>by kernel_rfl) V))<|Xe (Xw B6 _)<|An Y<|CS V results26 Y Wh (Av DM B6 Wn (V)) Y (by exact ⟨by(rw [A89 B];rfl),V⟩)
def out(lo hi n:Int):Bool:=decide (n<lo)||decide (hi<n)
def Ji(cur:AN)(o:Nat)(ns:List Int):Prop:=∀(i:Nat) (n:Int),ns[i]?=some n->cur[o+i]?=some (I4 n)
theorem sZ(p:Int->Bool)(ls:List Int)(i:Nat)(x:Int)(h:ls[i]?=some x):(ls.take (i+1)).any p=((ls.take i).any p||p x):=by
 rw [S1,h];simp
theorem wx(p:Int->Bool)(ls:List Int)(i:Nat)(x:Int)(h:ls[i]?=some x)(hx:p x=true):ls.any p=true:=by
 rw [lE];exact ⟨x,Ek h,hx⟩
theorem xM(lp m:Nat)(n lo hi:Int):Au prog 181 #[I4 n,I5 lp,I5 m] [[(lp,.cells #[I4 lo] 3 (0,0))],[(m,.cells #[I4 hi] 3 (0,0))]] (.bool (out lo hi n)):=by
 refine Se func181 ntmps181 [0,1,2] ?_;intro u R;refine A3<|AH Y<|AK Y<|Zl AE Y ?_;refine Zv (Dy Y Y)<|Zm Y<|Af (t:=8) Y V (fun g=>?_) (fun g=>?_);focus
  refine AG<|C4<|Zv (AU Y Y) ?_
 rotate_left
 focus
  refine Zf Y Y<|Yl AE Y ?_;refine Yg (F4 Y Y)<|Zv (AJ Y Y) ?_
 all_goals
  refine An Y<|AO V results181 Y (by exact ⟨by simp [out,g],V⟩)
theorem jX(lp J g off cap:Nat)(lo hi:Int)(cur:AN)(T:AM)(z:Nat×Nat)(ls:List Int)(K:Ji cur off ls)(hn:ls.length<=1073741824):
 BS prog 249 #[.slice (some ⟨g,off,none⟩) ls.length cap,.func (.func 181) #[] #[I5 lp,I5 J]] [[(lp,.cells #[I4 lo] 3 (0,0))],[(J,.cells #[I4 hi] 3 (0,0))],[(g,.cells cur T z)]] (fun r H'=>∃k:Int,r=I4 k/\decide (0<=k)=ls.any (out lo hi)/\H'=[[(lp,.cells #[I4 lo] 3 (0,0))],[(J,.cells #[I4 hi] 3 (0,0))],[(g,.cells cur T z)]]):=by
 refine Se func249 ntmps249 [0,1] ?_;intro u R;refine A3<|AH Y<|B8 Y<|Zv (AR DP Y)<|Zm Y<|A4<|AQ<|Zb [8,0,1,7] ?_;refine Aw (e0:=[(8,_)]) (fun m e H=>∃(i:Nat),m=ls.length -i/\(i<=ls.length/\(ls.take i).any (out lo hi)=false)/\e=[(8,I4 (i:Int))]/\H=[]) (by exact ⟨0,V,⟨CM _,V⟩,V,V⟩) Wp ?_;rintro _ _ _ ⟨i,rfl,⟨U,B⟩,rfl,rfl⟩;refine A3<|Zv (Ap Y Y)<|A4<|Zq<|Ak Y (fun I=>?_) (fun I=>?_);·
  refine B3<|Zq<|AQ<|AK Y<|AH Y<|Zq ?_;obtain ⟨x,hx⟩:∃x,ls[i]?=some x:=⟨_,BT I⟩;refine Zg<|Zm Y<|Zm Y<|Zm Y<|BX (Bg DP A6 Y Y A0)<|Zl AE Y (hv:=by exact K i x hx)<|Xr [_] Y call181 Y V (xM lp J x lo hi)<|A4<|AY Y (fun G=>?_) (fun G=>?_);·
   refine AK Y<|An Y<|Ag<|Zt<|Zt<|Ag<|Zt<|AO rfl results249 Y (by exact ⟨(i:Int),rfl,by rw [wx _ ls i x hx G];exact DE A0,rfl⟩)
  refine AC<|AA<|Zx<|Dg Y Y Y<|DG (e:=[(8,_)]) (h:=by exact ⟨i+1,rfl,⟨by omega,by rw [sZ _ ls i x hx,B];exact G⟩,rfl,rfl⟩)
 have O:i=ls.length:=by omega
 subst O;rw [HE]at B;refine BA<|Zt<|Zt<|AX<|C6<|An Y<|AO rfl results249 Y (by exact ⟨-1,rfl,by rw [B];rfl,rfl⟩)
theorem Va(lp B g off cap:Nat)(lo hi:Int)(cur:AN)(T:AM)(z:Nat×Nat)(ls:List Int)(m:Ji cur off ls)(hn:ls.length<=1073741824):
 Au prog 180 #[.slice (some ⟨g,off,none⟩) ls.length cap,.func (.func 181) #[] #[I5 lp,I5 B]] [[(lp,.cells #[I4 lo] 3 (0,0))],[(B,.cells #[I4 hi] 3 (0,0))],[(g,.cells cur T z)]] (.bool (ls.any (out lo hi))):=by
 refine Se func180 ntmps180 [0,1] ?_;intro u R;refine A3<|AH Y<|AK Y<|Zm Y<|Zc [_,_] Y call249 Y V (jX lp B g off cap lo hi cur T z ls m hn) ?_;rintro _ _ ⟨_,⟨k,rfl,G,rfl⟩,rfl⟩;refine Zv (Ga Y Y)<|An Y<|AO rfl results180 Y (by exact ⟨by rw [<-G],rfl⟩)
theorem WC(g off cap:Nat)(lo hi:Int)(cur:AN)(T:AM)(z:Nat×Nat)(ls:List Int)(m:Ji cur off ls)(hn:ls.length<=1073741824):
 Au prog 104 #[I4 lo,I4 hi,.slice (some ⟨g,off,none⟩) ls.length cap] [[(g,.cells cur T z)]] (.bool (!(ls.any (out lo hi)))):=by
 refine Se func104 ntmps104 [0,1,2] ?_;intro u R;refine A3<|Ze (Bx #[_])<|AF fun B=>Ze (Bx #[_])<|AF fun G=>AH Y<|AK Y<|Zv (Be (vs:=[]) (us:=[_,_]) Y Y)<|Xr [_,_] Y call180 Y V (Va _ _ g off cap lo hi cur T z ls m hn)<|Zv (Bo Y)<|An Y<|AO V results104 Y (by exact ⟨V,V⟩)
def EW(c:Chg)(th:Bool)(v:V3):AV:=if th then⟨c.t,c.k,v⟩else AV.zero
variable{v:V3}
theorem xN{g:Bool}(h:g=true):EW c g v=⟨c.t,c.k,v⟩:=Ax h
theorem xu{g:Bool}(h:g=false):EW c g v=AV.zero:=As (by rw [h];decide)
theorem lT(lo hi n:Int):(!(([n]:List Int).any (out lo hi)))=decide (lo<=n/\n<=hi):=by
 simp only [oT,oY,ie,out];by_cases g:n<lo<;>by_cases h2:hi<n<;>simp [g,h2]<;>omega
theorem xZ(v:V3):(!(([v.a,v.b,v.c]:List Int).any (out (-1000000000) 1000000000)))=decide v.ok:=by
 have h:∀n,out (-1000000000) 1000000000 n=!decide (inV n):=by
  intro n;have:=lT (-1000000000) 1000000000 n
  simp only [oT,oY,ie]at this;rw [<-Bool.not_not (out _ _ n),this];rfl
 simp only [oT,oY,ie,h,V3.ok];by_cases g:inV v.a<;>by_cases h2:inV v.b<;>by_cases m:inV v.c<;>simp [g,h2,m]
theorem yk{n:Int}(h:cur[o]?=some (I4 n)):Ji cur o [n]:=by
 intro i x hx;rcases i with _|i
 · injection hx with hx;rw [<-hx];exact h
 · cases hx
theorem yi(h0:cur[o]?=some (I4 v.a))(g:cur[o+1]?=some (I4 v.b))(h2:cur[o+2]?=some (I4 v.c)):Ji cur o [v.a,v.b,v.c]:=by
 intro i x hx;rcases i with _|_|_|i
 · injection hx with hx;rw [<-hx];exact h0
 · injection hx with hx;rw [<-hx];exact g
 · injection hx with hx;rw [<-hx];exact h2
 · cases hx
theorem LC(g off cap:Nat)(lo hi:Int)(cur:AN)(T:AM)(z:Nat×Nat)(n:Int)(h:cur[off]?=some (I4 n)):
 Au prog 104 #[I4 lo,I4 hi,.slice (some ⟨g,off,none⟩) 1 cap] [[(g,.cells cur T z)]] (.bool (decide (lo<=n/\n<=hi))):=by
 rw [<-lT];exact WC g off cap lo hi cur T z [n] (yk h) B7
theorem gM(g off cap:Nat)(cur:AN)(T:AM)(z:Nat×Nat)(v:V3)(h:Ji cur off [v.a,v.b,v.c]):
 Au prog 104 #[I4 (-1000000000),I4 1000000000,.slice (some ⟨g,off,none⟩) 3 cap] [[(g,.cells cur T z)]] (.bool (decide v.ok)):=by
 rw [<-xZ];exact WC g off cap _ _ cur T z [v.a,v.b,v.c] h B7
theorem Xy(c:Chg)(m:Bool)(v:V3):Au prog 179 #[.agg c.BM3,.bool m,.agg #[I4 v.a,I4 v.b,I4 v.c]] [] (.tuple #[.agg #[I4 (EW c m v).t,I4 (EW c m v).k,I4 (EW c m v).v.a,I4 (EW c m v).v.b,I4 (EW c m v).v.c],.bool m]):=by
 refine Se func179 ntmps179 [0,1,2] ?_;intro u R;refine A3<|Ze (Bx #[_,_,_,_,_,_,_,_,_,_])<|AF fun B=>Ze (Bx #[_,_,_])<|AF fun G=>Ze (Al Ft #[_,_,_,_,_])<|AF fun I=>AH Y<|B8 Y<|Zv (Bo Y)<|A4<|AY Y (fun g=>?_) (fun g=>?_);·
  refine A3<|Zv (BN (vs:=[]) (cs:=#[_,_,_,_,_]) Y (Aa (pl:=#[(0,1),(1,1),(2,3)]) Ft HC (fun _=>by kernel_rfl) V))<|Xe (Xw B6 _) ?_;refine An Y<|Zt<|CS V results179 Y Wh (Av DM B6 Wn (V)) Y (by simp only [gA,US,eh]at g;exact ⟨by(rw [xu g,g];rfl),V⟩)
 refine AC<|C6<|Zh 0 CC V rfl A6 Y<|Zl AE Y ?_;refine Zh 1 CC V rfl A6 Y<|Zl AE Y ?_;refine Zo Wh (Pa #[_,_,_] Hb E4 Y) ?_;refine Zv (BN (vs:=[(0,_),(1,_),(2,_)]) (cs:=#[_,_,_,_,_]) Y (Aa (pl:=#[(0,1),(1,1),(2,3)]) Ft HC (fun _=>by kernel_rfl) rfl))<|Xe (BJ B6 Y Y (by(simp [Value.oneCell',Value.cells];done)) Wu B1 G4 Wn (by exact BB _)) ?_;refine B2 Y<|Zn [6,7] ?_;refine Zx<|AL<|CS V results179 Y Wh (Av DM B6 Wn (V)) Y (by simp only [gA,US,eh]at g;exact ⟨by(rw [xN g,g];rfl),V⟩)
theorem TN(r:AV):Au prog 207 #[.agg r.BM4] [] (.bool (decide r.ok)):=by
 refine Se func207 ntmps207 [0] ?_;intro u R;refine A3<|Ze (Bx #[_,_,_,_,_])<|AF fun I=>AH Y<|A3<|Zh 0 HC V rfl A6 Y<|Zl AE Y<|Ze (Ah (vs:=[_]) (cs:=[_]) DP A6 HT Y V rfl V rfl V)<|AF fun J=>Xr [_,_,_] Y call104 Y V (LC _ 0 1 _ _ _ _ _ r.t V)<|Zm Y<|Af (t:=7) Y V (fun g=>?_) (fun g=>?_);·
  refine Yf 1 HC V rfl A6 Y<|Yl AE Y<|Ze (Ah (vs:=[_]) (cs:=[_]) DP A6 HT Y V rfl V rfl V)<|AF fun K=>Xr [_,_,_] Y call104 Y V (LC _ 0 1 _ _ _ _ _ r.k V)<|C1 Y Y<|Zm Y<|Af (t:=13) Y V (fun m=>?_) (fun m=>?_);focus
   refine Yf 2 HC V rfl E4 Y<|Yg (FY K1 A6 Y)<|Xr [_,_,_] Y call104 Y V (gM _ 2 3 _ _ _ r.v (yi V rfl V))<|Zv (AU Y Y) ?_
  rotate_left
  focus
   refine AG<|C4<|Zv (AJ Y Y) ?_
  all_goals
   refine B2 Y<|Zn [2] ?_;refine Zx<|AL<|AO V results207 Y (by exact ⟨by(simp_all [AV.ok];done),V⟩)
 refine AG<|AG<|B9 Y Y<|Zm Y<|AG<|C4<|B9 Y Y<|B2 Y<|Zn [2] ?_;refine Zx<|AL<|AO rfl results207 Y (by exact ⟨by rw [DQ (fun h9:r.ok=>by have B:=h9.2.1;have G:=h9.2.2;omega)],rfl⟩)
theorem aA(c:Chg)(g:Bool)(v:V3):Au prog 182 #[.agg c.BM3,.bool g,.agg #[I4 v.a,I4 v.b,I4 v.c]] [] (.bool (if g then decide (EW c g v).ok else decide (v=V3.zero))):=by
 refine Se func182 ntmps182 [0,1,2] ?_;intro u R;refine A3<|Ze (Bx #[_,_,_,_,_,_,_,_,_,_])<|AF fun J=>Ze (Bx #[_,_,_])<|AF fun K=>AH Y<|A3<|Zo Wh (Pa #[_,_,_,_,_,_,_,_,_,_] HD Cl Y)<|Zm Y<|Zo Wh (Pa #[_,_,_] Hb E4 Y)<|Xr [_,_,_] Y call179 Y V (Xy c g v)<|Zm Y<|Zd Y V<|Zd Y V<|Ze (Al Ft #[_,_,_,_,_])<|AF fun O=>Xe (Xw B6 _)<|B2 Y<|Zn [1,5,7] ?_;refine Zx<|AK Y<|Zm Y<|Ad (t:=17) Y V (fun m=>?_) (fun m=>?_);focus
  refine D6 Y Wh (Pa #[_,_,_,_,_] DM B6 Y) V rfl<|Xr [_] Y call207 Y V (TN _)<|C1 Y Y<|Zm Y<|Af (t:=21) Y V (fun B=>?_) (fun B=>?_);focus
   refine AG<|AG<|AG<|C4<|Zv (AU Y Y) ?_
  rotate_left
  focus
   refine Zf Y Y<|Yg (Bo Y)<|Zf Y Y<|Ad (t:=24) Y V (fun G=>?_) (fun G=>?_);focus
    refine D6 Y Wh (Pa #[_,_,_] Hb E4 Y) V rfl<|Yg (BN (vs:=[]) (cs:=#[_,_,_]) Y (Dc fL K1 A6 V)) ?_;refine Yg (Jy AD K1 D3 AE A6 Y Y) ?_;refine Yg (AU Y Y)<|Zv (AJ Y Y) ?_
   rotate_left
   focus
    refine AG<|C4<|Yg (AJ Y Y)<|Zv (AJ Y Y) ?_
 rotate_left 3
 focus
  refine AG<|B9 Y Y<|Zm Y<|Zf Y Y<|Yg (Bo Y)<|Zf Y Y<|Ad (t:=24) Y V (fun I=>?_) (fun I=>?_);focus
   refine D6 Y Wh (Pa #[_,_,_] Hb E4 Y) V rfl<|Yg (BN (vs:=[]) (cs:=#[_,_,_]) Y (Dc fL K1 A6 V)) ?_;refine Yg (Jy AD K1 D3 AE A6 Y Y) ?_;refine Yg (AU Y Y)<|Zv (AJ Y Y) ?_
  rotate_left
  focus
   refine AG<|C4<|Yg (AJ Y Y)<|Zv (AJ Y Y) ?_
 all_goals
  refine B2 Y<|Zn [6] ?_;refine Zx<|AL<|AO V results182 Y (by exact ⟨by simp_all,V⟩)
def qk(c:Chg):Bool:=if c.had then decide c.before.ok else decide (c.o=V3.zero)
def qn(c:Chg):Bool:=if c.has then decide c.after.ok else decide (c.n=V3.zero)
theorem TP(c:Chg):Au prog 182 #[.agg c.BM3,.bool c.had,.agg #[I4 c.o.a,I4 c.o.b,I4 c.o.c]] [] (.bool (qk c)):=aA c c.had c.o
theorem TQ(c:Chg):Au prog 182 #[.agg c.BM3,.bool c.has,.agg #[I4 c.n.a,I4 c.n.b,I4 c.n.c]] [] (.bool (qn c)):=aA c c.has c.n
theorem Lc(g:c.had≠c.has\/(c.had=true/\c.o≠c.n)):decide c.ok=(qk c&&qn c):=by
 unfold qk qn;cases h1:c.had<;>cases h2:c.has<;>simp_all [Chg.ok]
 all_goals (by_cases m:c.before.ok<;>by_cases B:c.after.ok<;>by_cases G:c.o=V3.zero<;>by_cases I:c.n=V3.zero<;>simp_all)
theorem yN(h:c.had=c.has)(h2:c.had=true->c.o=c.n):decide c.ok=false:=by
 cases h1:c.had<;>simp_all [Chg.ok]
 all_goals (rw [<-h]at*;simp_all)
set_option maxHeartbeats 4000000 in
theorem WE(c:Chg):Au prog 105 #[.agg c.BM3] [] (.bool (decide c.ok)):=by
 refine Se func105 ntmps105 [0] ?_;intro u R;refine A3<|Ze (Bx #[_,_,_,_,_,_,_,_,_,_])<|AF fun K=>AH Y<|A3<|Zh 2 CC V rfl F1 Y<|Zl G0 Y<|Zh 6 CC V rfl F1 Y<|Zl G0 Y<|Zv (LH N6 Y Y)<|Zm Y<|Af (t:=9) Y V (fun g=>?_) (fun g=>?_);·
  refine AG<|AG<|AG<|AG<|C4<|C1 Y Y<|B2 Y<|Zn [1,3] ?_;refine Zx<|AK Y<|Zm Y<|D6 Y Wh (Pa #[_,_,_,_,_,_,_,_,_,_] HD Cl Y) V rfl<|Yf 2 CC V rfl F1 Y<|Yl G0 Y<|Yf 3 CC V rfl E4 Y<|D6 Y Wh (Pa #[_,_,_] Hb E4 Y) V rfl<|Xr [_,_,_] Y call182 Y V (TP c)<|C1 Y Y<|Zm Y<|Ad (t:=29) Y V (fun G=>?_) (fun G=>?_);·
   refine D6 Y Wh (Pa #[_,_,_,_,_,_,_,_,_,_] HD Cl Y) V rfl<|Yf 6 CC V rfl F1 Y<|Yl G0 Y<|Yf 7 CC V rfl E4 Y<|D6 Y Wh (Pa #[_,_,_] Hb E4 Y) V rfl<|Xr [_,_,_] Y call182 Y V (TQ c)<|C1 Y Y<|B2 Y<|Zn [2] ?_;refine Zx<|AL<|AO rfl j8 Y (by exact ⟨by rw [Lc (.inl g),G,Ys],rfl⟩)
  refine AG<|AG<|AG<|B9 Y Y<|B2 Y<|Zn [2] ?_;refine Zx<|AL<|AO rfl j8 Y (by exact ⟨by rw [Lc (.inl g),G,Bool.false_and],rfl⟩)
 refine Yf 2 CC V rfl F1 Y<|Yl G0 Y<|Zf Y Y<|Ad (t:=12) Y V (fun m=>?_) (fun m=>?_);·
  refine Yf 3 CC V rfl E4 Y<|D6 Y Wh (Pa #[_,_,_] Hb E4 Y) V rfl<|Yf 7 CC V rfl E4 Y<|D6 Y Wh (Pa #[_,_,_] Hb E4 Y) V rfl<|Yg (LJ AD K1 D3 AE A6 Y Y) ?_;refine Yg (AU Y Y)<|B9 Y Y<|B2 Y<|Zn [1,3] ?_;refine Zx<|AK Y<|Zm Y<|Af (t:=21) Y V (fun B=>?_) (fun B=>?_);·
   refine D6 Y Wh (Pa #[_,_,_,_,_,_,_,_,_,_] HD Cl Y) V rfl<|Yf 2 CC V rfl F1 Y<|Yl G0 Y<|Yf 3 CC V rfl E4 Y<|D6 Y Wh (Pa #[_,_,_] Hb E4 Y) V rfl<|Xr [_,_,_] Y call182 Y V (TP c)<|C1 Y Y<|Zm Y<|Ad (t:=29) Y V (fun I=>?_) (fun I=>?_);·
    refine D6 Y Wh (Pa #[_,_,_,_,_,_,_,_,_,_] HD Cl Y) V rfl<|Yf 6 CC V rfl F1 Y<|Yl G0 Y<|Yf 7 CC V rfl E4 Y<|D6 Y Wh (Pa #[_,_,_] Hb E4 Y) V rfl<|Xr [_,_,_] Y call182 Y V (TQ c)<|C1 Y Y<|B2 Y<|Zn [2] ?_;refine Zx<|AL<|AO rfl j8 Y (by exact ⟨by rw [Lc (.inr ⟨m,B⟩),I,Ys],rfl⟩)
   refine AG<|AG<|AG<|B9 Y Y<|B2 Y<|Zn [2] ?_;refine Zx<|AL<|AO rfl j8 Y (by exact ⟨by rw [Lc (.inr ⟨m,B⟩),I,Bool.false_and],rfl⟩)
  refine AG<|AG<|AG<|B9 Y Y<|Zm Y<|AG<|AG<|AG<|B9 Y Y<|B2 Y<|Zn [2] ?_;refine Zx<|AL<|AO rfl j8 Y (by exact ⟨by rw [yN (HP.1 g) (fun _=>HP.1 B)],rfl⟩)
 refine AG<|AG<|C4<|Yg (AJ Y Y)<|B9 Y Y<|B2 Y<|Zn [1,3] ?_;refine Zx<|AK Y<|Zm Y<|AG<|AG<|AG<|B9 Y Y<|Zm Y<|AG<|AG<|AG<|B9 Y Y<|B2 Y<|Zn [2] ?_;refine Zx<|AL<|AO rfl j8 Y (by exact ⟨by rw [yN (HP.1 g) (fun J=>by rw [m]at J;cases J)],rfl⟩)
theorem yv(h:c.ok):0<=c.t:=by
 obtain ⟨m,h2,_,_⟩:=h;have G:c.had=true->c.before.ok:=fun g=>Wg fun hn=>h2 (.inl ⟨g,hn⟩)
 have B:c.has=true->c.after.ok:=fun g=>Wg fun hn=>h2 (.inr ⟨g,hn⟩);cases e1:c.had with
 |true=>have:=(G e1).2.1.1;rw [N9 e1]at this;exact this
 |false=>
  cases e2:c.has with
  |true=>have:=(B e2).2.1.1;rw [KC e2]at this;exact this
  |false=>exact absurd (.inl ⟨by simp [e1],by simp [e2]⟩) m
theorem YN{p:Int}{y:Chg}(m:i=0/\y.t=-1\/0<i/\cs[i -1]?=some y)(h:Db p cs)(hx:cs[i]?=some x):y.lt x:=by
 rcases m with⟨h0,g⟩|⟨h0,g⟩
 · left;have:=yv (h.all i x hx);omega
 · exact h.ord (i -1) y x g (by rw [show i -1+1=i by omega];exact hx)
theorem vm{y:Chg}(m:i=0/\y.t=-1\/0<i/\cs[i -1]?=some y)(h:y.lt x):i=0\/∃y,cs[i -1]?=some y/\y.lt x:=by
 rcases m with⟨h0,g⟩|⟨h0,g⟩
 · exact .inl h0
 · exact .inr ⟨y,g,h⟩
theorem KT(p:Int)(q:BE)(cap:Nat)(cs:List Chg)(M:List A8)(hO:CL M (.slice q cs.length cap) cs):Au prog 42 #[.agg #[I4 p,.slice q cs.length cap]] [M] (.bool (decide (Db p cs))):=by
 have ax:=mL;obtain ⟨p9,af,e9,bn,hg⟩:=hO;injection e9 with e91 e92 e93
 subst e91 e93;refine Se func42 ntmps42 [0] ?_;intro u R;refine A3<|Ze (Bx #[_,_])<|AF fun b1=>CT Y<|A3<|Zh 0 GS V rfl A6 Y<|Zl AE Y<|Ze (Ah (vs:=[_]) (cs:=[_]) DP A6 HT Y V rfl V rfl V)<|AF fun b2=>Xr [_,_,_] Y call104 Y V (LC _ 0 1 _ _ _ _ _ p V)<|Zv (CG Y)<|Zm Y<|Af (t:=11) Y V (fun hp=>?_) (fun hp=>?_);·
  refine AG<|AG<|AG<|C1 Y Y<|Z0<|Zn [1,18] ?_;refine Zx<|Cy Y<|A3<|An Y<|Zt<|AO rfl ju Y (by exact ⟨by rw [DQ (fun h9:Db p cs=>by have G:=h9.pos;have I:=h9.len;exact hp G)],rfl⟩)
 refine Yf 1 GS V rfl Kf Y<|Yl MA Y<|Yg (AR GO Y)<|Ze (Ah (vs:=[_]) (cs:=[_]) DP A6 HT Y V rfl V rfl V)<|AF fun b3=>Xr [_,_,_] Y call104 Y V (LC _ 0 1 _ _ _ _ _ (cs.length:Int) V)<|Yg (CG Y)<|B9 Y Y<|Z0<|Zn [1,18] ?_;refine Zx<|Ak Y (fun hl=>?_) (fun hl=>?_);·
  refine A3<|An Y<|Zt<|AO rfl ju Y (by exact ⟨by rw [DQ (fun h9:Db p cs=>by have G:=h9.pos;have I:=h9.len;(apply hl;omega))],rfl⟩)
 refine AC<|C6<|Zv (BN (vs:=[(0,_)]) (cs:=#[_,_,_,_,_,_,_,_,_,_]) Y (Aa (pl:=#[(0,1),(1,1),(2,1),(3,3),(6,1),(7,3)]) N1 CC (fun _=>by kernel_rfl) V))<|Ze (Al N1 #[_,_,_,_,_,_,_,_,_,_])<|AF fun lb=>Xe (BJ Cl Y Y (by(simp [Value.oneCell',Value.cells];done)) Wu B1 G4 Wn (by exact BB _))<|A4<|Zq<|A3<|Zh 1 GS rfl rfl Kf Y<|Zl MA Y<|Zv (AR GO Y)<|Zm Y<|A4<|AQ<|Zb [23,3,21,22] ?_;refine Aw (e0:=[(23,_)]) (fun m e H=>∃(i:Nat) (y:Chg),m=cs.length -i/\(i<=cs.length/\(∀(j:Nat) (c:Chg),j<i->cs[j]?=some c->c.ok)/\(∀(j:Nat) (b c:Chg),j+1<i->cs[j]?=some b->cs[j+1]?=some c->b.lt c)/\(i=0/\y.t=-1\/0<i/\cs[i -1]?=some y))/\e=[(23,I4 (i:Int))]/\H=[[(lb,.cells y.BM3 73 (0,0))]]) (by exact ⟨0,⟨-1,0,false,V3.zero,false,V3.zero⟩,V,⟨by omega,by intro j c hj;omega,by intro j b c hj;omega,.inl ⟨V,V⟩⟩,V,V⟩) Wp ?_;rintro _ _ _ ⟨i,y,rfl,⟨hi,J,K,B⟩,rfl,rfl⟩;refine A3<|Zv (Ap Y Y)<|A4<|Zq<|Ak Y (fun U=>?_) (fun U=>?_);·
  obtain ⟨x,hx⟩:∃x,cs[i]?=some x:=⟨_,BT U⟩;obtain ⟨g,off,cur,T,zz,rfl,hm,cu,W⟩:=hg i x hx;refine B3<|Zq<|AQ<|A3<|BX (AZ GO Cl Y Y A0)<|Bu (cs:=[(g,.cells cur T zz)]) (by simp [hm]) (A9 (cs:=x.BM3) HD Cl Y A0 W) V rfl<|Ze (Al N1 #[_,_,_,_,_,_,_,_,_,_])<|AF fun b5=>Xe (Xw Cl _)<|A4<|Zq<|A3<|Zo Wh (Pa #[_,_,_,_,_,_,_,_,_,_] HD Cl Y)<|Xr [_] Y call105 Y V (WE x)<|Zv (CG Y)<|Zm Y<|Af (t:=30) Y V (fun O=>?_) (fun O=>?_);·
   refine AG<|AG<|C4<|C1 Y Y<|Zm Y<|AG<|AG<|AG<|AG<|AG<|AG<|C1 Y Y<|Z0<|Zn [3,5,21,22,23,50] ?_;refine Zx<|Cy Y<|A3<|An Y<|Zt<|Ag<|Zt<|Zt<|Ag<|Zt<|AO rfl ju Y (by exact ⟨by rw [DQ (fun h9:Db p cs=>by have G:=YN B h9 hx;have I:=h9.all i x hx;unfold Chg.lt at G;exact O I)],rfl⟩)
  refine Yf 0 CC V rfl A6 Y<|Yl AE Y<|Yf 0 CC V rfl A6 Y<|Yl AE Y<|Yg (Dy Y Y)<|B9 Y Y<|Zm Y<|Af (t:=37) Y V (fun X=>?_) (fun X=>?_);·
   refine AG<|AG<|AG<|AG<|AG<|AG<|C1 Y Y<|Z0<|Zn [3,5,21,22,23,50] ?_;refine Zx<|Cy Y<|A3<|An Y<|Zt<|Ag<|Zt<|Zt<|Ag<|Zt<|AO rfl ju Y (by exact ⟨by rw [DQ (fun h9:Db p cs=>by have G:=YN B h9 hx;have I:=h9.all i x hx;unfold Chg.lt at G;omega)],rfl⟩)
  refine Yf 0 CC V rfl A6 Y<|Yl AE Y<|Yf 0 CC V rfl A6 Y<|Yl AE Y<|Yg (CO Y Y)<|Zf Y Y<|Af (t:=43) Y V (fun Z=>?_) (fun Z=>?_);focus
   refine Yf 1 CC V rfl A6 Y<|Yl AE Y<|Yf 1 CC V rfl A6 Y<|Yl AE Y<|Yg (Md Y Y)<|Yg (AU Y Y)<|B9 Y Y<|Z0<|Zn [3,5,21,22,23,50] ?_;refine Zx<|Ak Y (fun ho=>?_) (fun ho=>?_);refine A3<|An Y<|Zt<|Ag<|Zt<|Zt<|Ag<|Zt<|AO rfl ju Y (by exact ⟨by rw [DQ (fun h9:Db p cs=>by have G:=YN B h9 hx;have I:=h9.all i x hx;unfold Chg.lt at G;omega)],rfl⟩)
  rotate_left
  focus
   refine AG<|AG<|C4<|Yg (AJ Y Y)<|B9 Y Y<|Z0<|Zn [3,5,21,22,23,50] ?_;refine Zx<|Df Y ?_
  all_goals
   refine B3<|Zg<|Zo Wh (Pa x.BM3 HD Cl Y)<|Xe (Xw Cl _)<|Z0<|AA<|Zx<|Dg Y Y Y<|HJ (by exact ⟨i+1,x,V,⟨by omega,V6 J hx (HP.1 O),UG K hx (vm B (by unfold Chg.lt;omega)),.inr ⟨by omega,hx⟩⟩,V,V⟩)
 refine BA<|Zt<|Zt<|AX<|C6<|An Y<|AO rfl ju Y (by exact ⟨by rw [DE (⟨by omega,by omega,fun j c hc=>J j c (by have:=(C7.1 hc).1;omega) hc,fun j b c hb hc=>K j b c (by have:=(C7.1 hc).1;omega) hb hc⟩:Db p cs)],rfl⟩)
end Go.Proofs.YtlkdhannldcfbabGreatDoor
