/-
  DERIVED: THE SHELF's CONTRACTS AT THIS DUMP, IN PLAIN WORDS (tools/lay-plain.mjs out of 'TryzShelf.lean', which tools/lay-shelf.mjs wrote): THE SAME DECLARATIONS UNDER THE SAME NAMES: 'import', 'namespace', 'open', 'def', 'theorem' AND NOTHING ELSE: no command of the shelf's: FOR A HAND-IN. Each laying: the table of numbers ('.._ren') and one theorem, a field a fact of the dump's own or the kernel's comparison; each contract: ONE APPLICATION.
-/
import Derived.Shelf.Strings.OnBuilder
import Derived.Shelf.Small.Wraps
import Derived.Shelf.Strconv.Itoa3
import Derived.Shelf.Sort.Plain
import Derived.Shelf.Strings.BuilderCap
import Derived.Shelf.Slices.Clone
import Derived.Shelf.Slices.SearchI
import Derived.Shelf.Slices.Cells
import Derived.Shelf.Slices.In.SortNone
import Derived.Shelf.SlicesE.Clone
import Derived.Test.YtfhjaegddfehhaaGreatDoorDg4
set_option linter.unusedVariables false
set_option linter.unusedSimpArgs false
namespace Go.Proofs
open Go.Shelf
def Tryz.lays156_ren:Go.Shelf.Ren:=⟨fun|156=>300|165=>316|166=>24|169=>28|240=>65|241=>323|276=>109|277=>326|n=>n,fun|31=>45|9=>9|3=>3|4=>4|0=>0|20=>20|72=>87|76=>90|70=>84|37=>85|75=>89|127=>150|164=>206|5=>5|80=>99|n=>n,fun|n=>n⟩
theorem Tryz.lays156:Go.Proofs.Lays.n156 prog Tryz.lays156_ren:={
 mixed:=by kernel_rfl
 f156:=func300.trans (congrArg some A6)
 f165:=func316.trans (congrArg some A6)
 f166:=func24.trans (congrArg some A6)
 f169:=func28.trans (congrArg some A6)
 f240:=func65.trans (congrArg some A6)
 f241:=func323.trans (congrArg some A6)
 f276:=func109.trans (congrArg some A6)
 f277:=func326.trans (congrArg some A6)
 t0:=de
 a0:=isAgg0
 z0:=sizeOf0
 v0:=dj
 t3:=C5
 a3:=AD
 z3:=A4
 v3:=H4
 t4:=Lk
 a4:=DM
 z4:=CH
 v4:=T0
 t9:=GP
 a9:=HQ
 z9:=Fi
 v9:=HT
 t20:=underlying20
 a20:=isAgg20
 z20:=sizeOf20
 v20:=zeroValue20
 t31:=D2
 a31:=Hc
 z31:=HB
 v31:=Up
 t37:=HE
 a37:=S8
 z37:=OS
 v37:=zeroValue85
 t70:=fW
 a70:=isAgg84
 z70:=sizeOf84
 v70:=zeroValue84
 t72:=S5
 a72:=isAgg87
 z72:=sizeOf87
 v72:=zeroValue87
 t75:=underlying89
 a75:=isAgg89
 z75:=sizeOf89
 v75:=zeroValue89
 t76:=underlying90
 a76:=isAgg90
 z76:=sizeOf90
 v76:=zeroValue90
 t127:=underlying150
 a127:=isAgg150
 z127:=sizeOf150
 v127:=zeroValue150
 t164:=underlying206
 a164:=isAgg206
 z164:=sizeOf206
 v164:=zeroValue206}
theorem Tryz.Builder_Extra_156:Builder.Extra prog Tryz.lays156_ren:={
 sizeBuilder:=by kernel_rfl
 liesBuilder:=by kernel_rfl
 t5:=Mb
 a5:=T7
 z5:=It
 v5:=S7
 infoByte:=by kernel_rfl
 cellsByte:=by kernel_rfl
 sizeByte:=by kernel_rfl
 neB5:=by decide}
open Go.RowKit in
theorem Tryz.strings_Join(I o c:Nat)(xs:List ByteArray)(m:ByteArray)(w:World)(g:∀(j:Nat) x,xs[j]?=some x->w.cell? ⟨I,o+j,none⟩=some (.string x))(J:I<w.heap.size)(K:xs.length<=140737488355328)(B:xs.length<=c)(G:(Lib.join (xs.map (·.data.toList)) m.data.toList).length<=140737488355328):
 Calls prog 300 #[.slice (some ⟨I,o,none⟩) xs.length c,.string m] w fun e O=>e= .returned (.string ⟨(Lib.join (xs.map (·.data.toList)) m.data.toList).toArray⟩)/\Below w.heap.size w O:=Any.strings_Join Tryz.lays156 Tryz.Builder_Extra_156 I o c xs m w g J K B G
def Tryz.lays125_ren:Go.Shelf.Ren:=⟨fun|125=>100|128=>162|129=>163|n=>n,fun|46=>202|3=>3|51=>287|53=>289|4=>4|5=>5|9=>9|n=>n,fun|n=>n⟩
theorem Tryz.lays125:Go.Proofs.Lays.n125 prog Tryz.lays125_ren:={
 mixed:=by kernel_rfl
 f125:=func100.trans (congrArg some A6)
 f128:=func162.trans (congrArg some A6)
 f129:=func163.trans (congrArg some A6)
 t3:=C5
 a3:=AD
 z3:=A4
 v3:=H4
 t4:=Lk
 a4:=DM
 z4:=CH
 v4:=T0
 t5:=Mb
 a5:=T7
 z5:=It
 v5:=S7
 t9:=GP
 a9:=HQ
 z9:=Fi
 v9:=HT
 t46:=W5
 a46:=isAgg202
 z46:=fm
 v46:=fX
 t51:=Sp
 a51:=HW
 z51:=Fc
 v51:=fY
 t53:=W6
 a53:=ao
 z53:=dr
 v53:=ff}
theorem Tryz.bits_Len(x:Int)(w:World)(h0:0<=x)(g:x<=18446744073709551615):
 Calls prog 100 #[.int .u64 x] w fun e m=>e= .returned (I4 (Lib.bitLen x.toNat))/\m=w:=Any.bits_Len Tryz.lays125 x w h0 g
def Tryz.lays122_ren:Go.Shelf.Ren:=⟨fun|122=>193|215=>242|n=>n,fun|3=>3|4=>4|n=>n,fun|n=>n⟩
theorem Tryz.lays122:Go.Proofs.Lays.n122 prog Tryz.lays122_ren:={
 mixed:=by kernel_rfl
 f122:=func193.trans (congrArg some A6)
 f215:=func242.trans (congrArg some A6)
 t3:=C5
 a3:=AD
 z3:=A4
 v3:=H4
 t4:=Lk
 a4:=DM
 z4:=CH
 v4:=T0}
open Go.RowKit in
theorem Tryz.cmp_Compare_int(x y:Int)(w:World):
 Calls prog 193 #[I4 x,I4 y] w fun e g=>e= .returned (I4 (Lib.compareInt x y))/\g=w:=Any.cmp_Compare_int Tryz.lays122 x y w
def Tryz.laysM171_ren:Go.Shelf.Ren:=⟨fun|171=>27|243=>66|246=>110|283=>167|284=>168|285=>169|286=>170|129=>163|317=>226|318=>227|319=>228|320=>229|337=>261|338=>262|n=>n,fun|3=>3|9=>9|2=>2|4=>4|171=>291|0=>0|53=>289|37=>85|5=>5|173=>293|212=>336|51=>287|20=>20|213=>337|46=>202|232=>411|233=>412|n=>n,fun|17=>1|18=>2|19=>3|n=>n⟩
theorem Tryz.laysM171:Go.Proofs.LaysM.n171 prog Tryz.laysM171_ren:={
 mixed:=by kernel_rfl
 f129:=func163.trans (congrArg some A6)
 f171:=func27.trans (congrArg some A6)
 f243:=func66.trans (congrArg some A6)
 f246:=func110.trans (congrArg some A6)
 f283:=func167.trans (congrArg some A6)
 f284:=func168.trans (congrArg some A6)
 f285:=func169.trans (congrArg some A6)
 f286:=func170.trans (congrArg some A6)
 f317:=func226.trans (congrArg some A6)
 f318:=func227.trans (congrArg some A6)
 f319:=func228.trans (congrArg some A6)
 f320:=func229.trans (congrArg some A6)
 f337:=func261.trans (congrArg some A6)
 f338:=func262.trans (congrArg some A6)
 t0:=de
 a0:=isAgg0
 z0:=sizeOf0
 v0:=dj
 t2:=underlying2
 a2:=isAgg2
 z2:=sizeOf2
 v2:=zeroValue2
 t3:=C5
 a3:=AD
 z3:=A4
 v3:=H4
 t4:=Lk
 a4:=DM
 z4:=CH
 v4:=T0
 t5:=Mb
 a5:=T7
 z5:=It
 v5:=S7
 t9:=GP
 a9:=HQ
 z9:=Fi
 v9:=HT
 t20:=underlying20
 a20:=isAgg20
 z20:=sizeOf20
 v20:=zeroValue20
 t37:=HE
 a37:=S8
 z37:=OS
 v37:=zeroValue85
 t46:=W5
 a46:=isAgg202
 z46:=fm
 v46:=fX
 t51:=Sp
 a51:=HW
 z51:=Fc
 v51:=fY
 t53:=W6
 a53:=ao
 z53:=dr
 v53:=ff
 t171:=underlying291
 a171:=isAgg291
 z171:=sizeOf291
 v171:=zeroValue291
 t173:=underlying293
 a173:=isAgg293
 z173:=sizeOf293
 v173:=zeroValue293
 t212:=underlying336
 a212:=isAgg336
 z212:=sizeOf336
 v212:=zeroValue336
 t213:=underlying337
 a213:=isAgg337
 z213:=sizeOf337
 t232:=underlying411
 a232:=isAgg411
 z232:=sizeOf411
 v232:=zeroValue411
 t233:=underlying412
 a233:=isAgg412
 z233:=sizeOf412
 v233:=zeroValue412
 g17:=by kernel_rfl
 g18:=by kernel_rfl
 g19:=by kernel_rfl
 i0:=by kernel_rfl
 i2:=by kernel_rfl
 i3:=by kernel_rfl
 i4:=by kernel_rfl
 i5:=by kernel_rfl
 i9:=by kernel_rfl
 i20:=by kernel_rfl
 i37:=by kernel_rfl
 i46:=by kernel_rfl
 i51:=by kernel_rfl
 i53:=by kernel_rfl
 i171:=by kernel_rfl
 i173:=by kernel_rfl
 i212:=by kernel_rfl
 i232:=by kernel_rfl
 i233:=by kernel_rfl
 m17:=by kernel_rfl
 m18:=by kernel_rfl
 m19:=by kernel_rfl}
open Go.RowKit Go.Sort Go.Lib in
theorem Tryz.strconv_Itoa(n:Int)(h0:-9223372036854775808≤n)(h1:n≤9223372036854775807)(w:World)(htab:Lib.TabIs prog w "internal/strconv.uint64pow10" .u64 Lib.pow10Tab):
 Calls prog 27 #[I4 n] w fun e w'=>e= .returned (.string ⟨(Lib.itoa n).toArray⟩)/\∃k os,w'=grow (w.drewN k) os:=Any.strconv_Itoa Tryz.laysM171 n h0 h1 w htab
def Tryz.lays189_ren:Go.Shelf.Ren:=⟨fun|189=>151|125=>100|257=>219|128=>162|129=>163|294=>251|295=>252|296=>253|297=>254|298=>255|299=>256|216=>257|300=>258|301=>259|328=>296|329=>221|330=>222|331=>297|332=>298|215=>242|343=>315|n=>n,fun|28=>36|3=>3|46=>202|0=>0|51=>287|53=>289|4=>4|183=>279|182=>278|131=>284|5=>5|9=>9|218=>330|222=>96|228=>370|229=>371|n=>n,fun|n=>n⟩
theorem Tryz.lays189:Go.Proofs.Lays.n189 prog Tryz.lays189_ren:={
 mixed:=by kernel_rfl
 f125:=func100.trans (congrArg some A6)
 f128:=func162.trans (congrArg some A6)
 f129:=func163.trans (congrArg some A6)
 f189:=func151.trans (congrArg some A6)
 f215:=func242.trans (congrArg some A6)
 f216:=func257.trans (congrArg some A6)
 f257:=func219.trans (congrArg some A6)
 f294:=func251.trans (congrArg some A6)
 f295:=func252.trans (congrArg some A6)
 f296:=func253.trans (congrArg some A6)
 f297:=func254.trans (congrArg some A6)
 f298:=func255.trans (congrArg some A6)
 f299:=func256.trans (congrArg some A6)
 f300:=func258.trans (congrArg some A6)
 f301:=func259.trans (congrArg some A6)
 f328:=func296.trans (congrArg some A6)
 f329:=func221.trans (congrArg some A6)
 f330:=func222.trans (congrArg some A6)
 f331:=func297.trans (congrArg some A6)
 f332:=func298.trans (congrArg some A6)
 f343:=func315.trans (congrArg some A6)
 t0:=de
 a0:=isAgg0
 z0:=sizeOf0
 v0:=dj
 t3:=C5
 a3:=AD
 z3:=A4
 v3:=H4
 t4:=Lk
 a4:=DM
 z4:=CH
 v4:=T0
 t5:=Mb
 a5:=T7
 z5:=It
 v5:=S7
 t9:=GP
 a9:=HQ
 z9:=Fi
 v9:=HT
 t28:=Cl
 a28:=ar
 z28:=cQ
 v28:=zeroValue36
 t46:=W5
 a46:=isAgg202
 z46:=fm
 v46:=fX
 t51:=Sp
 a51:=HW
 z51:=Fc
 v51:=fY
 t53:=W6
 a53:=ao
 z53:=dr
 v53:=ff
 t131:=mC
 a131:=isAgg284
 z131:=sizeOf284
 v131:=mn
 t182:=mN
 a182:=isAgg278
 z182:=sizeOf278
 v182:=mu
 t183:=mS
 a183:=isAgg279
 z183:=sizeOf279
 v183:=mw
 t218:=mT
 a218:=isAgg330
 z218:=sizeOf330
 v218:=mx
 t222:=my
 a222:=isAgg96
 z222:=T5
 v222:=Wc
 t228:=mc
 a228:=isAgg370
 z228:=sizeOf370
 v228:=n4
 t229:=me
 a229:=isAgg371
 z229:=sizeOf371
 v229:=n5}
open Go.Sort Go.RowKit in
theorem Tryz.slices_Sort_int(g off cap:Nat)(zs:List Int)(w:World)(G:Holds (Value.int .i64) w g off zs.toArray)(m:g<w.heap.size)(B:zs.length<4611686018427387904):
 Calls prog 151 #[.slice (some ⟨g,off,none⟩) zs.length cap] w fun e I=>
  e= .returned (.tuple #[])/\∃n os,I=grow (putRow (Value.int .i64) (Sort.ahead w n) g off (zs.mergeSort fun x y=>decide (x<=y)).toArray) os:=Any.slices_Sort_int Tryz.lays189 g off cap zs w G m B
def Tryz.lays190_ren:Go.Shelf.Ren:=⟨fun|190=>47|125=>100|258=>99|128=>162|129=>163|302=>153|303=>154|304=>155|305=>156|306=>157|307=>158|308=>159|309=>160|310=>161|333=>220|329=>221|330=>222|334=>223|335=>224|336=>225|344=>260|n=>n,fun|31=>45|9=>9|3=>3|46=>202|0=>0|51=>287|53=>289|4=>4|183=>279|182=>278|131=>284|5=>5|218=>330|222=>96|228=>370|229=>371|n=>n,fun|n=>n⟩
theorem Tryz.lays190:Go.Proofs.Lays.n190 prog Tryz.lays190_ren:={
 mixed:=by kernel_rfl
 f125:=func100.trans (congrArg some A6)
 f128:=func162.trans (congrArg some A6)
 f129:=func163.trans (congrArg some A6)
 f190:=func47.trans (congrArg some A6)
 f258:=func99.trans (congrArg some A6)
 f302:=func153.trans (congrArg some A6)
 f303:=func154.trans (congrArg some A6)
 f304:=func155.trans (congrArg some A6)
 f305:=func156.trans (congrArg some A6)
 f306:=func157.trans (congrArg some A6)
 f307:=func158.trans (congrArg some A6)
 f308:=func159.trans (congrArg some A6)
 f309:=func160.trans (congrArg some A6)
 f310:=func161.trans (congrArg some A6)
 f329:=func221.trans (congrArg some A6)
 f330:=func222.trans (congrArg some A6)
 f333:=func220.trans (congrArg some A6)
 f334:=func223.trans (congrArg some A6)
 f335:=func224.trans (congrArg some A6)
 f336:=func225.trans (congrArg some A6)
 f344:=func260.trans (congrArg some A6)
 t0:=de
 a0:=isAgg0
 z0:=sizeOf0
 v0:=dj
 t3:=C5
 a3:=AD
 z3:=A4
 v3:=H4
 t4:=Lk
 a4:=DM
 z4:=CH
 v4:=T0
 t5:=Mb
 a5:=T7
 z5:=It
 v5:=S7
 t9:=GP
 a9:=HQ
 z9:=Fi
 v9:=HT
 t31:=D2
 a31:=Hc
 z31:=HB
 v31:=Up
 t46:=W5
 a46:=isAgg202
 z46:=fm
 v46:=fX
 t51:=Sp
 a51:=HW
 z51:=Fc
 v51:=fY
 t53:=W6
 a53:=ao
 z53:=dr
 v53:=ff
 t131:=mC
 a131:=isAgg284
 z131:=sizeOf284
 v131:=mn
 t182:=mN
 a182:=isAgg278
 z182:=sizeOf278
 v182:=mu
 t183:=mS
 a183:=isAgg279
 z183:=sizeOf279
 v183:=mw
 t218:=mT
 a218:=isAgg330
 z218:=sizeOf330
 v218:=mx
 t222:=my
 a222:=isAgg96
 z222:=T5
 v222:=Wc
 t228:=mc
 a228:=isAgg370
 z228:=sizeOf370
 v228:=n4
 t229:=me
 a229:=isAgg371
 z229:=sizeOf371
 v229:=n5}
open Go.Sort Go.RowKit in
theorem Tryz.slices_Sort_string(g off cap:Nat)(B:List (List UInt8))(w:World)(I:Holds encStr w g off B.toArray)(m:g<w.heap.size)(G:B.length<4611686018427387904):
 Calls prog 47 #[.slice (some ⟨g,off,none⟩) B.length cap] w fun e J=>
  e= .returned (.tuple #[])/\∃n os,J=grow (putRow encStr (Sort.ahead w n) g off (B.mergeSort fun x y=>decide (x<=y)).toArray) os:=Any.slices_Sort_string Tryz.lays190 g off cap B w I m G
def Tryz.laysNm217_ren:Go.Shelf.Ren:=⟨fun|17=>189|n=>n,fun|24=>45|9=>9|3=>3|4=>4|0=>0|n=>n,fun|n=>n⟩
theorem Tryz.laysNm217:Go.Proofs.Lays2.n17 prog Tryz.laysNm217_ren:={
 mixed:=by kernel_rfl
 f17:=func189.trans (congrArg some A6)
 t0:=de
 a0:=isAgg0
 z0:=sizeOf0
 v0:=dj
 t3:=C5
 a3:=AD
 z3:=A4
 v3:=H4
 t4:=Lk
 a4:=DM
 z4:=CH
 v4:=T0
 t9:=GP
 a9:=HQ
 z9:=Fi
 v9:=HT
 t24:=D2
 a24:=Hc
 z24:=HB
 v24:=Up}
open Go.RowKit Go.Lib Go.Sort in
theorem Tryz.slices_Reverse_string(g off cap:Nat)(zs:List (List UInt8))(w:World)(B:Holds encStr w g off zs.toArray)(m:zs.length<=9223372036854775807):
 Calls prog 189 #[.slice (some ⟨g,off,none⟩) zs.length cap] w fun e G=>e= .returned (.tuple #[])/\∃n,G=putRow encStr (Sort.ahead w n) g off zs.reverse.toArray:=Any.slices_Reverse_string Tryz.laysNm217 g off cap zs w B m
open Go.RowKit Go.Lib Go.Sort in
theorem Tryz.slices_Reverse_string_empty(a:Option Addr)(cap:Nat)(w:World):
 Calls prog 189 #[.slice a 0 cap] w fun e g=>e= .returned (.tuple #[])/\g=w:=Any.slices_Reverse_string_empty Tryz.laysNm217 a cap w
open Go.RowKit Go.Sort in
theorem Tryz.slices_Sort_string_none(p:Option Addr)(cap:Nat)(w:World):
 Calls prog 47 #[.slice p 0 cap] w fun e g=>e= .returned (.tuple #[])/\g=w:=Any.slices_Sort_string_none Tryz.lays190 p cap w
open Go.RowKit Go.Sort in
theorem Tryz.slices_Sort_int_none(p:Option Addr)(cap:Nat)(w:World):
 Calls prog 151 #[.slice p 0 cap] w fun e g=>e= .returned (.tuple #[])/\g=w:=Any.slices_Sort_int_none Tryz.lays189 p cap w
end Go.Proofs
namespace Go.Proofs.YtfhjaegddfehhaaGreatDoor
open Go.Proofs.Tryz
open Go Go.RowKit Gw
set_option maxRecDepth 100000
attribute [local irreducible] Gw.At Gw.Nx Gw.Ops
def GH(l:List UInt8):Value:= .string (str l)
theorem RJ(a b:List UInt8):str a++str b=str (a++b):=by
 apply ByteArray.ext;simp [str]
theorem Gq(a:List UInt8):(str a).size=a.length:=by simp [str,ByteArray.size]
theorem La(a:List UInt8):(str a).data.toList=a:=by simp [str]
theorem ZL(xs:List (List UInt8)):Lib.join xs []=xs.flatten:=by
 unfold Lib.join;induction xs with
 |nil=>rfl
 |cons x r ih=>cases r with
  |nil=>simp
  |cons y r=>rw [List.intercalate_cons_cons];rw [ih];simp
variable{o:Nat}
theorem y8{w:World}{b:Nat}{c:Array Value}{T:TypeId}{z:Nat×Nat}{cs:List Value}(g:w.heap[b]?=some (.cells c T z))(h:C8 c o cs)(j:Nat)(v:Value)(m:cs[j]?=some v):w.cell? ⟨b,o+j,none⟩=some v:=by
 have:=H6 g h j v m;rcases PB j with rfl|h0
 · simpa [Addr.add]using this
 · simpa [Addr.add,Nat.ne_of_gt h0]using this
theorem mH(g o cap:Nat)(cs:Array Value)(T:TypeId)(z:Nat×Nat)(xs:List (List UInt8))(hc:C8 cs o (xs.map GH))(J:xs.length<=140737488355328)(m:xs.length<=cap)(B:xs.flatten.length<=140737488355328):
 BH prog 300 #[.slice (some ⟨g,o,none⟩) xs.length cap,.string (str [])] [[(g,.cells cs T z)]] (.string (str xs.flatten)):=
 Rt (Rl:=fun v=>v= .string (str xs.flatten)) (fun w K=>by
  have G:=K (g,.cells cs T z) B0;have h:=Tryz.strings_Join g o cap (xs.map str) (str []) w (fun j x hx=>by
   refine y8 G hc j _ ?_;rw [DO]at hx⊢;cases h1:xs[j]?with
   |none=>rw [h1]at hx;cases hx
   |some y=>rw [h1]at hx;cases hx;rfl) (by
    rcases E0 g w.heap.size with h1|h1
    · exact h1
    · rw [I0 h1]at G;cases G) (by simpa using J) (by simpa using m) (by
    rw [Kf];have:(xs.map ((fun s:ByteArray=>s.data.toList)∘str))=xs:=by simp [str,lA]
    rw [this,La,ZL];exact B)
  rw [B4]at h;refine h.mono ?_;rintro e O ⟨rfl,I⟩;refine ⟨_,V,?_,I⟩;rw [Kf];have:(xs.map ((fun s:ByteArray=>s.data.toList)∘str))=xs:=by simp [str,lA]
  rw [this,La,ZL];rfl) (fun v hv=>⟨hv,rfl⟩)
def rh(head rec:List UInt8):List UInt8:=sha (2::head++rec)
theorem iU(l:List UInt8)(B:l.length<=140737488355000)(g:TypeId)(m:Nat×Nat):BH prog 239 #[.string (str l)] [[(4,.cells (Et.map Cs).toArray g m)]] (.string (str (sha l))):=by
 have:=oW (str l) (by rw [Gq];exact B) g m;rw [La]at this;exact this
theorem M5(B o cap I:Nat)(cs:Array Value)(T O:TypeId)(z W:Nat×Nat)(xs:List (List UInt8))(m:List UInt8)(hc:C8 cs o (xs.map GH))(U:xs.length<=140737488355328)(g:xs.length<=cap)(J:m.length+xs.flatten.length<=140737488355000)(G:TypeId)(K:Nat×Nat):
 BH prog 299 #[.slice (some ⟨B,o,none⟩) xs.length cap,I5 I] [[(B,.cells cs T z)],[(I,.cells #[GH m] O W)],[(4,.cells (Et.map Cs).toArray G K)]] (.string (str (sha (m++xs.flatten)))):=by
 refine Ka func299 V ntmps299 V ?_;intro u R;unfold GH;refine Zb [0,1] ?_;refine A0<|A3 Y<|Zq<|Az (n:=6) (0::0::2::7::15::31::[]) 20 A6 A6 V<|B2 0 V HQ Y<|A2 1 V (AP Y)<|Zz (l:=[2])<|B1 [true] [(0,(_,_))] V rfl (Zu [_,_] Y call300 Y V (mH B o cap cs T z xs hc U g A1)) ?_ (fun _ _ h=>h.elim) Ai;rintro _ _ ⟨rfl,rfl⟩;refine B6<|A2 3 rfl (Mk Y Y (by rw [Gq,Gq];omega))<|Yw 4 31 rfl (Zu [_] Y call239 Y rfl ((RJ m xs.flatten)▸iU (m++xs.flatten) (by rw [B7];omega) G K))<|CT<|A2 5 V (Av Y)<|Ag<|Zx<|AJ<|AO V results299 Y (by exact ⟨V,V⟩)
theorem Qm(m:ByteArray):Ba prog 265 #[.string m] [] (fun r H'=>∃b,r= .func (.func 299) #[] #[I5 b]/\H'=[[(b,.cells #[.string m] 9 (0,0))]]):=by
 refine Se func265 ntmps265 [0] ?_;intro u R;refine A0<|Ze (Bx #[_])<|AE fun g=>A3 Y<|A0<|Zv (Bg (vs:=[]) (us:=[_]) Y Y)<|A3 Y<|AJ<|AO V results265 Y (by exact ⟨_,V,V⟩)
def RB(z:Nat):List (Nat×Bool):=if h:z<128 then [(z,true)]else(z%128,false)::RB (z/128)
termination_by z
decreasing_by omega
theorem Kr(z:Nat):RB z=(z%128,decide (z<128))::(if z<128 then []else RB (z/128)):=by
 rw [RB];by_cases h:z<128;· simp [h,cV h]
 · simp [h]
theorem xk(z:Nat):∀x∈RB z,x.1<128:=by
 induction z using Nat.strongRecOn with
 |_ z ih=>
  intro x hx;rw [Kr]at hx;rcases D4.1 hx with rfl|hx
  · exact er _ AH
  · by_cases h:z<128
    · rw [AM h]at hx;cases hx
    · rw [AK h]at hx;exact ih (z/128) A1 x hx
theorem tq(z k:Nat)(h:z<128^(k+1)):(RB z).length<=k+1:=by
 induction k generalizing z with
 |zero=>rw [Kr,AM (by simpa using h)];simp
 |succ k ih=>
  rw [Kr];by_cases g:z<128;· rw [AM g];simp
  · rw [AK g,DG]
    have:z/128<128^(k+1):=by
     rw [eo]at h;exact nv (by rw [mA];exact h)
    have:=ih _ this;omega
def gb(x:Nat×Bool):UInt8:=UInt8.ofNat (if x.2 then x.1 else x.1+128)
theorem rL(x:Nat×Bool)(h:x.1<128):u8v (gb x)= .int .u8 ((if x.2 then x.1 else x.1+128:Nat):Int):=by
 unfold u8v gb;rw [UInt8.toNat_ofNat',cV (by split<;>omega)]
def zz(n:Int):Nat:=(if n<0 then-(2*n) -1 else 2*n).toNat
def U2(n:Int):List UInt8:=(RB (zz n)).map gb
theorem yR(n:Int)(g:-4611686018427387903<=n)(h2:n<=4611686018427387903):zz n<9223372036854775808:=by unfold zz;split<;>omega
theorem uT(n:Int):0<(U2 n).length:=by unfold U2;rw [Kr];simp
theorem PP(n:Int)(g:-4611686018427387903<=n)(h2:n<=4611686018427387903):(U2 n).length<=9:=by
 unfold U2;rw [B4];exact tq (zz n) 8 (by have:=yR n g h2;omega)
theorem rr(y:Nat)(h:y<18446744073709551616):bits .and .u64 (y:Int) 127=((y%128:Nat):Int):=by
 have:=u64_and_nat y 127 h AH;rw [nat_mask7]at this;exact this
theorem tf(g:Nat)(h:g<128):bits .or .u8 (g:Int) 128=((g+128:Nat):Int):=by
 have:=u8_or_nat g 128 A1 AH;rw [Nat.or_comm,nat_join 7 128 g AH h,Nat.add_comm]at this;exact this
theorem oH(a:Nat)(h:a<18446744073709551616):a^^^18446744073709551615=18446744073709551615 -a:=by
 have g:BitVec.ofNat 64 a^^^BitVec.allOnes 64= ~~~BitVec.ofNat 64 a:=BitVec.xor_allOnes;have h2:=congrArg BitVec.toNat g
 rw [BitVec.toNat_xor,BitVec.toNat_not,BitVec.toNat_ofNat,cV h]at h2;exact h2
theorem yo(n:Int)(B:-4611686018427387903<=n)(h2:n<=4611686018427387903):bits .xor .u64 (IntKind.u64.wrap (IntKind.u64.wrap n*2^(1:Int).toNat)) (IntKind.u64.wrap (n/2^(63:Int).toNat))=(zz n:Int):=by
 rw [IntKind.wrap_u64,IntKind.wrap_u64,IntKind.wrap_u64];rw [show(2:Int)^(1:Int).toNat=2 from rfl,show(2:Int)^(63:Int).toNat=9223372036854775808 from rfl];by_cases h:n<0
 · obtain ⟨m,g⟩:∃m:Nat,n=-(m:Int):=⟨n.natAbs,by omega⟩
   have e1:n%18446744073709551616*2%18446744073709551616=((18446744073709551616 -2*m:Nat):Int):=by omega
   have e2:n/9223372036854775808%18446744073709551616=((18446744073709551615:Nat):Int):=by omega
   rw [e1,e2,u64_xor_nat _ _ A1 A1,oH _ A1];unfold zz;rw [AM h];omega
 · obtain ⟨m,g⟩:∃m:Nat,n=(m:Int):=⟨n.natAbs,by omega⟩
   have e1:n%18446744073709551616*2%18446744073709551616=((2*m:Nat):Int):=by omega
   have e2:n/9223372036854775808%18446744073709551616=((0:Nat):Int):=by omega
   rw [e1,e2,u64_xor_nat _ _ A1 A1,Nat.xor_zero];unfold zz;rw [AK h];omega
theorem BU{P:Program}{cx:Cx}{c:Code}{Q:Exit->Act->World->Prop}{env:Env}{H:Hp}(h:At P cx c Q env ([]::H)):At P cx c Q env H:=Xq (H':=[]::H) rfl h
theorem Vk{α:Type}{l pre g:List α}{x:α}(h:l=pre++x::g):x∈l:=by rw [h];simp
theorem aB(I z:Nat)(hz:z<18446744073709551616):
 UI prog 264 #[I5 I] [[(I,.cells #[.int .u64 (z:Int)] 289 (0,0))]] (fun x=>#[.int .u8 (x.1:Int),.bool x.2]) (RB z):=by
 intro l J hy s K;refine Se func264 ntmps264 [0,1] ?_;intro u R;refine AR<|Zb [0,1] ?_;refine BA (e0:=[]) (fun m e H=>∃(pre:List (Nat×Bool)) (y:Nat) (s:List AA),m=0+y/\(RB z=pre++RB y/\y<18446744073709551616/\J pre s)/\e=[]/\H=[[(I,.cells #[.int .u64 (y:Int)] 289 (0,0))],s]) (by exact ⟨[],z,s,V,⟨V,hz,K⟩,V,V⟩) Wp ?_;rintro _ _ _ ⟨pre,y,s,rfl,⟨g,G,K⟩,rfl,rfl⟩;refine AR<|A0<|Zl ao Y ?_;refine Zv (Au (n:=128) Y Y)<|A3 Y<|Zq<|Zq ?_;have U:=hy pre (y%128,decide (y<128)) (if y<128 then []else RB (y/128)) s (by rw [g,<-Kr]) K
 refine Zg<|Zm Y<|Zl ao Y ?_;refine Kl (rE (m:=(y:Int)) (n:=127) Y Y (rr y G)) V rfl ?_;refine Bb (Ua W6 Mb Y A1)<|Zm Y<|Ze (GZ (vs:=[_,_]) Y Y (U) Wp) ?_;rintro _ _ ⟨_,⟨X,rfl,rfl,B⟩,rfl⟩;refine Zv (Br Y)<|Zm Y<|Af (t:=13) Y V (fun W=>by cases W)<|fun W=>Zf Y Y<|Zv (AL Y Y)<|Z0<|Zn [0,1,15] ?_;refine Zx<|Aq Y (fun O=>?_) (fun O=>?_);·
  refine AJ<|Zt<|Ad<|Zt<|Ad ?_;refine Cw V results264 (by
   exact ⟨X,V,by
    have e:RB z=pre++[(y%128,decide (y<128))]:=by rw [g,Kr y,AM O]
    rw [e];exact B⟩)
 refine AC<|Zx<|Zg<|Zl ao Y ?_;refine Bb (Q8 (n:=7) Y Y (by first|decide|(simp [IntKind.bits];done)|(simp [IntKind.bits];omega)))<|Xe (Zs dr Y Y rfl) ?_;refine Z0<|A8<|Zn [0,1] ?_;refine Ab (e':=[]) (by exact ⟨pre++[(y%128,decide (y<128))],y/2^7,X,rfl,⟨by rw [g,Kr y,AK O];simp,by omega,B⟩,rfl,rfl⟩)
theorem aA(z:Int):Ba prog 236 #[.int .u64 z] [] (fun r H'=>∃b,r= .func (.func 264) #[] #[I5 b]/\H'=[[(b,.cells #[.int .u64 z] 289 (0,0))]]):=by
 refine Se func236 ntmps236 [0] ?_;intro u R;refine A0<|Ze (Bx #[_])<|AE fun g=>A3 Y<|A0<|Zv (Bg (vs:=[]) (us:=[_]) Y Y)<|A3 Y<|AJ<|AO V results236 Y (by exact ⟨_,V,V⟩)
theorem Qc(n:Int)(Z:-4611686018427387903<=n)(h2:n<=4611686018427387903):BH prog 186 #[I4 n] [] (.tuple #[.string (str (U2 n)),I4 0]):=by
 have gy:=mL;have gB:=yR n Z h2
 have K:=PP n Z h2;unfold U2 at K;rw [B4]at K;refine DL func186 V ntmps186 V ?_;intro u R;refine Zb [0] ?_;refine A0<|Za Y<|A3 Y<|Zq<|A0<|Zm Y<|Zv (Dv Y Y)<|Zm Y<|Aj (t:=9) Y V (fun ax=>by omega)<|fun ax=>Zf Y Y<|Yg (Ev Y Y)<|Zv (AL Y Y)<|A5<|Aq Y (fun bg=>by omega)<|fun bg=>AC<|Zx<|A0<|Ze (Al zeroValue85 #[_])<|AE fun bo=>A5<|Zq<|A0<|Zm Y<|Zv (Es C5 W6 Y V) ?_
 (refine Bb (iy Y Y ?_ ?_ rfl) ?_;(focus (first|decide|omega|(simp [IntKind.bits];done)|(simp [IntKind.bits];omega)));(focus (first|decide|omega|(simp [IntKind.bits];done)|(simp [IntKind.bits];omega))))
 refine Zm Y ?_
 (refine Bb (qd Y Y ?_ ?_ rfl) ?_;(focus (first|decide|omega|(simp [IntKind.bits];done)|(simp [IntKind.bits];omega)));(focus (first|decide|omega|(simp [IntKind.bits];done)|(simp [IntKind.bits];omega))))
 refine Zv (Es C5 W6 Y V)<|Kl (yY Y Y (yo n Z h2)) V rfl ?_;refine Zc [_] Y call236 Y V (aA _) ?_;rintro _ _ ⟨_,⟨bz,rfl,rfl⟩,rfl⟩;refine Z0<|Zn [4,20] ?_;refine Zx<|AR<|Zb [4,20] ?_;refine BU<|Qx (H0:=_) (R:=_) (I:=(fun pre H=>∃v s,H=[[(bo,.cells #[v] 85 (0,0))],s]/\Row 5 v ((pre.map gb).map u8v) s)) (asg:=fun x=>[(6,.bool x.2),(5,.int .u8 (x.1:Int)),(22,.bool x.2),(21,.int .u8 (x.1:Int))]) V Y call264 (aB bz (zz n) A1) Y V Wp (⟨_,[],V,Fz _⟩) ?ha_2 ?hbd_2 ?hk_2
 case ha_2=>
  intro _ x _ _;refine A0<|A3 Y<|Zg<|Za Y<|Z0 ?_;exact rQ
 case hbd_2=>
  intro l pre x cO u H1 R1 X hI;obtain ⟨v,s,rfl,U⟩:=hI;have W:=xk _ x (Vk X)
  have O:=rL x W;have bn:=congrArg List.length X
  rw [B7,DG]at bn;obtain ⟨gv,cv,rfl⟩:=U.form;refine AR<|Zq<|A0<|Zm Y<|Zv (Br Y)<|A5<|AX Y (fun B=>?_) (fun B=>?_);·
   have G:x.2=false:=by simpa using B
   refine Zg<|Zm Y<|Kl (pB (m:=(x.1:Int)) (n:=128) Y Y (tf x.1 W)) V rfl ?_;refine A3 Y<|Zg<|Zl S8 Y ?_;refine Zm Y<|Ze (Ah (vs:=[_]) (cs:=[_]) HE It S7 Y V rfl V rfl V)<|AE fun b2=>Ze (ET (by_:=1) (news:=[_]) HE (V:Tryz.prog.info? 5=some Tryz.t5) V rfl V rfl Y U Y Wo Wh AN V Fm AH (by(simp only [B4];omega)) (by(simp only [B4];omega))) ?_;rintro _ _ ⟨sb,g,rfl⟩;obtain ⟨gb,cb,rfl⟩:=g.form;refine Xe (Zs OS Y Y V) ?_;refine Z0<|A8<|F7 V (by
    exact ⟨_,_,V,by
     rw [BW,BW,MD,MD,O,G];exact g⟩)
  have G:x.2=true:=by simpa using B
  refine AC<|Zx<|Zg<|Zl S8 Y ?_;refine Zm Y<|Ze (Ah (vs:=[_]) (cs:=[_]) HE It S7 Y V rfl V rfl V)<|AE fun b4=>Ze (ET (by_:=1) (news:=[_]) HE (V:Tryz.prog.info? 5=some Tryz.t5) V rfl V rfl Y U Y Wo Wh AN V Fm AH (by(simp only [B4];omega)) (by(simp only [B4];omega))) ?_;rintro _ _ ⟨sb,g,rfl⟩;obtain ⟨gb,cb,rfl⟩:=g.form;refine Xe (Zs OS Y Y V) ?_;refine Z0<|A8<|F7 V (by
   exact ⟨_,_,V,by
    rw [BW,BW,MD,MD,O,G];exact g⟩)
 intro D1 H2 af;obtain ⟨v,s,rfl,U⟩:=af;have J:=uT n
 unfold U2 at J;obtain ⟨gv,cv,cur,zv,rfl,rfl,gq,d9,ek,cu,gm⟩:=U.some (by rw [B4];exact J);refine Zn [4] ?_;refine A8<|Zx<|A0<|Zl S8 Y ?_;refine Zo Wh (KG HE Mb GP Y (by exact ⟨cu,by simp⟩)) ?_;refine Za Y<|A3 Y<|AJ<|GN V (qC results186 Y Y) Wo (by exact ⟨V,V⟩)
structure AV where
 t:Int
 k:Int
 v:V3
deriving DecidableEq
abbrev AV.A58(c:AV):Array Go.Value:=#[I4 c.t,I4 c.k,I4 c.v.a,I4 c.v.b,I4 c.v.c]
structure Chg where
 t:Int
 k:Int
 had:Bool
 o:V3
 has:Bool
 n:V3
deriving DecidableEq
abbrev Chg.A57(c:Chg):Array Go.Value:=#[I4 c.t,I4 c.k,.bool c.had,I4 c.o.a,I4 c.o.b,I4 c.o.c,.bool c.has,I4 c.n.a,I4 c.n.b,I4 c.n.c]
def AV.zero:AV:=⟨0,0,V3.zero⟩
def AV.ok(r:AV):Prop:=r.v.ok/\(0<=r.t/\r.t<=3)/\(1<=r.k/\r.k<=1000000)
instance(r:AV):Decidable r.ok:=inferInstanceAs(Decidable (_/\_/\_))
def Chg.before(c:Chg):AV:=if c.had then⟨c.t,c.k,c.o⟩else AV.zero
def Chg.after(c:Chg):AV:=if c.has then⟨c.t,c.k,c.n⟩else AV.zero
variable{c:Chg}
theorem PU(h:c.had=true):c.before=⟨c.t,c.k,c.o⟩:=AM h
theorem uq(h:c.had=false):c.before=AV.zero:=AK (by rw [h];decide)
theorem L9(h:c.has=true):c.after=⟨c.t,c.k,c.n⟩:=AM h
theorem yN(h:c.has=false):c.after=AV.zero:=AK (by rw [h];decide)
def Chg.ok(c:Chg):Prop:=¬((¬c.had/\¬c.has)\/(c.had/\c.has/\c.o=c.n))/\¬((c.had/\¬c.before.ok)\/(c.has/\¬c.after.ok))/\(c.had\/c.o=V3.zero)/\(c.has\/c.n=V3.zero)
instance(c:Chg):Decidable c.ok:=inferInstanceAs(Decidable (_/\_/\_/\_))
theorem K7(n lo hi:Int):BH prog 107 #[I4 n,I4 lo,I4 hi] [] (.bool (decide (lo<=n/\n<=hi))):=by
 refine Se func107 ntmps107 [0,1,2] ?_;intro u R;refine A0<|A3 Y<|A0<|Zm Y<|Zm Y<|Zv (Ha Y Y)<|Zm Y<|Aj (t:=10) Y V (fun g=>?_) (fun g=>?_);·
  refine Zf Y Y<|Zf Y Y<|Yg (NM Y Y)<|Zv (AQ Y Y)<|A3 Y<|AJ<|AO V results107 Y (by exact ⟨by simp [g],V⟩)
 refine A7 Y V<|A7 Y V<|A7 Y V<|Zv (AL Y Y)<|A3 Y<|AJ<|AO V results107 Y (by exact ⟨by simp [g],V⟩)
theorem kU(c:Chg):BH prog 165 #[.agg c.A57] [] (.tuple #[.agg c.before.A58,.bool c.had]):=by
 refine Se func165 ntmps165 [0] ?_;intro u R;refine A0<|Ze (Bx #[_,_,_,_,_,_,_,_,_,_])<|AE fun m=>Ze (Al DS #[_,_,_,_,_])<|AE fun B=>A3 Y<|Zq<|A0<|Zh 2 B8 V rfl CH Y<|Zl DM Y ?_;refine Zv (Br Y)<|A5<|AX Y (fun g=>?_) (fun g=>?_);·
  refine A0<|Zv (BM (vs:=[]) (cs:=#[_,_,_,_,_]) Y (AZ (pl:=#[(0,1),(1,1),(2,3)]) DS FF (fun _=>by kernel_rfl) V))<|Xe (Xw AW _) ?_;refine A3 Y<|AJ<|Zt<|Bj V results165 Y Wh (Am CI AW Wn (V)) Y (by simp only [eR,S3,cn]at g;exact ⟨by(rw [uq g,g];rfl),V⟩)
 refine AC<|Zx<|A0<|Zh 0 B8 V rfl A4 Y<|Zl AD Y ?_;refine Zh 1 B8 V rfl A4 Y<|Zl AD Y ?_;refine Zh 3 B8 V rfl D3 Y<|Zo Wh (Pa #[_,_,_] GS D3 Y) ?_;refine Zv (BM (vs:=[(0,_),(1,_),(2,_)]) (cs:=#[_,_,_,_,_]) Y (AZ (pl:=#[(0,1),(1,1),(2,3)]) DS FF (fun _=>by kernel_rfl) rfl))<|Xe (BL AW Y Y (by(simp [Value.oneCell',Value.cells];done)) Wu AN E6 Wn (by exact BB _)) ?_;refine AG Y<|Zn [2,3] ?_;refine Zx<|AJ<|Bj V results165 Y Wh (Am CI AW Wn (V)) Y (by simp only [eR,S3,cn]at g;exact ⟨by(rw [PU g,g];rfl),V⟩)
theorem Sa(c:Chg):BH prog 59 #[.agg c.A57] [] (.tuple #[.agg c.after.A58,.bool c.has]):=by
 refine Se func59 ntmps59 [0] ?_;intro u R;refine A0<|Ze (Bx #[_,_,_,_,_,_,_,_,_,_])<|AE fun m=>Ze (Al DS #[_,_,_,_,_])<|AE fun B=>A3 Y<|Zq<|A0<|Zh 6 B8 V rfl CH Y<|Zl DM Y ?_;refine Zv (Br Y)<|A5<|AX Y (fun g=>?_) (fun g=>?_);·
  refine A0<|Zv (BM (vs:=[]) (cs:=#[_,_,_,_,_]) Y (AZ (pl:=#[(0,1),(1,1),(2,3)]) DS FF (fun _=>by kernel_rfl) V))<|Xe (Xw AW _) ?_;refine A3 Y<|AJ<|Zt<|Bj V results59 Y Wh (Am CI AW Wn (V)) Y (by simp only [eR,S3,cn]at g;exact ⟨by(rw [yN g,g];rfl),V⟩)
 refine AC<|Zx<|A0<|Zh 0 B8 V rfl A4 Y<|Zl AD Y ?_;refine Zh 1 B8 V rfl A4 Y<|Zl AD Y ?_;refine Zh 7 B8 V rfl D3 Y<|Zo Wh (Pa #[_,_,_] GS D3 Y) ?_;refine Zv (BM (vs:=[(0,_),(1,_),(2,_)]) (cs:=#[_,_,_,_,_]) Y (AZ (pl:=#[(0,1),(1,1),(2,3)]) DS FF (fun _=>by kernel_rfl) rfl))<|Xe (BL AW Y Y (by(simp [Value.oneCell',Value.cells];done)) Wu AN E6 Wn (by exact BB _)) ?_;refine AG Y<|Zn [2,3] ?_;refine Zx<|AJ<|Bj V results59 Y Wh (Am CI AW Wn (V)) Y (by simp only [eR,S3,cn]at g;exact ⟨by(rw [L9 g,g];rfl),V⟩)
theorem SY(r:AV):BH prog 166 #[.agg r.A58] [] (.bool (decide r.ok)):=by
 refine Se func166 ntmps166 [0] ?_;intro u R;refine A0<|Ze (Bx #[_,_,_,_,_])<|AE fun K=>A3 Y<|Zq<|A0<|A3 Y<|AR<|Zb [3,1] ?_;refine BA (e0:=[(3,_)]) (fun m e H=>∃(i:Nat),m=3 -i/\(i<=3/\(∀j,j<i->inV (r.v.get j)))/\e=[(3,I4 (i:Int))]/\H=[]) (by exact ⟨0,V,⟨by omega,by intro j J;omega⟩,V,V⟩) Wp ?_;rintro _ _ _ ⟨i,rfl,⟨hi,g⟩,rfl,rfl⟩;refine Zq<|A0<|Zm Y<|Zv (Au (n:=3) Y Y)<|A5<|Aq Y (fun G=>?_) (fun G=>?_);·
  refine AC<|Zx<|Zq<|AR<|A0<|Zm Y<|Zh 2 FF V rfl D3 Y ?_;refine Bb (Cr HP A4 Y Y A1)<|Zl AD Y (hv:=by rw [N2];exact tA _ _ r.v _ A1) ?_;refine Xr [_,_,_] Y call107 Y V (K7 _ _ _) ?_;refine Zv (D7 Y)<|A5<|Aq Y (fun B=>?_) (fun B=>?_);·
   refine A0<|A3 Y<|AJ<|Ad<|Zt<|Zt<|Ad<|Zt<|AO rfl results166 Y (by exact ⟨by rw [CN (fun h9:r.ok=>B (oQ.1 h9.1 i A1))],rfl⟩)
  refine AC<|A8<|Zx<|Zg<|Zm Y<|Ya (n:=1) Y Y<|AG Y<|Zn [3,1] ?_;refine Ab (e':=[(3,_)]) (by exact ⟨i+1,V,⟨by omega,wC g (HI.1 B)⟩,V,V⟩)
 refine Ay<|Zt<|Zt<|AU<|Zx<|A0<|Zh 0 FF V rfl A4 Y<|Zl AD Y ?_;refine Xr [_,_,_] Y call107 Y V (K7 _ _ _) ?_;refine Zm Y<|Aj (t:=17) Y V (fun I=>?_) (fun I=>?_);·
  refine Yf 1 FF V rfl A4 Y<|Yl AD Y ?_;refine Xr [_,_,_] Y call107 Y V (K7 _ _ _) ?_;refine Zv (AQ Y Y)<|A3 Y<|AJ<|AO V results166 Y (by have hv:r.v.ok:=oQ.2 (fun j J=>g j A1);exact ⟨by simp only [AV.ok,hv,I,V2,fz,X1],V⟩)
 refine A7 Y V<|A7 Y V<|A7 Y V<|Zv (AL Y Y)<|A3 Y<|AJ<|AO V results166 Y (by have hv:r.v.ok:=oQ.2 (fun j J=>g j A1);exact ⟨by simp only [AV.ok,hv,I,V2,fz,X1],V⟩)
theorem kT(c:Chg):BH prog 108 #[.agg c.A57] [] (.bool (decide c.ok)):=by
 refine Se func108 ntmps108 [0] ?_;intro u R;refine A0<|Ze (Bx #[_,_,_,_,_,_,_,_,_,_])<|AE fun b1=>A3 Y<|A0<|Zo Wh (Pa #[_,_,_,_,_,_,_,_,_,_] Fk C1 Y)<|Xr [_] Y call165 Y V (kU c)<|Zm Y<|Zd Y V<|Zd Y V<|Ze (Al DS #[_,_,_,_,_])<|AE fun b2=>Xe (Xw AW _)<|A3 Y<|A0<|Zo Wh (Pa #[_,_,_,_,_,_,_,_,_,_] Fk C1 Y)<|Xr [_] Y call59 Y V (Sa c)<|Zm Y<|Zd Y V<|Zd Y V<|Ze (Al DS #[_,_,_,_,_])<|AE fun b3=>Xe (Xw AW _)<|AG Y<|Zn [1,3,4,5,6] ?_;refine Zx<|Zq<|Zb [1,3,4,5,6] ?_;refine DJ (e0:=[]) (H0:=[]) (fun e H=>∃(U:Bool),(U=decide ((¬c.had/\¬c.has)\/(c.had/\c.has/\c.o=c.n)))/\e=[(35,.bool U)]/\H=[]) Wp ?hx_1 ?hy_1
 case hx_1=>
  refine Zg<|Zm Y<|Zv (Br Y)<|Zm Y<|Af (t:=19) Y V (fun W=>?_) (fun W=>?_);·
   refine Zf Y Y<|Yg (Br Y)<|Zv (AQ Y Y)<|Zm Y<|Af (t:=23) Y V (fun X=>?_) (fun X=>?_);·
    refine A7 Y V<|A7 Y V<|A7 Y V<|A7 Y V<|A7 Y V<|A7 Y V<|A7 Y V<|A7 Y V<|A7 Y V<|A7 Y V<|A7 Y V<|Zv (AQ Y Y)<|Z0<|Zn [35,1,3,4,5,6] ?_;refine BO (e':=[(35,_)]) (by exact ⟨_,by simp_all,V,V⟩)
   refine Zf Y Y<|Zf Y Y<|Af (t:=25) Y V (fun Z=>?_) (fun Z=>?_);·
    refine Zf Y Y<|Yg (AQ Y Y)<|Zf Y Y<|Af (t:=28) Y V (fun af=>?_) (fun af=>?_);·
     refine Yf 3 B8 V rfl D3 Y<|Dx Y Wh (Pa #[_,_,_] GS D3 Y) V rfl<|Yf 7 B8 V rfl D3 Y<|Dx Y Wh (Pa #[_,_,_] GS D3 Y) V rfl<|Yg (Kk A6 HP C5 AD A4 Y Y) ?_;refine Yg (AQ Y Y)<|Zv (AL Y Y)<|Z0<|Zn [35,1,3,4,5,6] ?_;refine BO (e':=[(35,_)]) (by exact ⟨_,by simp_all,V,V⟩)
    refine A7 Y V<|A7 Y V<|A7 Y V<|A7 Y V<|A7 Y V<|Yg (AL Y Y)<|Zv (AL Y Y)<|Z0<|Zn [35,1,3,4,5,6] ?_;refine BO (e':=[(35,_)]) (by exact ⟨_,by simp_all,V,V⟩)
   refine A7 Y V<|Yg (AL Y Y)<|Zf Y Y<|A7 Y V<|A7 Y V<|A7 Y V<|A7 Y V<|A7 Y V<|Yg (AL Y Y)<|Zv (AL Y Y)<|Z0<|Zn [35,1,3,4,5,6] ?_;refine BO (e':=[(35,_)]) (by exact ⟨_,by simp_all,V,V⟩)
  refine A7 Y V<|A7 Y V<|Zv (AL Y Y)<|Zm Y<|Zf Y Y<|Zf Y Y<|Af (t:=25) Y V (fun ax=>?_) (fun ax=>?_);·
   refine Zf Y Y<|Yg (AQ Y Y)<|Zf Y Y<|Af (t:=28) Y V (fun bg=>?_) (fun bg=>?_);·
    refine Yf 3 B8 V rfl D3 Y<|Dx Y Wh (Pa #[_,_,_] GS D3 Y) V rfl<|Yf 7 B8 V rfl D3 Y<|Dx Y Wh (Pa #[_,_,_] GS D3 Y) V rfl<|Yg (Kk A6 HP C5 AD A4 Y Y) ?_;refine Yg (AQ Y Y)<|Zv (AL Y Y)<|Z0<|Zn [35,1,3,4,5,6] ?_;refine BO (e':=[(35,_)]) (by exact ⟨_,by simp_all,V,V⟩)
   refine A7 Y V<|A7 Y V<|A7 Y V<|A7 Y V<|A7 Y V<|Yg (AL Y Y)<|Zv (AL Y Y)<|Z0<|Zn [35,1,3,4,5,6] ?_;refine BO (e':=[(35,_)]) (by exact ⟨_,by simp_all,V,V⟩)
  refine A7 Y V<|Yg (AL Y Y)<|Zf Y Y<|A7 Y V<|A7 Y V<|A7 Y V<|A7 Y V<|A7 Y V<|Yg (AL Y Y)<|Zv (AL Y Y)<|Z0<|Zn [35,1,3,4,5,6] ?_;refine BO (e':=[(35,_)]) (by exact ⟨_,by simp_all,V,V⟩)
 rintro _ _ ⟨U,ek,rfl,rfl⟩;refine AX Y (fun bn=>?_) (fun bn=>?_);·
  refine A0<|A3 Y<|AJ<|Zt<|AO V dp Y (by exact ⟨by simp_all [Chg.ok],V⟩)
 refine AC<|Zx<|Zq<|Zb [3,5,1,4,6] ?_;refine DJ (e0:=[(3,_),(5,_)]) (H0:=[]) (fun e H=>∃(O:Bool),(O=decide ((c.had/\¬c.before.ok)\/(c.has/\¬c.after.ok)))/\e=[(49,.bool O)]/\H=[]) Wp ?hx_10 ?hy_10
 case hx_10=>
  refine Zg<|Zm Y<|Zm Y<|Af (t:=37) Y V (fun cu=>?_) (fun cu=>?_);·
   refine Dx Y Wh (Pa #[_,_,_,_,_] CI AW Y) V rfl<|Xr [_] Y call166 Y V (SY _)<|Yg (D7 Y)<|Zv (AQ Y Y)<|Zm Y<|Aj (t:=42) Y V (fun cO=>?_) (fun cO=>?_);·
    refine A7 Y V<|A7 Y V<|A7 Y V<|A7 Y V<|A7 Y V<|A7 Y V<|Zv (AQ Y Y)<|Z0<|Zn [49,1,4,6] ?_;refine BO (e':=[(49,_)]) (by exact ⟨_,by simp_all,V,V⟩)
   refine Zf Y Y<|Zf Y Y<|Af (t:=44) Y V (fun g=>?_) (fun g=>?_);·
    refine Dx Y Wh (Pa #[_,_,_,_,_] CI AW Y) V rfl<|Xr [_] Y call166 Y V (SY _)<|Yg (D7 Y)<|Yg (AQ Y Y)<|Zv (AL Y Y)<|Z0<|Zn [49,1,4,6] ?_;refine BO (e':=[(49,_)]) (by exact ⟨_,by simp_all,V,V⟩)
   refine A7 Y V<|A7 Y V<|A7 Y V<|Yg (AL Y Y)<|Zv (AL Y Y)<|Z0<|Zn [49,1,4,6] ?_;refine BO (e':=[(49,_)]) (by exact ⟨_,by simp_all,V,V⟩)
  refine A7 Y V<|A7 Y V<|A7 Y V<|Zv (AL Y Y)<|Zm Y<|Zf Y Y<|Zf Y Y<|Af (t:=44) Y V (fun m=>?_) (fun m=>?_);·
   refine Dx Y Wh (Pa #[_,_,_,_,_] CI AW Y) V rfl<|Xr [_] Y call166 Y V (SY _)<|Yg (D7 Y)<|Yg (AQ Y Y)<|Zv (AL Y Y)<|Z0<|Zn [49,1,4,6] ?_;refine BO (e':=[(49,_)]) (by exact ⟨_,by simp_all,V,V⟩)
  refine A7 Y V<|A7 Y V<|A7 Y V<|Yg (AL Y Y)<|Zv (AL Y Y)<|Z0<|Zn [49,1,4,6] ?_;refine BO (e':=[(49,_)]) (by exact ⟨_,by simp_all,V,V⟩)
 rintro _ _ ⟨O,d9,rfl,rfl⟩;refine AX Y (fun B=>?_) (fun B=>?_);·
  refine A0<|A3 Y<|AJ<|Zt<|AO V dp Y (by exact ⟨by simp_all [Chg.ok],V⟩)
 refine AC<|Zx<|A0<|Zm Y<|Zm Y<|Af (t:=51) Y V (fun G=>?_) (fun G=>?_);·
  refine A7 Y V<|A7 Y V<|A7 Y V<|A7 Y V<|Zv (AQ Y Y)<|Zm Y<|Zf Y Y<|Zf Y Y<|Af (t:=59) Y V (fun I=>?_) (fun I=>?_);·
   refine A7 Y V<|A7 Y V<|A7 Y V<|A7 Y V<|Yg (AQ Y Y)<|Zv (AQ Y Y)<|AG Y<|Zn [2] ?_;refine Zx<|AJ<|AO V dp Y (by exact ⟨by simp_all [Chg.ok],V⟩)
  refine Yf 7 B8 V rfl D3 Y<|Dx Y Wh (Pa #[_,_,_] GS D3 Y) V rfl<|Yg (BM (vs:=[]) (cs:=#[_,_,_]) Y (Da cM HP A4 V)) ?_;refine Yg (IY A6 HP C5 AD A4 Y Y) ?_;refine Yg (AL Y Y)<|Zv (AQ Y Y)<|AG Y<|Zn [2] ?_;refine Zx<|AJ<|AO V dp Y (by exact ⟨by simp_all [Chg.ok],V⟩)
 refine Yf 3 B8 V rfl D3 Y<|Dx Y Wh (Pa #[_,_,_] GS D3 Y) V rfl<|Yg (BM (vs:=[]) (cs:=#[_,_,_]) Y (Da cM HP A4 V)) ?_;refine Yg (IY A6 HP C5 AD A4 Y Y) ?_;refine Zv (AL Y Y)<|Zm Y<|Aj (t:=57) Y V (fun J=>?_) (fun J=>?_);·
  refine Zf Y Y<|Zf Y Y<|Af (t:=59) Y V (fun K=>?_) (fun K=>?_);·
   refine A7 Y V<|A7 Y V<|A7 Y V<|A7 Y V<|Yg (AQ Y Y)<|Zv (AQ Y Y)<|AG Y<|Zn [2] ?_;refine Zx<|AJ<|AO V dp Y (by exact ⟨by simp_all [Chg.ok],V⟩)
  refine Yf 7 B8 V rfl D3 Y<|Dx Y Wh (Pa #[_,_,_] GS D3 Y) V rfl<|Yg (BM (vs:=[]) (cs:=#[_,_,_]) Y (Da cM HP A4 V)) ?_;refine Yg (IY A6 HP C5 AD A4 Y Y) ?_;refine Yg (AL Y Y)<|Zv (AQ Y Y)<|AG Y<|Zn [2] ?_;refine Zx<|AJ<|AO V dp Y (by exact ⟨by simp_all [Chg.ok],V⟩)
 refine A7 Y V<|A7 Y V<|A7 Y V<|A7 Y V<|A7 Y V<|A7 Y V<|A7 Y V<|Zv (AL Y Y)<|AG Y<|Zn [2] ?_;refine Zx<|AJ<|AO V dp Y (by exact ⟨by simp_all [Chg.ok],V⟩)
def Ck(M:List AA)(v:Value)(cs:List Chg):Prop:=∃p cap,v= .slice p cs.length cap/\cs.length<=maxLen/\∀(i:Nat) (c:Chg),cs[i]?=some c->∃g off cur T zz,p=some ⟨g,off,none⟩/\(g,Obj.cells cur T zz)∈M/\off+i*10+10<=cur.size/\cur.extract (off+i*10) (off+i*10+10)=c.A57
def Chg.lt(b c:Chg):Prop:=b.t<c.t\/b.t=c.t/\b.k<c.k
instance(b c:Chg):Decidable (b.lt c):=inferInstanceAs(Decidable (_\/_))
structure EJ(p:Int)(cs:List Chg):Prop where
 pos:1<=p/\p<=10000
 len:1<=cs.length/\cs.length<=8
 all:∀(i:Nat) (c:Chg),cs[i]?=some c->c.ok
 ord:∀(i:Nat) (b c:Chg),cs[i]?=some b->cs[i+1]?=some c->b.lt c
noncomputable instance(p:Int)(cs:List Chg):Decidable (EJ p cs):=Classical.propDecidable _
variable{i:Nat}
theorem MQ{cs:List Chg}{x:Chg}(h:∀(j:Nat) (c:Chg),j<i->cs[j]?=some c->c.ok)(hx:cs[i]?=some x)(g:x.ok):∀(j:Nat) (c:Chg),j<i+1->cs[j]?=some c->c.ok:=by
 intro j c m hc;rcases E0 j i with h9|h9
 · exact h j c h9 hc
 · have e:j=i:=by omega
   rw [e,hx]at hc;injection hc with hc;rw [<-hc];exact g
theorem Lt{cs:List Chg}{x:Chg}(h:∀(j:Nat) (b c:Chg),j+1<i->cs[j]?=some b->cs[j+1]?=some c->b.lt c)(hx:cs[i]?=some x)(m:i=0\/∃y,cs[i -1]?=some y/\y.lt x):∀(j:Nat) (b c:Chg),j+1<i+1->cs[j]?=some b->cs[j+1]?=some c->b.lt c:=by
 intro j b c B g hc;rcases E0 (j+1) i with h9|h9
 · exact h j b c h9 g hc
 · have e:j+1=i:=by omega
   rw [e,hx]at hc;injection hc with hc
   rcases m with h0|⟨y,hy,hl⟩
   · omega
   · rw [show i -1=j by omega,g]at hy;injection hy with hy;rw [hy,<-hc];exact hl
theorem kS(p:Int)(q:Option Addr)(cap:Nat)(cs:List Chg)(M:List AA)(hO:Ck M (.slice q cs.length cap) cs):BH prog 58 #[.agg #[I4 p,.slice q cs.length cap]] [M] (.bool (decide (EJ p cs))):=by
 have gm:=mL;obtain ⟨p9,cO,e9,gq,hg⟩:=hO;injection e9 with e91 e92 e93
 subst e91 e93;refine Se func58 ntmps58 [0] ?_;intro u R;refine A0<|Ze (Bx #[_,_])<|AE fun b1=>A3 Y<|Zq<|A0<|Zh 0 G3 V rfl A4 Y<|Zl AD Y<|Xr [_,_,_] Y call107 Y V (K7 _ _ _)<|Zv (D7 Y)<|Zm Y<|Aj (t:=10) Y V (fun hp=>?_) (fun hp=>?_);·
  refine A7 Y V<|A7 Y V<|A7 Y V<|A7 Y V<|A7 Y V<|Zv (AQ Y Y)<|Z0<|Zn [1,16] ?_;refine Zx<|CW Y<|A0<|A3 Y<|AJ<|Zt<|AO rfl dv Y (by exact ⟨by rw [CN (fun h9:EJ p cs=>by have J:=h9.pos;have X:=h9.len;exact hp J)],rfl⟩)
 refine Yf 1 G3 V rfl IH Y<|Yl LL Y<|Yg (AY G1 Y)<|Xr [_,_,_] Y call107 Y V (K7 _ _ _)<|Yg (D7 Y)<|Zv (AL Y Y)<|Z0<|Zn [1,16] ?_;refine Zx<|Aq Y (fun hl=>?_) (fun hl=>?_);·
  refine A0<|A3 Y<|AJ<|Zt<|AO rfl dv Y (by exact ⟨by rw [CN (fun h9:EJ p cs=>by have J:=h9.pos;have X:=h9.len;(apply hl;omega))],rfl⟩)
 refine AC<|Zx<|Zq<|A0<|A3 Y<|AR<|Zb [3,1] ?_;refine BA (e0:=[(3,_)]) (fun m e H=>∃(i:Nat),m=cs.length -i/\(i<=cs.length/\(∀(j:Nat) (c:Chg),j<i->cs[j]?=some c->c.ok)/\(∀(j:Nat) (b c:Chg),j+1<i->cs[j]?=some b->cs[j+1]?=some c->b.lt c))/\e=[(3,I4 (i:Int))]/\H=[]) (by exact ⟨0,V,⟨by omega,by intro j c hj;omega,by intro j b c hj;omega⟩,V,V⟩) Wp ?_;rintro _ _ _ ⟨i,rfl,⟨hi,G,I⟩,rfl,rfl⟩;refine Zq<|A0<|Zm Y<|Zh 1 G3 V rfl IH Y<|Zl LL Y<|Zv (AY G1 Y)<|Zv (Au Y Y)<|A5<|Aq Y (fun U=>?_) (fun U=>?_);·
  refine AC<|Zx<|Zq<|AR<|Zq ?_;obtain ⟨x,hx⟩:∃x,cs[i]?=some x:=⟨_,B3 U⟩;obtain ⟨g,off,cur,T,zz,rfl,hm,gy,Z⟩:=hg i x hx;refine Zg<|Zh 1 G3 V rfl IH Y<|Zl LL Y<|Zm Y<|Bb (Ac G1 C1 Y Y A1)<|CS (cs:=[(g,.cells cur T zz)]) (by simp [hm]) (A9 (cs:=x.A57) Fk C1 Y A1 Z) V rfl<|Ze (Al Ln #[_,_,_,_,_,_,_,_,_,_])<|AE fun b2=>Xe (Xw C1 _)<|A5<|Zq<|A0<|Zo Wh (Pa #[_,_,_,_,_,_,_,_,_,_] Fk C1 Y)<|Xr [_] Y call108 Y V (kT x)<|Zv (D7 Y)<|Z0<|Zn [1,3,4,31] ?_;refine Zx<|Aq Y (fun B=>?_) (fun B=>?_);·
   refine A0<|A3 Y<|AJ<|Zt<|Ad<|Zt<|Zt<|Ad<|Zt<|AO rfl dv Y (by exact ⟨by rw [CN (fun h9:EJ p cs=>B (h9.all i x hx))],rfl⟩)
  refine AC<|Zx<|A0<|Zm Y<|Zv (DF (n:=0) Y Y)<|A5<|Aq Y (fun W=>?_) (fun W=>?_);·
   refine Zq ?_;obtain ⟨y,hy⟩:∃y,cs[i -1]?=some y:=⟨_,B3 A1⟩;obtain ⟨g2,ek,K,T2,cu,e2,af,d9,O⟩:=hg (i -1) y hy;injection e2 with e2
   injection e2 with e21 e22
   subst e21 e22;refine Zg<|Zh 1 G3 V rfl IH Y<|Zl LL Y<|Zm Y<|Yb (n:=1) Y Y ?_;refine Bb (Ac G1 C1 Y Y A1)<|CS (cs:=[(g,.cells K T2 cu)]) (by simp [af]) (A9 (cs:=y.A57) Fk C1 Y A1 O) V rfl<|Ze (Al Ln #[_,_,_,_,_,_,_,_,_,_])<|AE fun b3=>Xe (Xw C1 _)<|A5<|A0<|Zh 0 B8 V rfl A4 Y<|Zl AD Y<|Zh 0 B8 V rfl A4 Y<|Zl AD Y<|Zv (Ev Y Y)<|Zm Y<|Aj (t:=45) Y V (fun ax=>?_) (fun ax=>?_);·
    refine A7 Y V<|A7 Y V<|A7 Y V<|A7 Y V<|A7 Y V<|A7 Y V<|A7 Y V<|A7 Y V<|A7 Y V<|A7 Y V<|A7 Y V<|A7 Y V<|Zv (AQ Y Y)<|Z0<|Zn [1,3,58] ?_;refine Zx<|CW Y<|A0<|A3 Y<|AJ<|Ad<|Zt<|Zt<|Ad<|Zt<|AO rfl dv Y (by exact ⟨by rw [CN (fun h9:EJ p cs=>by have J:=h9.ord (i -1) y x hy (by rw [show i -1+1=i by omega];exact hx);unfold Chg.lt at J;omega)],rfl⟩)
   refine Yf 0 B8 V rfl A4 Y<|Yl AD Y<|Yf 0 B8 V rfl A4 Y<|Yl AD Y<|Yg (CP Y Y)<|Zf Y Y<|Aj (t:=51) Y V (fun bg=>?_) (fun bg=>?_);·
    refine Yf 1 B8 V rfl A4 Y<|Yl AD Y<|Yf 1 B8 V rfl A4 Y<|Yl AD Y<|Yg (Ha Y Y)<|Yg (AQ Y Y)<|Zv (AL Y Y)<|Z0<|Zn [1,3,58] ?_;refine Zx<|Aq Y (fun bn=>?_) (fun bn=>?_);·
     refine A0<|A3 Y<|AJ<|Ad<|Zt<|Zt<|Ad<|Zt<|AO rfl dv Y (by exact ⟨by rw [CN (fun h9:EJ p cs=>by have J:=h9.ord (i -1) y x hy (by rw [show i -1+1=i by omega];exact hx);unfold Chg.lt at J;omega)],rfl⟩)
    refine AC<|A8<|Zx<|Zg<|Zm Y<|Ya (n:=1) Y Y<|AG Y<|Zn [3,1] ?_;refine Ab (e':=[(3,_)]) (by exact ⟨i+1,V,⟨by omega,MQ G hx (HI.1 B),Lt I hx (by(right;refine ⟨y,hy,?_⟩;unfold Chg.lt;omega))⟩,V,V⟩)
   refine A7 Y V<|A7 Y V<|A7 Y V<|A7 Y V<|A7 Y V<|Yg (AL Y Y)<|Zv (AL Y Y)<|Z0<|Zn [1,3,58] ?_;refine Zx<|DI Y<|AC<|A8<|Zx<|Zg<|Zm Y<|Ya (n:=1) Y Y<|AG Y<|Zn [3,1] ?_;refine Ab (e':=[(3,_)]) (by exact ⟨i+1,V,⟨by omega,MQ G hx (HI.1 B),Lt I hx (by(right;refine ⟨y,hy,?_⟩;unfold Chg.lt;omega))⟩,V,V⟩)
  refine AC<|A8<|Zx<|Zg<|Zm Y<|Ya (n:=1) Y Y<|AG Y<|Zn [3,1] ?_;refine Ab (e':=[(3,_)]) (by exact ⟨i+1,V,⟨by omega,MQ G hx (HI.1 B),Lt I hx (by(left;omega))⟩,V,V⟩)
 refine Ay<|Zt<|Zt<|AU<|Zx<|A0<|A3 Y<|AJ<|AO rfl dv Y (by exact ⟨by rw [Cp (⟨by omega,by omega,fun j c hc=>G j c (by have:=(BE.1 hc).1;omega) hc,fun j b c hb hc=>I j b c (by have:=(BE.1 hc).1;omega) hb hc⟩:EJ p cs)],rfl⟩)
def iI(M:List AA)(v:Value)(rs:List AV):Prop:=∃p cap,v= .slice p rs.length cap/\rs.length<=maxLen/\∀(i:Nat) (r:AV),rs[i]?=some r->∃g off cur T zz,p=some ⟨g,off,none⟩/\(g,Obj.cells cur T zz)∈M/\off+i*5+5<=cur.size/\cur.extract (off+i*5) (off+i*5+5)=r.A58
variable{cur:Array Value}
theorem Tw{cs:Array Value}{a n j:Nat}{v:Value}(h:cur.extract a (a+n)=cs)(hv:cs[j]?=some v):cur[a+j]?=some v:=by
 rw [<-h,eM]at hv;split at hv;· exact hv
 · cases hv
def AV.lt2(r:AV)(t k:Int):Prop:=r.t<t\/r.t=t/\r.k<k
instance(r:AV)(t k:Int):Decidable (r.lt2 t k):=inferInstanceAs(Decidable (_\/_))
def AV.is(r:AV)(t k:Int):Prop:=r.t=t/\r.k=k
instance(r:AV)(t k:Int):Decidable (r.is t k):=inferInstanceAs(Decidable (_/\_))
def BQ(rs:List AV):Prop:=rs.Pairwise (fun a b=>a.lt2 b.t b.k)
def E9(rs:List AV)(t k:Int):Nat:=(rs.takeWhile (fun r=>decide (r.lt2 t k))).length
theorem VS:∀{rs:List AV} {t k:Int} {m:Nat},m<=rs.length->(∀(i:Nat) (r:AV),i<m->rs[i]?=some r->r.lt2 t k)->(∀(i:Nat) (r:AV),m<=i->rs[i]?=some r->¬r.lt2 t k)->E9 rs t k=m
 |[],t,k,m,hm,_,_=>by simp only [KK]at hm;simp [E9];omega
 |r::rs,t,k,0,_,_,h2=>by unfold E9;rw [PA,AK (by simpa using h2 0 r A1 rfl)];rfl
 |r::rs,t,k,m+1,hm,h1,h2=>by
  unfold E9;rw [PA,AM (by simpa using h1 0 r A1 rfl),DG];exact congrArg (·+1) (VS (by simpa using hm) (fun i x hi hx=>h1 (i+1) x A1 hx) (fun i x hi hx=>h2 (i+1) x A1 hx))
variable{k t:Int}
theorem QG{a b:AV}(h:a.lt2 b.t b.k)(g:b.lt2 t k):a.lt2 t k:=by unfold AV.lt2 at*;omega
variable{rs:List AV}
theorem V6(h:BQ rs){j:Nat}{a b:AV}(g:i<j)(m:rs[i]?=some a)(B:rs[j]?=some b):a.lt2 b.t b.k:=by
 obtain ⟨hi,rfl⟩:=BE.1 m;obtain ⟨G,rfl⟩:=BE.1 B;exact eL.1 h i j hi G g
variable{x:AV}
theorem WH(h:BQ rs){m:Nat}(hx:rs[m]?=some x)(B:x.lt2 t k):∀(i:Nat) (r:AV),i<m+1->rs[i]?=some r->r.lt2 t k:=by
 intro i r hi g;rcases E0 i m with h9|h9
 · exact QG (V6 h h9 g hx) B
 · rw [show i=m by omega,hx]at g;injection g with g;rw [<-g];exact B
theorem WK(h:BQ rs){m:Nat}(hx:rs[m]?=some x)(B:¬x.lt2 t k):∀(i:Nat) (r:AV),m<=i->rs[i]?=some r->¬r.lt2 t k:=by
 intro i r hi g hc;rcases E0 m i with h9|h9
 · exact B (QG (V6 h h9 hx g) hc)
 · rw [show i=m by omega,hx]at g;injection g with g;rw [<-g]at hc;exact B hc
theorem YW(X:Nat)(q:Option Addr)(cap:Nat)(p t k:Int)(rs:List AV)(M:List AA)(hO:iI M (.slice q rs.length cap) rs)(hn:rs.length<=1000000)(J:BQ rs):BH prog 57 #[I5 X,I4 t,I4 k] [[(X,.cells #[.slice q rs.length cap,I4 p] 75 (0,0))],M] (I4 (E9 rs t k:Int)):=by
 have bg:=mL;obtain ⟨p9,W,Z,bn,hg⟩:=hO;injection Z with e91 e92 e93
 subst e91 e93;refine Se func57 ntmps57 [0,1,2] ?_;intro u R;refine A0<|A3 Y<|A0<|A3 Y<|A0<|Zm Y<|Zp Y V<|Zh 0 IF V rfl C6 Y<|Zl F1 Y ?_;refine Zv (AY B5 Y)<|A3 Y<|Zq<|AR<|Zb [7,8,0,1,2] ?_;refine BA (e0:=[(7,_),(8,_)]) (fun m e H=>∃(lo hi:Nat),m=hi -lo/\(lo<=hi/\hi<=rs.length/\(∀(i:Nat) (r:AV),i<lo->rs[i]?=some r->r.lt2 t k)/\(∀(i:Nat) (r:AV),hi<=i->rs[i]?=some r->¬r.lt2 t k))/\e=[(7,I4 (lo:Int)),(8,I4 (hi:Int))]/\H=[]) (by exact ⟨0,rs.length,V,⟨by omega,by omega,by intro i r hi;omega,by intro i r hi U;have:=(BE.1 U).1;omega⟩,V,V⟩) Wp ?_;rintro _ _ _ ⟨lo,hi,rfl,⟨ax,af,G,B⟩,rfl,rfl⟩;refine Zq<|A0<|Zm Y<|Zm Y<|Zv (Au Y Y)<|A5<|Aq Y (fun K=>?_) (fun K=>?_);·
  refine AC<|Zx<|AR<|A0<|Zm Y<|Zm Y<|Ya Y Y ?_
  (refine Bb (KF (n:=2) Y Y ?_ ?_) ?_;(focus (omega));(focus (omega)))
  refine A3 Y<|Zq ?_;obtain ⟨x,hx⟩:∃x,rs[(lo+hi)/2]?=some x:=⟨_,B3 A1⟩;obtain ⟨g,off,cur,T,zz,rfl,O,cu,I⟩:=hg _ x hx;refine Zg<|Zm Y<|Zp Y V<|Zh 0 IF V rfl C6 Y<|Zl F1 Y ?_;refine Zm Y<|Bb (Ac B5 AW Y Y A1)<|Zv (Ar (off:=0) FF V rfl A4 Y)<|CS (cs:=[(g,.cells cur T zz)]) (by simp [O]) (BP AD Y (Tw (j:=0) I V)) V rfl ?_;refine Zm Y<|Zv (Dv Y Y)<|Zm Y<|Aj (t:=32) Y V (fun h1=>?_) (fun h1=>?_);·
   refine A7 Y V<|A7 Y V<|A7 Y V<|A7 Y V<|A7 Y V<|A7 Y V<|A7 Y V<|A7 Y V<|A7 Y V<|A7 Y V<|A7 Y V<|A7 Y V<|A7 Y V<|A7 Y V<|A7 Y V<|A7 Y V<|A7 Y V<|A7 Y V<|A7 Y V<|A7 Y V<|A7 Y V<|A7 Y V<|Zv (AQ Y Y)<|Z0<|Zn [0,1,2,7,8,9,55] ?_;refine Zx<|CW Y<|Zg<|Zm Y<|Ya (n:=1) Y Y<|AG Y<|A8<|Zn [7,8,0,1,2] ?_;refine Ab (e':=[(7,_),(8,_)]) (by exact ⟨(lo+hi)/2+1,hi,V,⟨by omega,by omega,WH J hx (by unfold AV.lt2;omega),B⟩,V,V⟩)
  refine Zf Y Y<|Yg (Ap Y V)<|Yf 0 IF V rfl C6 Y<|Yl F1 Y ?_;refine Zf Y Y ?_
  (refine Gu Y (Ac B5 AW Y Y ?_) rfl rfl ?_;(focus (omega)))
  refine Yg (Ar (off:=0) FF V rfl A4 Y)<|Lu Y (cs:=[(g,.cells cur T zz)]) (by simp [O]) (BP AD Y (Tw (j:=0) I V)) V rfl ?_;refine Zf Y Y<|Yg (CP Y Y)<|Zf Y Y ?_;refine Aj (t:=43) Y V (fun h2=>?_) (fun h2=>?_);·
   refine Zf Y Y<|Yg (Ap Y V)<|Yf 0 IF V rfl C6 Y<|Yl F1 Y ?_;refine Zf Y Y ?_
   (refine Gu Y (Ac B5 AW Y Y ?_) rfl rfl ?_;(focus (omega)))
   refine Yg (Ar (off:=1) FF V rfl A4 Y)<|Lu Y (cs:=[(g,.cells cur T zz)]) (by simp [O]) (BP AD Y (Tw (j:=1) I V)) V rfl ?_;refine Zf Y Y<|Yg (Dv Y Y)<|Yg (AQ Y Y)<|Zv (AL Y Y)<|Z0<|Zn [0,1,2,7,8,9,55] ?_;refine Zx<|Aq Y (fun h3=>?_) (fun h3=>?_);·
    refine Zg<|Zm Y<|Ya (n:=1) Y Y<|AG Y<|A8<|Zn [7,8,0,1,2] ?_;refine Ab (e':=[(7,_),(8,_)]) (by exact ⟨(lo+hi)/2+1,hi,V,⟨by omega,by omega,WH J hx (by unfold AV.lt2;omega),B⟩,V,V⟩)
   refine Zg<|Zm Y<|AG Y<|A8<|Zn [7,8,0,1,2] ?_;refine Ab (e':=[(7,_),(8,_)]) (by exact ⟨lo,(lo+hi)/2,V,⟨by omega,by omega,G,WK J hx (by unfold AV.lt2;omega)⟩,V,V⟩)
  refine A7 Y V<|A7 Y V<|A7 Y V<|A7 Y V<|A7 Y V<|A7 Y V<|A7 Y V<|A7 Y V<|A7 Y V<|A7 Y V<|Yg (AL Y Y)<|Zv (AL Y Y)<|Z0<|Zn [0,1,2,7,8,9,55] ?_;refine Zx<|DI Y<|Zg<|Zm Y<|AG Y<|A8<|Zn [7,8,0,1,2] ?_;refine Ab (e':=[(7,_),(8,_)]) (by exact ⟨lo,(lo+hi)/2,V,⟨by omega,by omega,G,WK J hx (by unfold AV.lt2;omega)⟩,V,V⟩)
 refine Ay<|Zt<|Zt<|AU<|Zx<|A0<|Zm Y<|A3 Y<|AJ<|AO rfl results57 Y (by exact ⟨by rw [VS A1 G (fun i r hi U=>B i r A1 U)],rfl⟩)
def Fq(rs:List AV)(t k:Int):AV×Bool:=match rs[E9 rs t k]?with
 |some r=>if r.is t k then(r,true)else(AV.zero,false)
 |none=>(AV.zero,false)
theorem VT(rs:List AV)(t k:Int):E9 rs t k<=rs.length:=by unfold E9;exact List.IsPrefix.length_le (List.takeWhile_prefix _)
theorem mg(hx:rs[E9 rs t k]?=some x)(g:x.t=t)(h2:x.k=k):Fq rs t k=(x,true):=by unfold Fq;rw [hx];exact AM ⟨g,h2⟩
theorem jQ(hx:rs[E9 rs t k]?=some x)(h:¬(x.t=t/\x.k=k)):Fq rs t k=(AV.zero,false):=by unfold Fq;rw [hx];exact AK h
theorem u7(h:¬E9 rs t k<rs.length):Fq rs t k=(AV.zero,false):=by unfold Fq;rw [Lz A1]
theorem qG(J:Nat)(q:Option Addr)(cap:Nat)(p t k:Int)(rs:List AV)(M:List AA)(O:iI M (.slice q rs.length cap) rs)(hn:rs.length<=1000000)(hs:BQ rs):BH prog 20 #[I5 J,I4 t,I4 k] [[(J,.cells #[.slice q rs.length cap,I4 p] 75 (0,0))],M] (.tuple #[.agg #[I4 (Fq rs t k).1.t,I4 (Fq rs t k).1.k,I4 (Fq rs t k).1.v.a,I4 (Fq rs t k).1.v.b,I4 (Fq rs t k).1.v.c],.bool (Fq rs t k).2]):=by
 have G:=id O;have af:=mL
 obtain ⟨p9,K,X,ax,Z⟩:=O;injection X with e91 e92 e93
 subst e91 e93;have bg:=VT rs t k
 refine Se func20 ntmps20 [0,1,2] ?_;intro u R;refine A0<|Ze (Al DS #[_,_,_,_,_])<|AE fun b1=>A3 Y<|A0<|Zm Y<|Zm Y<|Zm Y<|Xr [_,_,_] Y call57 Y V (YW J _ _ p t k rs M G hn hs)<|A3 Y<|Zq<|A0<|Zm Y<|Zm Y<|Zp Y V<|Zh 0 IF V rfl C6 Y<|Zl F1 Y<|Zv (AY B5 Y)<|Zv (Au Y Y)<|Zm Y<|Aj (t:=20) Y V (fun B=>?_) (fun B=>?_);·
  obtain ⟨x,hx⟩:∃x,rs[E9 rs t k]?=some x:=⟨_,B3 B⟩;obtain ⟨g,off,cur,T,zz,rfl,I,bn,m⟩:=Z _ x hx;refine Zf Y Y<|Yg (Ap Y V)<|Yf 0 IF V rfl C6 Y<|Yl F1 Y<|Zf Y Y<|Gu Y (Ac B5 AW Y Y A1) V rfl ?_;refine Yg (Ar (off:=0) FF V rfl A4 Y)<|Lu Y (cs:=[(g,.cells cur T zz)]) (by simp [I]) (BP AD Y (Tw (j:=0) m V)) V rfl ?_;refine Zf Y Y<|Yg (CP Y Y)<|Zv (AQ Y Y)<|Zm Y<|Aj (t:=32) Y V (fun W=>?_) (fun W=>?_);·
   refine Zf Y Y<|Yg (Ap Y V)<|Yf 0 IF V rfl C6 Y<|Yl F1 Y<|Zf Y Y<|Gu Y (Ac B5 AW Y Y A1) V rfl ?_;refine Yg (Ar (off:=1) FF V rfl A4 Y)<|Lu Y (cs:=[(g,.cells cur T zz)]) (by simp [I]) (BP AD Y (Tw (j:=1) m V)) V rfl ?_;refine Zf Y Y<|Yg (CP Y Y)<|Zv (AQ Y Y)<|Z0<|Zn [0,6,8,43] ?_;refine Zx<|Aq Y (fun U=>?_) (fun U=>?_);·
    refine A0<|Zm Y<|Zp Y rfl<|Zh 0 IF rfl rfl C6 Y<|Zl F1 Y<|Zm Y<|Bb (Ac B5 AW Y Y A1)<|CS (cs:=[(g,.cells cur T zz)]) (by simp [I]) (A9 (cs:=x.A58) CI AW Y A1 m) rfl rfl<|Xe (Xw AW _)<|A3 Y<|AJ<|Zt<|Bj rfl results20 Y Wh (Am CI AW Wn (rfl)) Y (by exact ⟨by rw [mg hx W U];rfl,rfl⟩)
   refine AC<|Zx<|A0<|Zv (BM (vs:=[]) (cs:=#[_,_,_,_,_]) Y (AZ (pl:=#[(0,1),(1,1),(2,3)]) DS FF (fun _=>by kernel_rfl) V))<|Xe (Xw AW _)<|A3 Y<|AJ<|Bj V results20 Y Wh (Am CI AW Wn (V)) Y (by exact ⟨by(rw [jQ hx A1];rfl),V⟩)
  refine A7 Y V<|A7 Y V<|A7 Y V<|A7 Y V<|A7 Y V<|A7 Y V<|A7 Y V<|A7 Y V<|A7 Y V<|A7 Y V<|Zv (AL Y Y)<|Z0<|Zn [0,6,8,43] ?_;refine Zx<|DI Y<|AC<|Zx<|A0<|Zv (BM (vs:=[]) (cs:=#[_,_,_,_,_]) Y (AZ (pl:=#[(0,1),(1,1),(2,3)]) DS FF (fun _=>by kernel_rfl) V))<|Xe (Xw AW _)<|A3 Y<|AJ<|Bj V results20 Y Wh (Am CI AW Wn (V)) Y (by exact ⟨by(rw [jQ hx A1];rfl),V⟩)
 refine A7 Y V<|A7 Y V<|A7 Y V<|A7 Y V<|A7 Y V<|A7 Y V<|A7 Y V<|A7 Y V<|A7 Y V<|A7 Y V<|Zv (AL Y Y)<|Zm Y<|A7 Y V<|A7 Y V<|A7 Y V<|A7 Y V<|A7 Y V<|A7 Y V<|A7 Y V<|A7 Y V<|A7 Y V<|A7 Y V<|Zv (AL Y Y)<|Z0<|Zn [0,6,8,43] ?_;refine Zx<|DI Y<|AC<|Zx<|A0<|Zv (BM (vs:=[]) (cs:=#[_,_,_,_,_]) Y (AZ (pl:=#[(0,1),(1,1),(2,3)]) DS FF (fun _=>by kernel_rfl) V))<|Xe (Xw AW _)<|A3 Y<|AJ<|Bj V results20 Y Wh (Am CI AW Wn (V)) Y (by exact ⟨by(rw [u7 B];rfl),V⟩)
def out(lo hi n:Int):Bool:=decide (n<lo)||decide (hi<n)
def LB(cur:Array Value)(o:Nat)(ns:List Int):Prop:=∀(i:Nat) (n:Int),ns[i]?=some n->cur[o+i]?=some (I4 n)
theorem o6(p:Int->Bool)(ls:List Int)(i:Nat)(x:Int)(h:ls[i]?=some x):(ls.take (i+1)).any p=((ls.take i).any p||p x):=by
 rw [PF,h];simp
theorem yK(p:Int->Bool)(ls:List Int)(i:Nat)(x:Int)(h:ls[i]?=some x)(hx:p x=true):ls.any p=true:=by
 rw [lE];exact ⟨x,DE h,hx⟩
theorem zL(lp m:Nat)(n lo hi:Int):BH prog 141 #[I4 n,I5 lp,I5 m] [[(lp,.cells #[I4 lo] 3 (0,0))],[(m,.cells #[I4 hi] 3 (0,0))]] (.bool (out lo hi n)):=by
 refine Se func141 ntmps141 [0,1,2] ?_;intro u R;refine A0<|A3 Y<|A0<|Zm Y<|Zl AD Y ?_;refine Zv (Dv Y Y)<|Zm Y<|Aj (t:=8) Y V (fun g=>?_) (fun g=>?_);·
  refine A7 Y V<|A7 Y V<|A7 Y V<|Zv (AQ Y Y)<|A3 Y<|AJ<|AO V results141 Y (by exact ⟨by simp [out,g],V⟩)
 refine Zf Y Y<|Yl AD Y ?_;refine Yg (Ev Y Y)<|Zv (AL Y Y)<|A3 Y<|AJ<|AO V results141 Y (by exact ⟨by simp [out,g],V⟩)
theorem fZ(lp J g off cap:Nat)(lo hi:Int)(cur:Array Value)(T:TypeId)(z:Nat×Nat)(ls:List Int)(K:LB cur off ls)(hn:ls.length<=1073741824):
 Ba prog 194 #[.slice (some ⟨g,off,none⟩) ls.length cap,.func (.func 141) #[] #[I5 lp,I5 J]] [[(lp,.cells #[I4 lo] 3 (0,0))],[(J,.cells #[I4 hi] 3 (0,0))],[(g,.cells cur T z)]] (fun r H'=>∃k:Int,r=I4 k/\decide (0<=k)=ls.any (out lo hi)/\H'=[[(lp,.cells #[I4 lo] 3 (0,0))],[(J,.cells #[I4 hi] 3 (0,0))],[(g,.cells cur T z)]]):=by
 refine Se func194 ntmps194 [0,1] ?_;intro u R;refine A0<|A3 Y<|Zq<|A0<|Zm Y<|Zv (AY Cl Y)<|Zm Y<|A5<|AR<|Zb [8,0,1,7] ?_;refine BA (e0:=[(8,_)]) (fun m e H=>∃(i:Nat),m=ls.length -i/\(i<=ls.length/\(ls.take i).any (out lo hi)=false)/\e=[(8,I4 (i:Int))]/\H=[]) (by exact ⟨0,V,⟨C0 _,V⟩,V,V⟩) Wp ?_;rintro _ _ _ ⟨i,rfl,⟨U,B⟩,rfl,rfl⟩;refine A0<|Zv (Au Y Y)<|A5<|Zq<|Aq Y (fun I=>?_) (fun I=>?_);·
  refine AC<|Zx<|Zq<|AR<|A0<|Zm Y<|A3 Y<|Zq ?_;obtain ⟨x,hx⟩:∃x,ls[i]?=some x:=⟨_,B3 I⟩;refine Zg<|Zm Y<|Zm Y<|Zm Y<|Bb (CB Cl A4 Y Y A1)<|Zl AD Y (hv:=by exact K i x hx)<|Xr [_] Y call141 Y V (zL lp J x lo hi)<|A5<|AX Y (fun G=>?_) (fun G=>?_);·
   refine A0<|Zm Y<|A3 Y<|AJ<|Ad<|Zt<|Zt<|Ad<|Zt<|AO rfl results194 Y (by exact ⟨(i:Int),rfl,by rw [yK _ ls i x hx G];exact Cp A1,rfl⟩)
  refine AC<|A8<|Zx<|Zg<|Ya (n:=1) Y Y<|Zm Y<|Z0<|Zn [8,0,1,7] ?_;refine Ab (e':=[(8,_)]) (by exact ⟨i+1,rfl,⟨by omega,by rw [o6 _ ls i x hx,B];exact G⟩,rfl,rfl⟩)
 have O:i=ls.length:=by omega
 subst O;rw [GB]at B;refine Ay<|Zt<|Zt<|AU<|Zx<|A0<|A3 Y<|AJ<|AO rfl results194 Y (by exact ⟨-1,rfl,by rw [B];rfl,rfl⟩)
theorem Ud(lp B g off cap:Nat)(lo hi:Int)(cur:Array Value)(T:TypeId)(z:Nat×Nat)(ls:List Int)(m:LB cur off ls)(hn:ls.length<=1073741824):
 BH prog 140 #[.slice (some ⟨g,off,none⟩) ls.length cap,.func (.func 141) #[] #[I5 lp,I5 B]] [[(lp,.cells #[I4 lo] 3 (0,0))],[(B,.cells #[I4 hi] 3 (0,0))],[(g,.cells cur T z)]] (.bool (ls.any (out lo hi))):=by
 refine Se func140 ntmps140 [0,1] ?_;intro u R;refine A0<|A3 Y<|A0<|Zm Y<|Zm Y<|Zc [_,_] Y call194 Y V (fZ lp B g off cap lo hi cur T z ls m hn) ?_;rintro _ _ ⟨_,⟨k,rfl,G,rfl⟩,rfl⟩;refine Zv (Ha Y Y)<|A3 Y<|AJ<|AO rfl results140 Y (by exact ⟨by rw [<-G],rfl⟩)
theorem V7(g off cap:Nat)(lo hi:Int)(cur:Array Value)(T:TypeId)(z:Nat×Nat)(ls:List Int)(m:LB cur off ls)(hn:ls.length<=1073741824):
 BH prog 87 #[I4 lo,I4 hi,.slice (some ⟨g,off,none⟩) ls.length cap] [[(g,.cells cur T z)]] (.bool (!(ls.any (out lo hi)))):=by
 refine Se func87 ntmps87 [0,1,2] ?_;intro u R;refine A0<|Ze (Bx #[_])<|AE fun B=>Ze (Bx #[_])<|AE fun G=>A3 Y<|A0<|Zm Y<|Zv (Bg (vs:=[]) (us:=[_,_]) Y Y)<|Xr [_,_] Y call140 Y V (Ud _ _ g off cap lo hi cur T z ls m hn)<|Zv (Br Y)<|A3 Y<|AJ<|AO V results87 Y (by exact ⟨V,V⟩)
def EM(c:Chg)(th:Bool)(v:V3):AV:=if th then⟨c.t,c.k,v⟩else AV.zero
variable{v:V3}
theorem tZ{g:Bool}(h:g=true):EM c g v=⟨c.t,c.k,v⟩:=AM h
theorem rB{g:Bool}(h:g=false):EM c g v=AV.zero:=AK (by rw [h];decide)
theorem j6(lo hi n:Int):(!(([n]:List Int).any (out lo hi)))=decide (lo<=n/\n<=hi):=by
 simp only [lz,mB,el,out];by_cases g:n<lo<;>by_cases h2:hi<n<;>simp [g,h2]<;>omega
theorem zV(v:V3):(!(([v.a,v.b,v.c]:List Int).any (out (-1000000000) 1000000000)))=decide v.ok:=by
 have h:∀n,out (-1000000000) 1000000000 n=!decide (inV n):=by
  intro n;have:=j6 (-1000000000) 1000000000 n
  simp only [lz,mB,el]at this;rw [<-Bool.not_not (out _ _ n),this];rfl
 simp only [lz,mB,el,h,V3.ok];by_cases g:inV v.a<;>by_cases h2:inV v.b<;>by_cases m:inV v.c<;>simp [g,h2,m]
theorem tr{n:Int}(h:cur[o]?=some (I4 n)):LB cur o [n]:=by
 intro i x hx;rcases i with _|i
 · injection hx with hx;rw [<-hx];exact h
 · cases hx
theorem tp(h0:cur[o]?=some (I4 v.a))(g:cur[o+1]?=some (I4 v.b))(h2:cur[o+2]?=some (I4 v.c)):LB cur o [v.a,v.b,v.c]:=by
 intro i x hx;rcases i with _|_|_|i
 · injection hx with hx;rw [<-hx];exact h0
 · injection hx with hx;rw [<-hx];exact g
 · injection hx with hx;rw [<-hx];exact h2
 · cases hx
theorem Kb(g off cap:Nat)(lo hi:Int)(cur:Array Value)(T:TypeId)(z:Nat×Nat)(n:Int)(h:cur[off]?=some (I4 n)):
 BH prog 87 #[I4 lo,I4 hi,.slice (some ⟨g,off,none⟩) 1 cap] [[(g,.cells cur T z)]] (.bool (decide (lo<=n/\n<=hi))):=by
 rw [<-j6];exact V7 g off cap lo hi cur T z [n] (tr h) B0
theorem dF(g off cap:Nat)(cur:Array Value)(T:TypeId)(z:Nat×Nat)(v:V3)(h:LB cur off [v.a,v.b,v.c]):
 BH prog 87 #[I4 (-1000000000),I4 1000000000,.slice (some ⟨g,off,none⟩) 3 cap] [[(g,.cells cur T z)]] (.bool (decide v.ok)):=by
 rw [<-zV];exact V7 g off cap _ _ cur T z [v.a,v.b,v.c] h B0
theorem Wt(c:Chg)(m:Bool)(v:V3):BH prog 183 #[.agg c.A57,.bool m,.agg #[I4 v.a,I4 v.b,I4 v.c]] [] (.tuple #[.agg #[I4 (EM c m v).t,I4 (EM c m v).k,I4 (EM c m v).v.a,I4 (EM c m v).v.b,I4 (EM c m v).v.c],.bool m]):=by
 refine Se func183 ntmps183 [0,1,2] ?_;intro u R;refine A0<|Ze (Bx #[_,_,_,_,_,_,_,_,_,_])<|AE fun B=>Ze (Bx #[_,_,_])<|AE fun G=>Ze (Al DS #[_,_,_,_,_])<|AE fun I=>A3 Y<|Zq<|A0<|Zm Y<|Zv (Br Y)<|A5<|AX Y (fun g=>?_) (fun g=>?_);·
  refine A0<|Zv (BM (vs:=[]) (cs:=#[_,_,_,_,_]) Y (AZ (pl:=#[(0,1),(1,1),(2,3)]) DS FF (fun _=>by kernel_rfl) V))<|Xe (Xw AW _) ?_;refine A3 Y<|AJ<|Zt<|Bj V results183 Y Wh (Am CI AW Wn (V)) Y (by simp only [eR,S3,cn]at g;exact ⟨by(rw [rB g,g];rfl),V⟩)
 refine AC<|Zx<|A0<|Zh 0 B8 V rfl A4 Y<|Zl AD Y ?_;refine Zh 1 B8 V rfl A4 Y<|Zl AD Y ?_;refine Zo Wh (Pa #[_,_,_] GS D3 Y) ?_;refine Zv (BM (vs:=[(0,_),(1,_),(2,_)]) (cs:=#[_,_,_,_,_]) Y (AZ (pl:=#[(0,1),(1,1),(2,3)]) DS FF (fun _=>by kernel_rfl) rfl))<|Xe (BL AW Y Y (by(simp [Value.oneCell',Value.cells];done)) Wu AN E6 Wn (by exact BB _)) ?_;refine AG Y<|Zn [6,7] ?_;refine Zx<|AJ<|Bj V results183 Y Wh (Am CI AW Wn (V)) Y (by simp only [eR,S3,cn]at g;exact ⟨by(rw [tZ g,g];rfl),V⟩)
theorem SB(r:AV):BH prog 195 #[.agg r.A58] [] (.bool (decide r.ok)):=by
 refine Se func195 ntmps195 [0] ?_;intro u R;refine A0<|Ze (Bx #[_,_,_,_,_])<|AE fun I=>A3 Y<|A0<|Zh 0 FF V rfl A4 Y<|Zl AD Y<|Ze (Ah (vs:=[_]) (cs:=[_]) Cl A4 H4 Y V rfl V rfl V)<|AE fun J=>Xr [_,_,_] Y call87 Y V (Kb _ 0 1 _ _ _ _ _ r.t V)<|Zm Y<|Aj (t:=7) Y V (fun g=>?_) (fun g=>?_);·
  refine Yf 1 FF V rfl A4 Y<|Yl AD Y<|Ze (Ah (vs:=[_]) (cs:=[_]) Cl A4 H4 Y V rfl V rfl V)<|AE fun K=>Xr [_,_,_] Y call87 Y V (Kb _ 0 1 _ _ _ _ _ r.k V)<|Zv (AQ Y Y)<|Zm Y<|Aj (t:=13) Y V (fun m=>?_) (fun m=>?_);·
   refine Yf 2 FF V rfl D3 Y<|Yg (Ik HP A4 Y)<|Xr [_,_,_] Y call87 Y V (dF _ 2 3 _ _ _ r.v (tp V rfl V))<|Zv (AQ Y Y)<|AG Y<|Zn [2] ?_;refine Zx<|AJ<|AO V results195 Y (by exact ⟨by(simp_all [AV.ok];done),V⟩)
  refine A7 Y V<|A7 Y V<|A7 Y V<|Zv (AL Y Y)<|AG Y<|Zn [2] ?_;refine Zx<|AJ<|AO V results195 Y (by exact ⟨by(simp_all [AV.ok];done),V⟩)
 refine A7 Y V<|A7 Y V<|A7 Y V<|A7 Y V<|Zv (AL Y Y)<|Zm Y<|A7 Y V<|A7 Y V<|A7 Y V<|Zv (AL Y Y)<|AG Y<|Zn [2] ?_;refine Zx<|AJ<|AO rfl results195 Y (by exact ⟨by rw [CN (fun h9:r.ok=>by have B:=h9.2.1;have G:=h9.2.2;omega)],rfl⟩)
theorem YJ(c:Chg)(g:Bool)(v:V3):BH prog 142 #[.agg c.A57,.bool g,.agg #[I4 v.a,I4 v.b,I4 v.c]] [] (.bool (if g then decide (EM c g v).ok else decide (v=V3.zero))):=by
 refine Se func142 ntmps142 [0,1,2] ?_;intro u R;refine A0<|Ze (Bx #[_,_,_,_,_,_,_,_,_,_])<|AE fun J=>Ze (Bx #[_,_,_])<|AE fun K=>A3 Y<|A0<|Zo Wh (Pa #[_,_,_,_,_,_,_,_,_,_] Fk C1 Y)<|Zm Y<|Zo Wh (Pa #[_,_,_] GS D3 Y)<|Xr [_,_,_] Y call183 Y V (Wt c g v)<|Zm Y<|Zd Y V<|Zd Y V<|Ze (Al DS #[_,_,_,_,_])<|AE fun O=>Xe (Xw AW _)<|AG Y<|Zn [1,5,7] ?_;refine Zx<|A0<|Zm Y<|Zm Y<|Af (t:=17) Y V (fun m=>?_) (fun m=>?_);·
  refine Dx Y Wh (Pa #[_,_,_,_,_] CI AW Y) V rfl<|Xr [_] Y call195 Y V (SB _)<|Zv (AQ Y Y)<|Zm Y<|Aj (t:=21) Y V (fun B=>?_) (fun B=>?_);·
   refine A7 Y V<|A7 Y V<|A7 Y V<|A7 Y V<|A7 Y V<|A7 Y V<|A7 Y V<|Zv (AQ Y Y)<|AG Y<|Zn [6] ?_;refine Zx<|AJ<|AO V ft Y (by exact ⟨by simp_all,V⟩)
  refine Zf Y Y<|Yg (Br Y)<|Zf Y Y<|Af (t:=24) Y V (fun G=>?_) (fun G=>?_);·
   refine Dx Y Wh (Pa #[_,_,_] GS D3 Y) V rfl<|Yg (BM (vs:=[]) (cs:=#[_,_,_]) Y (Da cM HP A4 V)) ?_;refine Yg (IY A6 HP C5 AD A4 Y Y) ?_;refine Yg (AQ Y Y)<|Zv (AL Y Y)<|AG Y<|Zn [6] ?_;refine Zx<|AJ<|AO V ft Y (by exact ⟨by simp_all,V⟩)
  refine A7 Y V<|A7 Y V<|A7 Y V<|Yg (AL Y Y)<|Zv (AL Y Y)<|AG Y<|Zn [6] ?_;refine Zx<|AJ<|AO V ft Y (by exact ⟨by simp_all,V⟩)
 refine A7 Y V<|A7 Y V<|Zv (AL Y Y)<|Zm Y<|Zf Y Y<|Yg (Br Y)<|Zf Y Y<|Af (t:=24) Y V (fun I=>?_) (fun I=>?_);·
  refine Dx Y Wh (Pa #[_,_,_] GS D3 Y) V rfl<|Yg (BM (vs:=[]) (cs:=#[_,_,_]) Y (Da cM HP A4 V)) ?_;refine Yg (IY A6 HP C5 AD A4 Y Y) ?_;refine Yg (AQ Y Y)<|Zv (AL Y Y)<|AG Y<|Zn [6] ?_;refine Zx<|AJ<|AO V ft Y (by exact ⟨by simp_all,V⟩)
 refine A7 Y V<|A7 Y V<|A7 Y V<|Yg (AL Y Y)<|Zv (AL Y Y)<|AG Y<|Zn [6] ?_;refine Zx<|AJ<|AO V ft Y (by exact ⟨by simp_all,V⟩)
end Go.Proofs.YtfhjaegddfehhaaGreatDoor
