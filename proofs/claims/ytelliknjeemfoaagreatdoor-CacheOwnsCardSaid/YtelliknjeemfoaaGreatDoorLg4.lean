/-
  DERIVED: THE SHELF's CONTRACTS AT THIS DUMP, IN PLAIN WORDS (tools/lay-plain.mjs out of 'TryzShelf.lean', which tools/lay-shelf.mjs wrote): THE SAME DECLARATIONS UNDER THE SAME NAMES: 'import', 'namespace', 'open', 'def', 'theorem' AND NOTHING ELSE: no command of the shelf's: FOR A HAND-IN. Each laying: the table of numbers ('.._ren') and one theorem, a field a fact of the dump's own or the kernel's comparison; each contract: ONE APPLICATION.
-/
import Derived.Shelf.Strings.OnBuilder
import Derived.Shelf.Small.Wraps
import Derived.Shelf.Strconv.Itoa3
import Derived.Shelf.Sort.Plain
import Derived.Shelf.Strings.BuilderCap
import Derived.Shelf.Slices.Clone
import Derived.Shelf.Slices.SearchI
import Derived.Shelf.Slices.Cells
import Derived.Shelf.Slices.In.SortNone
import Derived.Shelf.SlicesE.Clone
import Derived.Test.YtelliknjeemfoaaGreatDoorDg4
set_option linter.unusedVariables false
set_option linter.unusedSimpArgs false
namespace Go.Proofs
open Go.Shelf
def Tryz.lays156_ren:Go.Shelf.Ren:=⟨fun|156=>304|165=>320|166=>30|169=>34|240=>73|241=>327|276=>119|277=>330|n=>n,fun|31=>45|9=>9|3=>3|4=>4|0=>0|20=>20|72=>95|76=>98|70=>92|37=>93|75=>97|127=>153|164=>212|5=>5|80=>107|n=>n,fun|n=>n⟩
theorem Tryz.lays156:Go.Proofs.Lays.n156 prog Tryz.lays156_ren:={
 mixed:=by kernel_rfl
 f156:=func304.trans (congrArg some AD)
 f165:=func320.trans (congrArg some AD)
 f166:=func30.trans (congrArg some AD)
 f169:=func34.trans (congrArg some AD)
 f240:=func73.trans (congrArg some AD)
 f241:=func327.trans (congrArg some AD)
 f276:=func119.trans (congrArg some AD)
 f277:=func330.trans (congrArg some AD)
 t0:=ey
 a0:=isAgg0
 z0:=sizeOf0
 v0:=eA
 t3:=D3
 a3:=AE
 z3:=A6
 v3:=HX
 t4:=Mn
 a4:=GW
 z4:=FA
 v4:=Wr
 t9:=HO
 a9:=Kx
 z9:=HD
 v9:=Ks
 t20:=underlying20
 a20:=isAgg20
 z20:=sizeOf20
 v20:=zeroValue20
 t31:=Dd
 a31:=KK
 z31:=Hc
 v31:=dv
 t37:=Hv
 a37:=Tr
 z37:=SP
 v37:=zeroValue93
 t70:=ij
 a70:=isAgg92
 z70:=sizeOf92
 v70:=zeroValue92
 t72:=Th
 a72:=isAgg95
 z72:=sizeOf95
 v72:=zeroValue95
 t75:=underlying97
 a75:=isAgg97
 z75:=sizeOf97
 v75:=zeroValue97
 t76:=underlying98
 a76:=isAgg98
 z76:=sizeOf98
 v76:=zeroValue98
 t127:=underlying153
 a127:=isAgg153
 z127:=sizeOf153
 v127:=zeroValue153
 t164:=underlying212
 a164:=isAgg212
 z164:=sizeOf212
 v164:=zeroValue212}
theorem Tryz.Builder_Extra_156:Builder.Extra prog Tryz.lays156_ren:={
 sizeBuilder:=by kernel_rfl
 liesBuilder:=by kernel_rfl
 t5:=PA
 a5:=W4
 z5:=Lq
 v5:=To
 infoByte:=by kernel_rfl
 cellsByte:=by kernel_rfl
 sizeByte:=by kernel_rfl
 neB5:=by decide}
open Go.RowKit in
theorem Tryz.strings_Join(I o c:Nat)(xs:List C4)(m:C4)(w:A4)(g:∀(j:Nat) x,xs[j]?=some x->w.cell? ⟨I,o+j,none⟩=some (.string x))(J:I<w.heap.size)(K:xs.length<=140737488355328)(B:xs.length<=c)(G:(Lib.join (xs.map (·.data.toList)) m.data.toList).length<=140737488355328):
 Calls prog 304 #[.slice (some ⟨I,o,none⟩) xs.length c,.string m] w fun e O=>e= .returned (.string ⟨(Lib.join (xs.map (·.data.toList)) m.data.toList).toArray⟩)/\Below w.heap.size w O:=Any.strings_Join Tryz.lays156 Tryz.Builder_Extra_156 I o c xs m w g J K B G
def Tryz.lays125_ren:Go.Shelf.Ren:=⟨fun|125=>106|128=>168|129=>169|n=>n,fun|46=>203|3=>3|51=>288|53=>290|4=>4|5=>5|9=>9|n=>n,fun|n=>n⟩
theorem Tryz.lays125:Go.Proofs.Lays.n125 prog Tryz.lays125_ren:={
 mixed:=by kernel_rfl
 f125:=func106.trans (congrArg some AD)
 f128:=func168.trans (congrArg some AD)
 f129:=func169.trans (congrArg some AD)
 t3:=D3
 a3:=AE
 z3:=A6
 v3:=HX
 t4:=Mn
 a4:=GW
 z4:=FA
 v4:=Wr
 t5:=PA
 a5:=W4
 z5:=Lq
 v5:=To
 t9:=HO
 a9:=Kx
 z9:=HD
 v9:=Ks
 t46:=ZS
 a46:=isAgg203
 z46:=fS
 v46:=ir
 t51:=W3
 a51:=K1
 z51:=HJ
 v51:=iu
 t53:=aE
 a53:=cD
 z53:=eE
 v53:=iv}
theorem Tryz.bits_Len(x:Int)(w:A4)(h0:0<=x)(g:x<=18446744073709551615):
 Calls prog 106 #[.int .u64 x] w fun e m=>e= .returned (I0 (Lib.bitLen x.toNat))/\m=w:=Any.bits_Len Tryz.lays125 x w h0 g
def Tryz.lays122_ren:Go.Shelf.Ren:=⟨fun|122=>185|215=>242|n=>n,fun|3=>3|4=>4|n=>n,fun|n=>n⟩
theorem Tryz.lays122:Go.Proofs.Lays.n122 prog Tryz.lays122_ren:={
 mixed:=by kernel_rfl
 f122:=func185.trans (congrArg some AD)
 f215:=func242.trans (congrArg some AD)
 t3:=D3
 a3:=AE
 z3:=A6
 v3:=HX
 t4:=Mn
 a4:=GW
 z4:=FA
 v4:=Wr}
open Go.RowKit in
theorem Tryz.cmp_Compare_int(x y:Int)(w:A4):
 Calls prog 185 #[I0 x,I0 y] w fun e g=>e= .returned (I0 (Lib.compareInt x y))/\g=w:=Any.cmp_Compare_int Tryz.lays122 x y w
def Tryz.laysM171_ren:Go.Shelf.Ren:=⟨fun|171=>33|243=>74|246=>120|283=>171|284=>172|285=>173|286=>174|129=>169|317=>230|318=>231|319=>232|320=>233|337=>265|338=>266|n=>n,fun|3=>3|9=>9|2=>2|4=>4|171=>292|0=>0|53=>290|37=>93|5=>5|173=>294|212=>337|51=>288|20=>20|213=>338|46=>203|232=>412|233=>413|n=>n,fun|17=>1|18=>2|19=>3|n=>n⟩
theorem Tryz.laysM171:Go.Proofs.LaysM.n171 prog Tryz.laysM171_ren:={
 mixed:=by kernel_rfl
 f129:=func169.trans (congrArg some AD)
 f171:=func33.trans (congrArg some AD)
 f243:=func74.trans (congrArg some AD)
 f246:=func120.trans (congrArg some AD)
 f283:=func171.trans (congrArg some AD)
 f284:=func172.trans (congrArg some AD)
 f285:=func173.trans (congrArg some AD)
 f286:=func174.trans (congrArg some AD)
 f317:=func230.trans (congrArg some AD)
 f318:=func231.trans (congrArg some AD)
 f319:=func232.trans (congrArg some AD)
 f320:=func233.trans (congrArg some AD)
 f337:=func265.trans (congrArg some AD)
 f338:=func266.trans (congrArg some AD)
 t0:=ey
 a0:=isAgg0
 z0:=sizeOf0
 v0:=eA
 t2:=underlying2
 a2:=isAgg2
 z2:=sizeOf2
 v2:=zeroValue2
 t3:=D3
 a3:=AE
 z3:=A6
 v3:=HX
 t4:=Mn
 a4:=GW
 z4:=FA
 v4:=Wr
 t5:=PA
 a5:=W4
 z5:=Lq
 v5:=To
 t9:=HO
 a9:=Kx
 z9:=HD
 v9:=Ks
 t20:=underlying20
 a20:=isAgg20
 z20:=sizeOf20
 v20:=zeroValue20
 t37:=Hv
 a37:=Tr
 z37:=SP
 v37:=zeroValue93
 t46:=ZS
 a46:=isAgg203
 z46:=fS
 v46:=ir
 t51:=W3
 a51:=K1
 z51:=HJ
 v51:=iu
 t53:=aE
 a53:=cD
 z53:=eE
 v53:=iv
 t171:=underlying292
 a171:=isAgg292
 z171:=sizeOf292
 v171:=zeroValue292
 t173:=underlying294
 a173:=isAgg294
 z173:=sizeOf294
 v173:=zeroValue294
 t212:=underlying337
 a212:=isAgg337
 z212:=sizeOf337
 v212:=zeroValue337
 t213:=underlying338
 a213:=isAgg338
 z213:=sizeOf338
 t232:=underlying412
 a232:=isAgg412
 z232:=sizeOf412
 v232:=zeroValue412
 t233:=underlying413
 a233:=isAgg413
 z233:=sizeOf413
 v233:=zeroValue413
 g17:=by kernel_rfl
 g18:=by kernel_rfl
 g19:=by kernel_rfl
 i0:=by kernel_rfl
 i2:=by kernel_rfl
 i3:=by kernel_rfl
 i4:=by kernel_rfl
 i5:=by kernel_rfl
 i9:=by kernel_rfl
 i20:=by kernel_rfl
 i37:=by kernel_rfl
 i46:=by kernel_rfl
 i51:=by kernel_rfl
 i53:=by kernel_rfl
 i171:=by kernel_rfl
 i173:=by kernel_rfl
 i212:=by kernel_rfl
 i232:=by kernel_rfl
 i233:=by kernel_rfl
 m17:=by kernel_rfl
 m18:=by kernel_rfl
 m19:=by kernel_rfl}
open Go.RowKit Go.Sort Go.Lib in
theorem Tryz.strconv_Itoa(n:Int)(h0:-9223372036854775808≤n)(h1:n≤9223372036854775807)(w:A4)(htab:Lib.TabIs prog w "internal/strconv.uint64pow10" .u64 Lib.pow10Tab):
 Calls prog 33 #[I0 n] w fun e w'=>e= .returned (.string ⟨(Lib.itoa n).toArray⟩)/\∃k os,w'=grow (w.drewN k) os:=Any.strconv_Itoa Tryz.laysM171 n h0 h1 w htab
def Tryz.lays189_ren:Go.Shelf.Ren:=⟨fun|189=>157|125=>106|257=>223|128=>168|129=>169|294=>255|295=>256|296=>257|297=>258|298=>259|299=>260|216=>261|300=>262|301=>263|328=>300|329=>225|330=>226|331=>301|332=>302|215=>242|343=>319|n=>n,fun|28=>39|3=>3|46=>203|0=>0|51=>288|53=>290|4=>4|183=>280|182=>279|131=>285|5=>5|9=>9|218=>331|222=>104|228=>371|229=>372|n=>n,fun|n=>n⟩
theorem Tryz.lays189:Go.Proofs.Lays.n189 prog Tryz.lays189_ren:={
 mixed:=by kernel_rfl
 f125:=func106.trans (congrArg some AD)
 f128:=func168.trans (congrArg some AD)
 f129:=func169.trans (congrArg some AD)
 f189:=func157.trans (congrArg some AD)
 f215:=func242.trans (congrArg some AD)
 f216:=func261.trans (congrArg some AD)
 f257:=func223.trans (congrArg some AD)
 f294:=func255.trans (congrArg some AD)
 f295:=func256.trans (congrArg some AD)
 f296:=func257.trans (congrArg some AD)
 f297:=func258.trans (congrArg some AD)
 f298:=func259.trans (congrArg some AD)
 f299:=func260.trans (congrArg some AD)
 f300:=func262.trans (congrArg some AD)
 f301:=func263.trans (congrArg some AD)
 f328:=func300.trans (congrArg some AD)
 f329:=func225.trans (congrArg some AD)
 f330:=func226.trans (congrArg some AD)
 f331:=func301.trans (congrArg some AD)
 f332:=func302.trans (congrArg some AD)
 f343:=func319.trans (congrArg some AD)
 t0:=ey
 a0:=isAgg0
 z0:=sizeOf0
 v0:=eA
 t3:=D3
 a3:=AE
 z3:=A6
 v3:=HX
 t4:=Mn
 a4:=GW
 z4:=FA
 v4:=Wr
 t5:=PA
 a5:=W4
 z5:=Lq
 v5:=To
 t9:=HO
 a9:=Kx
 z9:=HD
 v9:=Ks
 t28:=DS
 a28:=db
 z28:=eK
 v28:=zeroValue39
 t46:=ZS
 a46:=isAgg203
 z46:=fS
 v46:=ir
 t51:=W3
 a51:=K1
 z51:=HJ
 v51:=iu
 t53:=aE
 a53:=cD
 z53:=eE
 v53:=iv
 t131:=lR
 a131:=isAgg285
 z131:=sizeOf285
 v131:=mC
 t182:=lf
 a182:=isAgg279
 z182:=sizeOf279
 v182:=mN
 t183:=lj
 a183:=isAgg280
 z183:=sizeOf280
 v183:=mS
 t218:=ln
 a218:=isAgg331
 z218:=sizeOf331
 v218:=mT
 t222:=lr
 a222:=isAgg104
 z222:=X2
 v222:=ar
 t228:=lx
 a228:=isAgg371
 z228:=sizeOf371
 v228:=mc
 t229:=lz
 a229:=isAgg372
 z229:=sizeOf372
 v229:=me}
open Go.Sort Go.RowKit in
theorem Tryz.slices_Sort_int(g off cap:Nat)(zs:List Int)(w:A4)(G:Holds (Value.int .i64) w g off zs.toArray)(m:g<w.heap.size)(B:zs.length<4611686018427387904):
 Calls prog 157 #[.slice (some ⟨g,off,none⟩) zs.length cap] w fun e I=>
  e= .returned (.tuple #[])/\∃n os,I=grow (putRow (Value.int .i64) (Sort.ahead w n) g off (zs.mergeSort fun x y=>decide (x<=y)).toArray) os:=Any.slices_Sort_int Tryz.lays189 g off cap zs w G m B
def Tryz.lays190_ren:Go.Shelf.Ren:=⟨fun|190=>52|125=>106|258=>105|128=>168|129=>169|302=>159|303=>160|304=>161|305=>162|306=>163|307=>164|308=>165|309=>166|310=>167|333=>224|329=>225|330=>226|334=>227|335=>228|336=>229|344=>264|n=>n,fun|31=>45|9=>9|3=>3|46=>203|0=>0|51=>288|53=>290|4=>4|183=>280|182=>279|131=>285|5=>5|218=>331|222=>104|228=>371|229=>372|n=>n,fun|n=>n⟩
theorem Tryz.lays190:Go.Proofs.Lays.n190 prog Tryz.lays190_ren:={
 mixed:=by kernel_rfl
 f125:=func106.trans (congrArg some AD)
 f128:=func168.trans (congrArg some AD)
 f129:=func169.trans (congrArg some AD)
 f190:=func52.trans (congrArg some AD)
 f258:=func105.trans (congrArg some AD)
 f302:=func159.trans (congrArg some AD)
 f303:=func160.trans (congrArg some AD)
 f304:=func161.trans (congrArg some AD)
 f305:=func162.trans (congrArg some AD)
 f306:=func163.trans (congrArg some AD)
 f307:=func164.trans (congrArg some AD)
 f308:=func165.trans (congrArg some AD)
 f309:=func166.trans (congrArg some AD)
 f310:=func167.trans (congrArg some AD)
 f329:=func225.trans (congrArg some AD)
 f330:=func226.trans (congrArg some AD)
 f333:=func224.trans (congrArg some AD)
 f334:=func227.trans (congrArg some AD)
 f335:=func228.trans (congrArg some AD)
 f336:=func229.trans (congrArg some AD)
 f344:=func264.trans (congrArg some AD)
 t0:=ey
 a0:=isAgg0
 z0:=sizeOf0
 v0:=eA
 t3:=D3
 a3:=AE
 z3:=A6
 v3:=HX
 t4:=Mn
 a4:=GW
 z4:=FA
 v4:=Wr
 t5:=PA
 a5:=W4
 z5:=Lq
 v5:=To
 t9:=HO
 a9:=Kx
 z9:=HD
 v9:=Ks
 t31:=Dd
 a31:=KK
 z31:=Hc
 v31:=dv
 t46:=ZS
 a46:=isAgg203
 z46:=fS
 v46:=ir
 t51:=W3
 a51:=K1
 z51:=HJ
 v51:=iu
 t53:=aE
 a53:=cD
 z53:=eE
 v53:=iv
 t131:=lR
 a131:=isAgg285
 z131:=sizeOf285
 v131:=mC
 t182:=lf
 a182:=isAgg279
 z182:=sizeOf279
 v182:=mN
 t183:=lj
 a183:=isAgg280
 z183:=sizeOf280
 v183:=mS
 t218:=ln
 a218:=isAgg331
 z218:=sizeOf331
 v218:=mT
 t222:=lr
 a222:=isAgg104
 z222:=X2
 v222:=ar
 t228:=lx
 a228:=isAgg371
 z228:=sizeOf371
 v228:=mc
 t229:=lz
 a229:=isAgg372
 z229:=sizeOf372
 v229:=me}
open Go.Sort Go.RowKit in
theorem Tryz.slices_Sort_string(g off cap:Nat)(B:List (List UInt8))(w:A4)(I:Holds encStr w g off B.toArray)(m:g<w.heap.size)(G:B.length<4611686018427387904):
 Calls prog 52 #[.slice (some ⟨g,off,none⟩) B.length cap] w fun e J=>
  e= .returned (.tuple #[])/\∃n os,J=grow (putRow encStr (Sort.ahead w n) g off (B.mergeSort fun x y=>decide (x<=y)).toArray) os:=Any.slices_Sort_string Tryz.lays190 g off cap B w I m G
def Tryz.laysNm217_ren:Go.Shelf.Ren:=⟨fun|17=>181|n=>n,fun|24=>45|9=>9|3=>3|4=>4|0=>0|n=>n,fun|n=>n⟩
theorem Tryz.laysNm217:Go.Proofs.Lays2.n17 prog Tryz.laysNm217_ren:={
 mixed:=by kernel_rfl
 f17:=func181.trans (congrArg some AD)
 t0:=ey
 a0:=isAgg0
 z0:=sizeOf0
 v0:=eA
 t3:=D3
 a3:=AE
 z3:=A6
 v3:=HX
 t4:=Mn
 a4:=GW
 z4:=FA
 v4:=Wr
 t9:=HO
 a9:=Kx
 z9:=HD
 v9:=Ks
 t24:=Dd
 a24:=KK
 z24:=Hc
 v24:=dv}
open Go.RowKit Go.Lib Go.Sort in
theorem Tryz.slices_Reverse_string(g off cap:Nat)(zs:List (List UInt8))(w:A4)(B:Holds encStr w g off zs.toArray)(m:zs.length<=9223372036854775807):
 Calls prog 181 #[.slice (some ⟨g,off,none⟩) zs.length cap] w fun e G=>e= .returned (.tuple #[])/\∃n,G=putRow encStr (Sort.ahead w n) g off zs.reverse.toArray:=Any.slices_Reverse_string Tryz.laysNm217 g off cap zs w B m
open Go.RowKit Go.Lib Go.Sort in
theorem Tryz.slices_Reverse_string_empty(a:B8)(cap:Nat)(w:A4):
 Calls prog 181 #[.slice a 0 cap] w fun e g=>e= .returned (.tuple #[])/\g=w:=Any.slices_Reverse_string_empty Tryz.laysNm217 a cap w
open Go.RowKit Go.Sort in
theorem Tryz.slices_Sort_string_none(p:B8)(cap:Nat)(w:A4):
 Calls prog 52 #[.slice p 0 cap] w fun e g=>e= .returned (.tuple #[])/\g=w:=Any.slices_Sort_string_none Tryz.lays190 p cap w
open Go.RowKit Go.Sort in
theorem Tryz.slices_Sort_int_none(p:B8)(cap:Nat)(w:A4):
 Calls prog 157 #[.slice p 0 cap] w fun e g=>e= .returned (.tuple #[])/\g=w:=Any.slices_Sort_int_none Tryz.lays189 p cap w
end Go.Proofs
namespace Go.Proofs.YtelliknjeemfoaaGreatDoor
open Go.Proofs.Tryz
open Go Go.RowKit Gw
set_option maxRecDepth 100000
attribute [local irreducible] Gw.At Gw.Nx Gw.Ops
def Fz(l:List UInt8):A2:= .string (str l)
theorem R5(a b:List UInt8):str a++str b=str (a++b):=by
 apply ByteArray.ext;simp [str]
theorem Gq(a:List UInt8):(str a).size=a.length:=by simp [str,ByteArray.size]
theorem LM(a:List UInt8):(str a).data.toList=a:=by simp [str]
theorem ZB(xs:List (List UInt8)):Lib.join xs []=xs.flatten:=by
 unfold Lib.join;induction xs with
 |nil=>rfl
 |cons x r ih=>cases r with
  |nil=>simp
  |cons y r=>rw [List.intercalate_cons_cons];rw [ih];simp
variable{o:Nat}
theorem A02{w:A4}{b:Nat}{c:AM}{T:AK}{z:Nat×Nat}{cs:List A2}(g:w.heap[b]?=some (.cells c T z))(h:Bv c o cs)(j:Nat)(v:A2)(m:cs[j]?=some v):w.cell? ⟨b,o+j,none⟩=some v:=by
 have:=H7 g h j v m;rcases S3 j with rfl|h0
 · simpa [Addr.add]using this
 · simpa [Addr.add,Nat.ne_of_gt h0]using this
theorem mF(g o cap:Nat)(cs:AM)(T:AK)(z:Nat×Nat)(xs:List (List UInt8))(hc:Bv cs o (xs.map Fz))(J:xs.length<=140737488355328)(m:xs.length<=cap)(B:xs.flatten.length<=140737488355328):
 Az prog 304 #[.slice (some ⟨g,o,none⟩) xs.length cap,.string (str [])] [[(g,.cells cs T z)]] (.string (str xs.flatten)):=
 Rc (Rl:=fun v=>v= .string (str xs.flatten)) (fun w K=>by
  have G:=K (g,.cells cs T z) B6;have h:=Tryz.strings_Join g o cap (xs.map str) (str []) w (fun j x hx=>by
   refine A02 G hc j _ ?_;rw [FF]at hx⊢;cases h1:xs[j]?with
   |none=>rw [h1]at hx;cases hx
   |some y=>rw [h1]at hx;cases hx;rfl) (by
    rcases Ft g w.heap.size with h1|h1
    · exact h1
    · rw [LR h1]at G;cases G) (by simpa using J) (by simpa using m) (by
    rw [Mz];have:(xs.map ((fun s:C4=>s.data.toList)∘str))=xs:=by simp [str,nm]
    rw [this,LM,ZB];exact B)
  rw [Bm]at h;refine h.mono ?_;rintro e O ⟨rfl,I⟩;refine ⟨_,V,?_,I⟩;rw [Mz];have:(xs.map ((fun s:C4=>s.data.toList)∘str))=xs:=by simp [str,nm]
  rw [this,LM,ZB];rfl) (fun v hv=>⟨hv,rfl⟩)
def vk(head rec:List UInt8):List UInt8:=sha (2::head++rec)
theorem iO(l:List UInt8)(B:l.length<=140737488355000)(g:AK)(m:Nat×Nat):Az prog 239 #[.string (str l)] [[(4,.cells (Ec.map Cq).toArray g m)]] (.string (str (sha l))):=by
 have:=oo (str l) (by rw [Gq];exact B) g m;rw [LM]at this;exact this
theorem Lm(B o cap I:Nat)(cs:AM)(T O:AK)(z W:Nat×Nat)(xs:List (List UInt8))(m:List UInt8)(hc:Bv cs o (xs.map Fz))(U:xs.length<=140737488355328)(g:xs.length<=cap)(J:m.length+xs.flatten.length<=140737488355000)(G:AK)(K:Nat×Nat):
 Az prog 303 #[.slice (some ⟨B,o,none⟩) xs.length cap,I1 I] [[(B,.cells cs T z)],[(I,.cells #[Fz m] O W)],[(4,.cells (Ec.map Cq).toArray G K)]] (.string (str (sha (m++xs.flatten)))):=by
 refine KS func303 V ntmps303 V ?_;intro u R;unfold Fz;refine Zb [0,1] ?_;refine A3<|D2 Y<|Aw (n:=6) (0::0::2::7::15::31::[]) 20 AD AD V<|Bk 0 V Kx Y<|A1 1 V (AQ Y)<|Zz (l:=[2])<|C0 [true] [(0,(_,_))] V rfl (Zu [_,_] Y call304 Y V (mF B o cap cs T z xs hc U g A0)) ?_ (fun _ _ h=>h.elim) Am;rintro _ _ ⟨rfl,rfl⟩;refine CA<|A1 3 rfl (MV Y Y (by rw [Gq,Gq];omega))<|Yw 4 31 rfl (Zu [_] Y call239 Y rfl ((R5 m xs.flatten)▸iO (m++xs.flatten) (by rw [C2];omega) G K))<|F1<|A1 5 V (BI Y)<|Ao<|Zx<|AJ<|AX V results303 Y (by exact ⟨V,V⟩)
theorem QW(m:C4):BQ prog 268 #[.string m] [] (fun r H'=>∃b,r= .func (.func 303) #[] #[I1 b]/\H'=[[(b,.cells #[.string m] 9 (0,0))]]):=by
 refine Se func268 ntmps268 [0] ?_;intro u R;refine A3<|Ze (Bx #[_])<|AF fun g=>AH Y<|A3<|Zv (Bg (vs:=[]) (us:=[_]) Y Y)<|Ax Y<|AX V results268 Y (by exact ⟨_,V,V⟩)
def Qv(z:Nat):List (Nat×Bool):=if h:z<128 then [(z,true)]else(z%128,false)::Qv (z/128)
termination_by z
decreasing_by omega
theorem Kb(z:Nat):Qv z=(z%128,decide (z<128))::(if z<128 then []else Qv (z/128)):=by
 rw [Qv];by_cases h:z<128;· simp [h,eW h]
 · simp [h]
theorem yD(z:Nat):∀x∈Qv z,x.1<128:=by
 induction z using Nat.strongRecOn with
 |_ z ih=>
  intro x hx;rw [Kb]at hx;rcases Dg.1 hx with rfl|hx
  · exact hY _ An
  · by_cases h:z<128
    · rw [B0 h]at hx;cases hx
    · rw [As h]at hx;exact ih (z/128) A0 x hx
theorem uF(z k:Nat)(h:z<128^(k+1)):(Qv z).length<=k+1:=by
 induction k generalizing z with
 |zero=>rw [Kb,B0 (by simpa using h)];simp
 |succ k ih=>
  rw [Kb];by_cases g:z<128;· rw [B0 g];simp
  · rw [As g,EV]
    have:z/128<128^(k+1):=by
     rw [hQ]at h;exact py (by rw [oS];exact h)
    have:=ih _ this;omega
def gb(x:Nat×Bool):UInt8:=UInt8.ofNat (if x.2 then x.1 else x.1+128)
theorem vc(x:Nat×Bool)(h:x.1<128):u8v (gb x)= .int .u8 ((if x.2 then x.1 else x.1+128:Nat):Int):=by
 unfold u8v gb;rw [UInt8.toNat_ofNat',eW (by split<;>omega)]
def zz(n:Int):Nat:=(if n<0 then-(2*n) -1 else 2*n).toNat
def Tf(n:Int):List UInt8:=(Qv (zz n)).map gb
theorem yl(n:Int)(g:-4611686018427387903<=n)(h2:n<=4611686018427387903):zz n<9223372036854775808:=by unfold zz;split<;>omega
theorem uh(n:Int):0<(Tf n).length:=by unfold Tf;rw [Kb];simp
theorem Oy(n:Int)(g:-4611686018427387903<=n)(h2:n<=4611686018427387903):(Tf n).length<=9:=by
 unfold Tf;rw [Bm];exact uF (zz n) 8 (by have:=yl n g h2;omega)
theorem vy(y:Nat)(h:y<18446744073709551616):bits .and .u64 (y:Int) 127=((y%128:Nat):Int):=by
 have:=u64_and_nat y 127 h An;rw [nat_mask7]at this;exact this
theorem xl(g:Nat)(h:g<128):bits .or .u8 (g:Int) 128=((g+128:Nat):Int):=by
 have:=u8_or_nat g 128 A0 An;rw [Nat.or_comm,nat_join 7 128 g An h,Nat.add_comm]at this;exact this
theorem oJ(a:Nat)(h:a<18446744073709551616):a^^^18446744073709551615=18446744073709551615 -a:=by
 have g:BitVec.ofNat 64 a^^^BitVec.allOnes 64= ~~~BitVec.ofNat 64 a:=BitVec.xor_allOnes;have h2:=congrArg BitVec.toNat g
 rw [BitVec.toNat_xor,BitVec.toNat_not,BitVec.toNat_ofNat,eW h]at h2;exact h2
theorem A14(n:Int)(B:-4611686018427387903<=n)(h2:n<=4611686018427387903):bits .xor .u64 (IntKind.u64.wrap (IntKind.u64.wrap n*2^(1:Int).toNat)) (IntKind.u64.wrap (n/2^(63:Int).toNat))=(zz n:Int):=by
 rw [IntKind.wrap_u64,IntKind.wrap_u64,IntKind.wrap_u64];rw [show(2:Int)^(1:Int).toNat=2 from rfl,show(2:Int)^(63:Int).toNat=9223372036854775808 from rfl];by_cases h:n<0
 · obtain ⟨m,g⟩:∃m:Nat,n=-(m:Int):=⟨n.natAbs,by omega⟩
   have e1:n%18446744073709551616*2%18446744073709551616=((18446744073709551616 -2*m:Nat):Int):=by omega
   have e2:n/9223372036854775808%18446744073709551616=((18446744073709551615:Nat):Int):=by omega
   rw [e1,e2,u64_xor_nat _ _ A0 A0,oJ _ A0];unfold zz;rw [B0 h];omega
 · obtain ⟨m,g⟩:∃m:Nat,n=(m:Int):=⟨n.natAbs,by omega⟩
   have e1:n%18446744073709551616*2%18446744073709551616=((2*m:Nat):Int):=by omega
   have e2:n/9223372036854775808%18446744073709551616=((0:Nat):Int):=by omega
   rw [e1,e2,u64_xor_nat _ _ A0 A0,Nat.xor_zero];unfold zz;rw [As h];omega
theorem Bc{P:Program}{cx:Cx}{c:Code}{Q:Exit->Act->A4->Prop}{env:Env}{H:Hp}(h:At P cx c Q env ([]::H)):At P cx c Q env H:=Xf (H':=[]::H) rfl h
theorem Vb{α:Type}{l pre g:List α}{x:α}(h:l=pre++x::g):x∈l:=by rw [h];simp
theorem ZT(I z:Nat)(hz:z<18446744073709551616):
 U7 prog 267 #[I1 I] [[(I,.cells #[.int .u64 (z:Int)] 290 (0,0))]] (fun x=>#[.int .u8 (x.1:Int),.bool x.2]) (Qv z):=by
 intro l J hy s K;refine Se func267 ntmps267 [0,1] ?_;intro u R;refine AP<|Zb [0,1] ?_;refine Ay (e0:=[]) (fun m e H=>∃(pre:List (Nat×Bool)) (y:Nat) (s:List A8),m=0+y/\(Qv z=pre++Qv y/\y<18446744073709551616/\J pre s)/\e=[]/\H=[[(I,.cells #[.int .u64 (y:Int)] 290 (0,0))],s]) (by exact ⟨[],z,s,V,⟨V,hz,K⟩,V,V⟩) Wp ?_;rintro _ _ _ ⟨pre,y,s,rfl,⟨g,G,K⟩,rfl,rfl⟩;refine AP<|A3<|Zl cD Y ?_;refine Zv (Ar (n:=128) Y Y)<|D2 Y<|Zq ?_;have U:=hy pre (y%128,decide (y<128)) (if y<128 then []else Qv (y/128)) s (by rw [g,<-Kb]) K
 refine Zg<|Zm Y<|Zl cD Y ?_;refine KY (rO (m:=(y:Int)) (n:=127) Y Y (vy y G)) V rfl ?_;refine Ba (UN aE PA Y A0)<|Zm Y<|Ze (GX (vs:=[_,_]) Y Y (U) Wp) ?_;rintro _ _ ⟨_,⟨X,rfl,rfl,B⟩,rfl⟩;refine Zv (Bh Y)<|Zm Y<|Ab (t:=13) Y V (fun W=>by cases W)<|fun W=>Zf Y Y<|BW Y Y<|Z0<|Zn [0,1,15] ?_;refine Zx<|Ap Y (fun O=>?_) (fun O=>?_);·
  refine AJ<|Zt<|Ag<|Zt<|Ag ?_;refine D6 V results267 (by
   exact ⟨X,V,by
    have e:Qv z=pre++[(y%128,decide (y<128))]:=by rw [g,Kb y,B0 O]
    rw [e];exact B⟩)
 refine B4<|Zg<|Zl cD Y ?_;refine Ba (Po (n:=7) Y Y (by first|decide|(simp [IntKind.bits];done)|(simp [IntKind.bits];omega)))<|Xe (Zs eE Y Y rfl) ?_;refine Z0<|A9<|DM (e:=[]) (h:=by exact ⟨pre++[(y%128,decide (y<128))],y/2^7,X,rfl,⟨by rw [g,Kb y,As O];simp,by omega,B⟩,rfl,rfl⟩)
theorem ZR(z:Int):BQ prog 236 #[.int .u64 z] [] (fun r H'=>∃b,r= .func (.func 267) #[] #[I1 b]/\H'=[[(b,.cells #[.int .u64 z] 290 (0,0))]]):=by
 refine Se func236 ntmps236 [0] ?_;intro u R;refine A3<|Ze (Bx #[_])<|AF fun g=>AH Y<|A3<|Zv (Bg (vs:=[]) (us:=[_]) Y Y)<|Ax Y<|AX V results236 Y (by exact ⟨_,V,V⟩)
theorem QP(n:Int)(X:-4611686018427387903<=n)(h2:n<=4611686018427387903):Az prog 178 #[I0 n] [] (.tuple #[.string (str (Tf n)),I0 0]):=by
 have ic:=mL;have j3:=yl n X h2
 have G:=Oy n X h2;unfold Tf at G;rw [Bm]at G;refine Ct func178 V ntmps178 V ?_;intro u R;refine Zb [0] ?_;refine A3<|Za Y<|AH Y<|B7 Y<|Zv (Dz Y Y)<|Zm Y<|Ae (t:=9) Y V (fun af=>by omega)<|fun af=>Zf Y Y<|Yg (Ev Y Y)<|BW Y Y<|A5<|Ap Y (fun ax=>by omega)<|fun ax=>AC<|CD<|Ze (Al zeroValue93 #[_])<|AF fun bo=>A5<|B7 Y<|Zv (Eu D3 aE Y V) ?_
 (refine Ba (iY Y Y ?_ ?_ rfl) ?_;(focus (first|decide|omega|(simp [IntKind.bits];done)|(simp [IntKind.bits];omega)));(focus (first|decide|omega|(simp [IntKind.bits];done)|(simp [IntKind.bits];omega))))
 refine Zm Y ?_
 (refine Ba (rD Y Y ?_ ?_ rfl) ?_;(focus (first|decide|omega|(simp [IntKind.bits];done)|(simp [IntKind.bits];omega)));(focus (first|decide|omega|(simp [IntKind.bits];done)|(simp [IntKind.bits];omega))))
 refine Zv (Eu D3 aE Y V)<|KY (zD Y Y (A14 n X h2)) V rfl ?_;refine Zc [_] Y call236 Y V (ZR _) ?_;rintro _ _ ⟨_,⟨bz,rfl,rfl⟩,rfl⟩;refine Z0<|Zn [4,20] ?_;refine Zx<|AP<|Zb [4,20] ?_;refine Bc<|Qk (H0:=_) (R:=_) (I:=(fun pre H=>∃v s,H=[[(bo,.cells #[v] 93 (0,0))],s]/\Row 5 v ((pre.map gb).map u8v) s)) (asg:=fun x=>[(6,.bool x.2),(5,.int .u8 (x.1:Int)),(22,.bool x.2),(21,.int .u8 (x.1:Int))]) V Y call267 (ZT bz (zz n) A0) Y V Wp (⟨_,[],V,IB _⟩) ?ha_2 ?hbd_2 ?hk_2
 case ha_2=>
  intro _ x _ _;refine A3<|AH Y<|Zg<|Za Y<|Z0 ?_;exact rY
 case hbd_2=>
  intro l pre x d9 u H1 R1 U hI;obtain ⟨v,s,rfl,W⟩:=hI;have K:=yD _ x (Vb U)
  have bn:=vc x K;have cu:=congrArg List.length U
  rw [C2,EV]at cu;obtain ⟨gv,cv,rfl⟩:=W.form;refine AP<|B7 Y<|Zv (Bh Y)<|A5<|AY Y (fun g=>?_) (fun g=>?_);focus
   have O:x.2=false:=by simpa using g
   refine Zg<|Zm Y<|KY (ra (m:=(x.1:Int)) (n:=128) Y Y (xl x.1 K)) V rfl ?_;refine AH Y<|Zg<|Zl Tr Y ?_;refine Zm Y<|Ze (Ah (vs:=[_]) (cs:=[_]) Hv Lq To Y V rfl V rfl V) ?_;rintro _ _ ⟨b2,rfl,rfl⟩
  rotate_left
  focus
   have O:x.2=true:=by simpa using g
   refine B4<|Zg<|Zl Tr Y ?_;refine Zm Y<|Ze (Ah (vs:=[_]) (cs:=[_]) Hv Lq To Y V rfl V rfl V) ?_;rintro _ _ ⟨b4,rfl,rfl⟩
  all_goals
   refine Ze (FO (by_:=1) (news:=[_]) Hv (V:Tryz.prog.info? 5=some Tryz.t5) V rfl V rfl Y W Y Wo Wh B2 V HQ An (by(simp only [Bm];omega)) (by(simp only [Bm];omega))) ?_;rintro _ _ ⟨sb,J,rfl⟩;obtain ⟨gb,cb,rfl⟩:=J.form;refine Xe (Zs SP Y Y V) ?_;refine Z0<|A9<|Fq V (by
    exact ⟨_,_,V,by
     rw [CN,CN,RC,RC,bn,O];exact J⟩)
 intro D1 H2 Z;obtain ⟨v,s,rfl,W⟩:=Z;have B:=uh n
 unfold Tf at B;obtain ⟨gv,cv,cur,zv,rfl,rfl,gy,ek,gm,cO,gq⟩:=W.some (by rw [Bm];exact B);refine Zn [4] ?_;refine A9<|CD<|Zl Tr Y ?_;refine Zo Wh (K6 Hv PA HO Y (by exact ⟨cO,by simp⟩)) ?_;refine Za Y<|Ax Y<|Gv V (dD results178 Y Y) Wo (by exact ⟨V,V⟩)
structure AU where
 t:Int
 k:Int
 v:V3
deriving DecidableEq
abbrev AU.A88(c:AU):Array Go.Value:=#[I0 c.t,I0 c.k,I0 c.v.a,I0 c.v.b,I0 c.v.c]
structure Chg where
 t:Int
 k:Int
 had:Bool
 o:V3
 has:Bool
 n:V3
deriving DecidableEq
abbrev Chg.A87(c:Chg):Array Go.Value:=#[I0 c.t,I0 c.k,.bool c.had,I0 c.o.a,I0 c.o.b,I0 c.o.c,.bool c.has,I0 c.n.a,I0 c.n.b,I0 c.n.c]
def AU.zero:AU:=⟨0,0,V3.zero⟩
def AU.ok(r:AU):Prop:=r.v.ok/\(0<=r.t/\r.t<=3)/\(1<=r.k/\r.k<=1000000)
instance(r:AU):Decidable r.ok:=inferInstanceAs(Decidable (_/\_/\_))
def Chg.before(c:Chg):AU:=if c.had then⟨c.t,c.k,c.o⟩else AU.zero
def Chg.after(c:Chg):AU:=if c.has then⟨c.t,c.k,c.n⟩else AU.zero
variable{c:Chg}
theorem PD(h:c.had=true):c.before=⟨c.t,c.k,c.o⟩:=B0 h
theorem vG(h:c.had=false):c.before=AU.zero:=As (by rw [h];decide)
theorem Kq(h:c.has=true):c.after=⟨c.t,c.k,c.n⟩:=B0 h
theorem A13(h:c.has=false):c.after=AU.zero:=As (by rw [h];decide)
def Chg.ok(c:Chg):Prop:=¬((¬c.had/\¬c.has)\/(c.had/\c.has/\c.o=c.n))/\¬((c.had/\¬c.before.ok)\/(c.has/\¬c.after.ok))/\(c.had\/c.o=V3.zero)/\(c.has\/c.n=V3.zero)
instance(c:Chg):Decidable c.ok:=inferInstanceAs(Decidable (_/\_/\_/\_))
theorem Jw(n lo hi:Int):Az prog 59 #[I0 n,I0 lo,I0 hi] [] (.bool (decide (lo<=n/\n<=hi))):=by
 refine Se func59 ntmps59 [0,1,2] ?_;intro u R;refine A3<|AH Y<|AN Y<|Zm Y<|Zv (IL Y Y)<|Zm Y<|Ae (t:=10) Y V (fun g=>?_) (fun g=>?_);focus
  refine Zf Y Y<|Zf Y Y<|Yg (N9 Y Y)<|Zv (AL Y Y) ?_
 rotate_left
 focus
  refine AG<|C5<|Zv (AO Y Y) ?_
 all_goals
  refine Ax Y<|AX V results59 Y (by exact ⟨by simp [g],V⟩)
theorem kM(c:Chg):Az prog 113 #[.agg c.A87] [] (.tuple #[.agg c.before.A88,.bool c.had]):=by
 refine Se func113 ntmps113 [0] ?_;intro u R;refine A3<|Ze (Bx #[_,_,_,_,_,_,_,_,_,_])<|AF fun m=>Ze (Al G1 #[_,_,_,_,_])<|AF fun B=>D2 Y<|A3<|Zh 2 CC V rfl FA Y<|Zl GW Y ?_;refine Zv (Bh Y)<|A5<|AY Y (fun g=>?_) (fun g=>?_);·
  refine A3<|Zv (BM (vs:=[]) (cs:=#[_,_,_,_,_]) Y (Aa (pl:=#[(0,1),(1,1),(2,3)]) G1 H3 (fun _=>by kernel_rfl) V))<|Xe (Xw B3 _) ?_;refine Ax Y<|Zt<|CP V results113 Y Wh (Av DE B3 Wn (V)) Y (by simp only [fz,TX,eh]at g;exact ⟨by(rw [vG g,g];rfl),V⟩)
 refine AC<|CD<|Zh 0 CC V rfl A6 Y<|Zl AE Y ?_;refine Zh 1 CC V rfl A6 Y<|Zl AE Y ?_;refine Zh 3 CC V rfl E0 Y<|Zo Wh (Pa #[_,_,_] HS E0 Y) ?_;refine Zv (BM (vs:=[(0,_),(1,_),(2,_)]) (cs:=#[_,_,_,_,_]) Y (Aa (pl:=#[(0,1),(1,1),(2,3)]) G1 H3 (fun _=>by kernel_rfl) rfl))<|Xe (BF B3 Y Y (by(simp [Value.oneCell',Value.cells];done)) Wu B2 Fm Wn (by exact BA _)) ?_;refine B1 Y<|Zn [2,3] ?_;refine Zx<|AJ<|CP V results113 Y Wh (Av DE B3 Wn (V)) Y (by simp only [fz,TX,eh]at g;exact ⟨by(rw [PD g,g];rfl),V⟩)
theorem SB(c:Chg):Az prog 67 #[.agg c.A87] [] (.tuple #[.agg c.after.A88,.bool c.has]):=by
 refine Se func67 ntmps67 [0] ?_;intro u R;refine A3<|Ze (Bx #[_,_,_,_,_,_,_,_,_,_])<|AF fun m=>Ze (Al G1 #[_,_,_,_,_])<|AF fun B=>D2 Y<|A3<|Zh 6 CC V rfl FA Y<|Zl GW Y ?_;refine Zv (Bh Y)<|A5<|AY Y (fun g=>?_) (fun g=>?_);·
  refine A3<|Zv (BM (vs:=[]) (cs:=#[_,_,_,_,_]) Y (Aa (pl:=#[(0,1),(1,1),(2,3)]) G1 H3 (fun _=>by kernel_rfl) V))<|Xe (Xw B3 _) ?_;refine Ax Y<|Zt<|CP V results67 Y Wh (Av DE B3 Wn (V)) Y (by simp only [fz,TX,eh]at g;exact ⟨by(rw [A13 g,g];rfl),V⟩)
 refine AC<|CD<|Zh 0 CC V rfl A6 Y<|Zl AE Y ?_;refine Zh 1 CC V rfl A6 Y<|Zl AE Y ?_;refine Zh 7 CC V rfl E0 Y<|Zo Wh (Pa #[_,_,_] HS E0 Y) ?_;refine Zv (BM (vs:=[(0,_),(1,_),(2,_)]) (cs:=#[_,_,_,_,_]) Y (Aa (pl:=#[(0,1),(1,1),(2,3)]) G1 H3 (fun _=>by kernel_rfl) rfl))<|Xe (BF B3 Y Y (by(simp [Value.oneCell',Value.cells];done)) Wu B2 Fm Wn (by exact BA _)) ?_;refine B1 Y<|Zn [2,3] ?_;refine Zx<|AJ<|CP V results67 Y Wh (Av DE B3 Wn (V)) Y (by simp only [fz,TX,eh]at g;exact ⟨by(rw [Kq g,g];rfl),V⟩)
theorem SA(r:AU):Az prog 114 #[.agg r.A88] [] (.bool (decide r.ok)):=by
 refine Se func114 ntmps114 [0] ?_;intro u R;refine A3<|Ze (Bx #[_,_,_,_,_])<|AF fun K=>D2 Y<|A3<|AH Y<|AP<|Zb [3,1] ?_;refine Ay (e0:=[(3,_)]) (fun m e H=>∃(i:Nat),m=3 -i/\(i<=3/\(∀j,j<i->inV (r.v.get j)))/\e=[(3,I0 (i:Int))]/\H=[]) (by exact ⟨0,V,⟨by omega,by intro j J;omega⟩,V,V⟩) Wp ?_;rintro _ _ _ ⟨i,rfl,⟨hi,B⟩,rfl,rfl⟩;refine B7 Y<|Zv (Ar (n:=3) Y Y)<|A5<|Ap Y (fun G=>?_) (fun G=>?_);·
  refine B4<|Zq<|AP<|AN Y<|Zh 2 H3 V rfl E0 Y ?_;refine Ba (IZ K0 A6 Y Y A0)<|Zl AE Y (hv:=by rw [P0];exact wj _ _ r.v _ A0) ?_;refine Xr [_,_,_] Y call59 Y V (Jw _ _ _) ?_;refine Zv (Cz Y)<|A5<|Ap Y (fun g=>?_) (fun g=>?_);·
   refine A3<|Ax Y<|Ag<|Zt<|Zt<|Ag<|Zt<|AX rfl results114 Y (by exact ⟨by rw [F0 (fun h9:r.ok=>g (yo.1 h9.1 i A0))],rfl⟩)
  refine AC<|A9<|Zx<|Zg<|Zm Y<|Ya (n:=1) Y Y<|B1 Y<|HB (by exact ⟨i+1,V,⟨by omega,wL B (Kf.1 g)⟩,V,V⟩)
 refine BB<|Zt<|Zt<|AV<|CD<|Zh 0 H3 V rfl A6 Y<|Zl AE Y ?_;refine Xr [_,_,_] Y call59 Y V (Jw _ _ _) ?_;refine Zm Y<|Ae (t:=17) Y V (fun I=>?_) (fun I=>?_);focus
  refine Yf 1 H3 V rfl A6 Y<|Yl AE Y ?_;refine Xr [_,_,_] Y call59 Y V (Jw _ _ _) ?_;refine Zv (AL Y Y) ?_
 rotate_left
 focus
  refine AG<|C5<|Zv (AO Y Y) ?_
 all_goals
  refine Ax Y<|AX V results114 Y (by have hv:r.v.ok:=yo.2 (fun j J=>B j A0);exact ⟨by simp only [AU.ok,hv,I,cF,false_and,dd],V⟩)
theorem kL(c:Chg):Az prog 60 #[.agg c.A87] [] (.bool (decide c.ok)):=by
 refine Se func60 ntmps60 [0] ?_;intro u R;refine A3<|Ze (Bx #[_,_,_,_,_,_,_,_,_,_])<|AF fun b1=>AH Y<|A3<|Zo Wh (Pa #[_,_,_,_,_,_,_,_,_,_] HG Cd Y)<|Xr [_] Y call113 Y V (kM c)<|Zm Y<|Zd Y V<|Zd Y V<|Ze (Al G1 #[_,_,_,_,_])<|AF fun b2=>Xe (Xw B3 _)<|AH Y<|A3<|Zo Wh (Pa #[_,_,_,_,_,_,_,_,_,_] HG Cd Y)<|Xr [_] Y call67 Y V (SB c)<|Zm Y<|Zd Y V<|Zd Y V<|Ze (Al G1 #[_,_,_,_,_])<|AF fun b3=>Xe (Xw B3 _)<|B1 Y<|Zn [1,3,4,5,6] ?_;refine Zx<|Zq<|Zb [1,3,4,5,6] ?_;refine Ch (e0:=[]) (H0:=[]) (fun e H=>∃(U:Bool),(U=decide ((¬c.had/\¬c.has)\/(c.had/\c.has/\c.o=c.n)))/\e=[(35,.bool U)]/\H=[]) Wp ?hx_1 ?hy_1
 case hx_1=>
  refine Zg<|Zm Y<|Zv (Bh Y)<|Zm Y<|Ab (t:=19) Y V (fun W=>?_) (fun W=>?_);focus
   refine Zf Y Y<|Yg (Bh Y)<|BT Y Y<|Zm Y<|Ab (t:=23) Y V (fun X=>?_) (fun X=>?_);·
    refine AG<|AG<|AG<|AG<|AG<|C5<|BT Y Y<|Z0<|HM (e:=[(35,_)]) (h:=by exact ⟨_,by simp_all,V,V⟩)
   focus
    refine Zf Y Y<|Zf Y Y<|Ab (t:=25) Y V (fun Z=>?_) (fun Z=>?_);focus
     refine Zf Y Y<|Yg (AL Y Y)<|Zf Y Y<|Ab (t:=28) Y V (fun af=>?_) (fun af=>?_);refine Yf 3 CC V rfl E0 Y<|DY Y Wh (Pa #[_,_,_] HS E0 Y) V rfl<|Yf 7 CC V rfl E0 Y<|DY Y Wh (Pa #[_,_,_] HS E0 Y) V rfl<|Yg (KX AD K0 D3 AE A6 Y Y) ?_;refine Yg (AL Y Y)<|BW Y Y<|Z0<|HM (e:=[(35,_)]) (h:=by exact ⟨_,by simp_all,V,V⟩)
    rotate_left
    focus
     refine C5<|Yg (AO Y Y)<|Zf Y Y ?_
  rotate_left 2
  focus
   refine AG<|BW Y Y<|Zm Y<|Zf Y Y<|Zf Y Y<|Ab (t:=25) Y V (fun ax=>?_) (fun ax=>?_);focus
    refine Zf Y Y<|Yg (AL Y Y)<|Zf Y Y<|Ab (t:=28) Y V (fun bn=>?_) (fun bn=>?_);refine Yf 3 CC V rfl E0 Y<|DY Y Wh (Pa #[_,_,_] HS E0 Y) V rfl<|Yf 7 CC V rfl E0 Y<|DY Y Wh (Pa #[_,_,_] HS E0 Y) V rfl<|Yg (KX AD K0 D3 AE A6 Y Y) ?_;refine Yg (AL Y Y)<|BW Y Y<|Z0<|HM (e:=[(35,_)]) (h:=by exact ⟨_,by simp_all,V,V⟩)
   rotate_left
   focus
    refine C5<|Yg (AO Y Y)<|Zf Y Y ?_
  all_goals
   refine AG<|AG<|C5<|Yg (AO Y Y)<|BW Y Y<|Z0<|HM (e:=[(35,_)]) (h:=by exact ⟨_,by simp_all,V,V⟩)
 rintro _ _ ⟨U,gm,rfl,rfl⟩;refine AY Y (fun cu=>?_) (fun cu=>?_);rotate_left;focus
  refine B4<|Zq<|Zb [3,5,1,4,6] ?_;refine Ch (e0:=[(3,_),(5,_)]) (H0:=[]) (fun e H=>∃(O:Bool),(O=decide ((c.had/\¬c.before.ok)\/(c.has/\¬c.after.ok)))/\e=[(49,.bool O)]/\H=[]) Wp ?hx_10 ?hy_10
  case' hx_10=>
   refine Zg<|Zm Y<|Zm Y<|Ab (t:=37) Y V (fun cO=>?_) (fun cO=>?_);focus
    refine DY Y Wh (Pa #[_,_,_,_,_] DE B3 Y) V rfl<|Xr [_] Y call114 Y V (SA _)<|Yg (Cz Y)<|BT Y Y<|Zm Y<|Ae (t:=42) Y V (fun d9=>?_) (fun d9=>?_);focus
     refine AG<|AG<|AG<|Zv (AL Y Y) ?_
    rotate_left
    focus
     refine Zf Y Y<|Zf Y Y<|Ab (t:=44) Y V (fun g=>?_) (fun g=>?_);focus
      refine DY Y Wh (Pa #[_,_,_,_,_] DE B3 Y) V rfl<|Xr [_] Y call114 Y V (SA _)<|Yg (Cz Y)<|Yg (AL Y Y)<|Zv (AO Y Y) ?_
     rotate_left
     focus
      refine AG<|C5<|Yg (AO Y Y)<|Zv (AO Y Y) ?_
   rotate_left 3
   focus
    refine AG<|C5<|BW Y Y<|Zm Y<|Zf Y Y<|Zf Y Y<|Ab (t:=44) Y V (fun m=>?_) (fun m=>?_);focus
     refine DY Y Wh (Pa #[_,_,_,_,_] DE B3 Y) V rfl<|Xr [_] Y call114 Y V (SA _)<|Yg (Cz Y)<|Yg (AL Y Y)<|Zv (AO Y Y) ?_
    rotate_left
    focus
     refine AG<|C5<|Yg (AO Y Y)<|Zv (AO Y Y) ?_
   all_goals
    refine Z0<|HM (e:=[(49,_)]) (h:=by exact ⟨_,by simp_all,V,V⟩)
  case' hy_10=>
   rintro _ _ ⟨O,ek,rfl,rfl⟩;refine AY Y (fun B=>?_) (fun B=>?_);rotate_left;focus
    refine B4<|AN Y<|Zm Y<|Ab (t:=51) Y V (fun G=>?_) (fun G=>?_);focus
     refine AG<|AG<|BT Y Y<|Zm Y<|Zf Y Y<|Zf Y Y<|Ab (t:=59) Y V (fun I=>?_) (fun I=>?_);refine AG<|AG<|Yg (AL Y Y)<|BT Y Y<|B1 Y<|Zn [2] ?_;refine Zx<|AJ<|AX V results60 Y (by exact ⟨by simp_all [Chg.ok],V⟩)
    rotate_left
    focus
     refine Yf 3 CC V rfl E0 Y<|DY Y Wh (Pa #[_,_,_] HS E0 Y) V rfl<|Yg (BM (vs:=[]) (cs:=#[_,_,_]) Y (Dt fL K0 A6 V)) ?_;refine Yg (JW AD K0 D3 AE A6 Y Y) ?_;refine BW Y Y<|Zm Y<|Ae (t:=57) Y V (fun J=>?_) (fun J=>?_);focus
      refine Zf Y Y<|Zf Y Y<|Ab (t:=59) Y V (fun K=>?_) (fun K=>?_);refine AG<|AG<|Yg (AL Y Y)<|BT Y Y<|B1 Y<|Zn [2] ?_;refine Zx<|AJ<|AX V results60 Y (by exact ⟨by simp_all [Chg.ok],V⟩)
     rotate_left
     refine AG<|AG<|AG<|C5<|BW Y Y<|B1 Y<|Zn [2] ?_;refine Zx<|AJ<|AX V results60 Y (by exact ⟨by simp_all [Chg.ok],V⟩)
    all_goals
     refine Yf 7 CC V rfl E0 Y<|DY Y Wh (Pa #[_,_,_] HS E0 Y) V rfl<|Yg (BM (vs:=[]) (cs:=#[_,_,_]) Y (Dt fL K0 A6 V)) ?_;refine Yg (JW AD K0 D3 AE A6 Y Y) ?_;refine Yg (AO Y Y)<|BT Y Y<|B1 Y<|Zn [2] ?_;refine Zx<|AJ<|AX V results60 Y (by exact ⟨by simp_all [Chg.ok],V⟩)
 all_goals
  refine A3<|Ax Y<|Zt<|AX V results60 Y (by exact ⟨by simp_all [Chg.ok],V⟩)
def CE(M:List A8)(v:A2)(cs:List Chg):Prop:=∃p cap,v= .slice p cs.length cap/\cs.length<=maxLen/\∀(i:Nat) (c:Chg),cs[i]?=some c->∃g off cur T zz,p=some ⟨g,off,none⟩/\(g,Obj.cells cur T zz)∈M/\off+i*10+10<=cur.size/\cur.extract (off+i*10) (off+i*10+10)=c.A87
def Chg.lt(b c:Chg):Prop:=b.t<c.t\/b.t=c.t/\b.k<c.k
instance(b c:Chg):Decidable (b.lt c):=inferInstanceAs(Decidable (_\/_))
structure Dq(p:Int)(cs:List Chg):Prop where
 pos:1<=p/\p<=10000
 len:1<=cs.length/\cs.length<=8
 all:∀(i:Nat) (c:Chg),cs[i]?=some c->c.ok
 ord:∀(i:Nat) (b c:Chg),cs[i]?=some b->cs[i+1]?=some c->b.lt c
noncomputable instance(p:Int)(cs:List Chg):Decidable (Dq p cs):=Classical.propDecidable _
variable{i:Nat}
theorem Tz{cs:List Chg}{x:Chg}(h:∀(j:Nat) (c:Chg),j<i->cs[j]?=some c->c.ok)(hx:cs[i]?=some x)(g:x.ok):∀(j:Nat) (c:Chg),j<i+1->cs[j]?=some c->c.ok:=by
 intro j c m hc;rcases Ft j i with h9|h9
 · exact h j c h9 hc
 · have e:j=i:=by omega
   rw [e,hx]at hc;injection hc with hc;rw [<-hc];exact g
theorem Sn{cs:List Chg}{x:Chg}(h:∀(j:Nat) (b c:Chg),j+1<i->cs[j]?=some b->cs[j+1]?=some c->b.lt c)(hx:cs[i]?=some x)(m:i=0\/∃y,cs[i -1]?=some y/\y.lt x):∀(j:Nat) (b c:Chg),j+1<i+1->cs[j]?=some b->cs[j+1]?=some c->b.lt c:=by
 intro j b c B g hc;rcases Ft (j+1) i with h9|h9
 · exact h j b c h9 g hc
 · have e:j+1=i:=by omega
   rw [e,hx]at hc;injection hc with hc
   rcases m with h0|⟨y,hy,hl⟩
   · omega
   · rw [show i -1=j by omega,g]at hy;injection hy with hy;rw [hy,<-hc];exact hl
theorem VE(p:Int)(q:B8)(cap:Nat)(cs:List Chg)(M:List A8)(hO:CE M (.slice q cs.length cap) cs):Az prog 15 #[.agg #[I0 p,.slice q cs.length cap]] [M] (.bool (decide (Dq p cs))):=by
 have gq:=mL;obtain ⟨p9,d9,e9,gy,hg⟩:=hO;injection e9 with e91 e92 e93
 subst e91 e93;refine Se func15 ntmps15 [0] ?_;intro u R;refine A3<|Ze (Bx #[_,_])<|AF fun b1=>D2 Y<|A3<|Zh 0 GF V rfl A6 Y<|Zl AE Y<|Xr [_,_,_] Y call59 Y V (Jw _ _ _)<|Zv (Cz Y)<|Zm Y<|Ae (t:=10) Y V (fun hp=>?_) (fun hp=>?_);·
  refine AG<|AG<|C5<|BT Y Y<|Z0<|Zn [1,16] ?_;refine Zx<|Cg Y<|A3<|Ax Y<|Zt<|AX rfl fW Y (by exact ⟨by rw [F0 (fun h9:Dq p cs=>by have G:=h9.pos;have X:=h9.len;exact hp G)],rfl⟩)
 refine Yf 1 GF V rfl KB Y<|Yl LL Y<|Yg (AR GO Y)<|Xr [_,_,_] Y call59 Y V (Jw _ _ _)<|Yg (Cz Y)<|BW Y Y<|Z0<|Zn [1,16] ?_;refine Zx<|Ap Y (fun hl=>?_) (fun hl=>?_);·
  refine A3<|Ax Y<|Zt<|AX rfl fW Y (by exact ⟨by rw [F0 (fun h9:Dq p cs=>by have G:=h9.pos;have X:=h9.len;(apply hl;omega))],rfl⟩)
 refine B4<|Zq<|A3<|AH Y<|AP<|Zb [3,1] ?_;refine Ay (e0:=[(3,_)]) (fun m e H=>∃(i:Nat),m=cs.length -i/\(i<=cs.length/\(∀(j:Nat) (c:Chg),j<i->cs[j]?=some c->c.ok)/\(∀(j:Nat) (b c:Chg),j+1<i->cs[j]?=some b->cs[j+1]?=some c->b.lt c))/\e=[(3,I0 (i:Int))]/\H=[]) (by exact ⟨0,V,⟨by omega,by intro j c hj;omega,by intro j b c hj;omega⟩,V,V⟩) Wp ?_;rintro _ _ _ ⟨i,rfl,⟨hi,I,J⟩,rfl,rfl⟩;refine B7 Y<|Zh 1 GF V rfl KB Y<|Zl LL Y<|Zv (AR GO Y)<|Zv (Ar Y Y)<|A5<|Ap Y (fun U=>?_) (fun U=>?_);·
  refine B4<|Zq<|AP<|Zq ?_;obtain ⟨x,hx⟩:∃x,cs[i]?=some x:=⟨_,BE U⟩;obtain ⟨g,off,cur,T,zz,rfl,hm,ic,Z⟩:=hg i x hx;refine Zg<|Zh 1 GF V rfl KB Y<|Zl LL Y<|Zm Y<|Ba (AZ GO Cd Y Y A0)<|CO (cs:=[(g,.cells cur T zz)]) (by simp [hm]) (AA (cs:=x.A87) HG Cd Y A0 Z) V rfl<|Ze (Al OK #[_,_,_,_,_,_,_,_,_,_])<|AF fun b2=>Xe (Xw Cd _)<|A5<|Zq<|A3<|Zo Wh (Pa #[_,_,_,_,_,_,_,_,_,_] HG Cd Y)<|Xr [_] Y call60 Y V (kL x)<|Zv (Cz Y)<|Z0<|Zn [1,3,4,31] ?_;refine Zx<|Ap Y (fun B=>?_) (fun B=>?_);·
   refine A3<|Ax Y<|Zt<|Ag<|Zt<|Zt<|Ag<|Zt<|AX rfl fW Y (by exact ⟨by rw [F0 (fun h9:Dq p cs=>B (h9.all i x hx))],rfl⟩)
  refine B4<|AN Y<|Zv (Df (n:=0) Y Y)<|A5<|Ap Y (fun W=>?_) (fun W=>?_);·
   refine Zq ?_;obtain ⟨y,hy⟩:∃y,cs[i -1]?=some y:=⟨_,BE A0⟩;obtain ⟨g2,gm,K,T2,cO,e2,af,ek,O⟩:=hg (i -1) y hy;injection e2 with e2
   injection e2 with e21 e22
   subst e21 e22;refine Zg<|Zh 1 GF V rfl KB Y<|Zl LL Y<|Zm Y<|Yb (n:=1) Y Y ?_;refine Ba (AZ GO Cd Y Y A0)<|CO (cs:=[(g,.cells K T2 cO)]) (by simp [af]) (AA (cs:=y.A87) HG Cd Y A0 O) V rfl<|Ze (Al OK #[_,_,_,_,_,_,_,_,_,_])<|AF fun b3=>Xe (Xw Cd _)<|A5<|A3<|Zh 0 CC V rfl A6 Y<|Zl AE Y<|Zh 0 CC V rfl A6 Y<|Zl AE Y<|Zv (Ev Y Y)<|Zm Y<|Ae (t:=45) Y V (fun ax=>?_) (fun ax=>?_);·
    refine AG<|AG<|AG<|AG<|AG<|AG<|BT Y Y<|Z0<|Zn [1,3,58] ?_;refine Zx<|Cg Y<|A3<|Ax Y<|Ag<|Zt<|Zt<|Ag<|Zt<|AX rfl fW Y (by exact ⟨by rw [F0 (fun h9:Dq p cs=>by have G:=h9.ord (i -1) y x hy (by rw [show i -1+1=i by omega];exact hx);unfold Chg.lt at G;omega)],rfl⟩)
   refine Yf 0 CC V rfl A6 Y<|Yl AE Y<|Yf 0 CC V rfl A6 Y<|Yl AE Y<|Yg (CJ Y Y)<|Zf Y Y<|Ae (t:=51) Y V (fun bn=>?_) (fun bn=>?_);focus
    refine Yf 1 CC V rfl A6 Y<|Yl AE Y<|Yf 1 CC V rfl A6 Y<|Yl AE Y<|Yg (IL Y Y)<|Yg (AL Y Y)<|BW Y Y<|Z0<|Zn [1,3,58] ?_;refine Zx<|Ap Y (fun cu=>?_) (fun cu=>?_);refine A3<|Ax Y<|Ag<|Zt<|Zt<|Ag<|Zt<|AX rfl fW Y (by exact ⟨by rw [F0 (fun h9:Dq p cs=>by have G:=h9.ord (i -1) y x hy (by rw [show i -1+1=i by omega];exact hx);unfold Chg.lt at G;omega)],rfl⟩)
   rotate_left
   focus
    refine AG<|AG<|C5<|Yg (AO Y Y)<|BW Y Y<|Z0<|Zn [1,3,58] ?_;refine Zx<|DW Y ?_
   all_goals
    refine AC<|A9<|Zx<|Zg<|Zm Y<|Ya (n:=1) Y Y<|B1 Y<|HB (by exact ⟨i+1,V,⟨by omega,Tz I hx (Kf.1 B),Sn J hx (by(right;refine ⟨y,hy,?_⟩;unfold Chg.lt;omega))⟩,V,V⟩)
  refine AC<|A9<|Zx<|Zg<|Zm Y<|Ya (n:=1) Y Y<|B1 Y<|HB (by exact ⟨i+1,V,⟨by omega,Tz I hx (Kf.1 B),Sn J hx (by(left;omega))⟩,V,V⟩)
 refine BB<|Zt<|Zt<|AV<|CD<|Ax Y<|AX rfl fW Y (by exact ⟨by rw [DO (⟨by omega,by omega,fun j c hc=>I j c (by have:=(C6.1 hc).1;omega) hc,fun j b c hb hc=>J j b c (by have:=(C6.1 hc).1;omega) hb hc⟩:Dq p cs)],rfl⟩)
def iF(M:List A8)(v:A2)(rs:List AU):Prop:=∃p cap,v= .slice p rs.length cap/\rs.length<=maxLen/\∀(i:Nat) (r:AU),rs[i]?=some r->∃g off cur T zz,p=some ⟨g,off,none⟩/\(g,Obj.cells cur T zz)∈M/\off+i*5+5<=cur.size/\cur.extract (off+i*5) (off+i*5+5)=r.A88
variable{cur:AM}
theorem Jn{cs:AM}{a n j:Nat}{v:A2}(h:cur.extract a (a+n)=cs)(hv:cs[j]?=some v):cur[a+j]?=some v:=by
 rw [<-h,eR]at hv;split at hv;· exact hv
 · cases hv
def AU.lt2(r:AU)(t k:Int):Prop:=r.t<t\/r.t=t/\r.k<k
instance(r:AU)(t k:Int):Decidable (r.lt2 t k):=inferInstanceAs(Decidable (_\/_))
def AU.is(r:AU)(t k:Int):Prop:=r.t=t/\r.k=k
instance(r:AU)(t k:Int):Decidable (r.is t k):=inferInstanceAs(Decidable (_/\_))
def BN(rs:List AU):Prop:=rs.Pairwise (fun a b=>a.lt2 b.t b.k)
def EB(rs:List AU)(t k:Int):Nat:=(rs.takeWhile (fun r=>decide (r.lt2 t k))).length
theorem VJ:∀{rs:List AU} {t k:Int} {m:Nat},m<=rs.length->(∀(i:Nat) (r:AU),i<m->rs[i]?=some r->r.lt2 t k)->(∀(i:Nat) (r:AU),m<=i->rs[i]?=some r->¬r.lt2 t k)->EB rs t k=m
 |[],t,k,m,hm,_,_=>by simp only [Mp]at hm;simp [EB];omega
 |r::rs,t,k,0,_,_,h2=>by unfold EB;rw [S1,As (by simpa using h2 0 r A0 rfl)];rfl
 |r::rs,t,k,m+1,hm,h1,h2=>by
  unfold EB;rw [S1,B0 (by simpa using h1 0 r A0 rfl),EV];exact congrArg (·+1) (VJ (by simpa using hm) (fun i x hi hx=>h1 (i+1) x A0 hx) (fun i x hi hx=>h2 (i+1) x A0 hx))
variable{k t:Int}
theorem Py{a b:AU}(h:a.lt2 b.t b.k)(g:b.lt2 t k):a.lt2 t k:=by unfold AU.lt2 at*;omega
variable{rs:List AU}
theorem Us(h:BN rs){j:Nat}{a b:AU}(g:i<j)(m:rs[i]?=some a)(B:rs[j]?=some b):a.lt2 b.t b.k:=by
 obtain ⟨hi,rfl⟩:=C6.1 m;obtain ⟨G,rfl⟩:=C6.1 B;exact fx.1 h i j hi G g
variable{x:AU}
theorem nu(h:BN rs){m:Nat}(hx:rs[m]?=some x)(B:x.lt2 t k):∀(i:Nat) (r:AU),i<m+1->rs[i]?=some r->r.lt2 t k:=by
 intro i r hi g;rcases Ft i m with h9|h9
 · exact Py (Us h h9 g hx) B
 · rw [show i=m by omega,hx]at g;injection g with g;rw [<-g];exact B
theorem Vz(h:BN rs){m:Nat}(hx:rs[m]?=some x)(B:¬x.lt2 t k):∀(i:Nat) (r:AU),m<=i->rs[i]?=some r->¬r.lt2 t k:=by
 intro i r hi g hc;rcases Ft m i with h9|h9
 · exact B (Py (Us h h9 hx g) hc)
 · rw [show i=m by omega,hx]at g;injection g with g;rw [<-g]at hc;exact B hc
theorem YK(X:Nat)(q:B8)(cap:Nat)(p t k:Int)(rs:List AU)(M:List A8)(hO:iF M (.slice q rs.length cap) rs)(hn:rs.length<=1000000)(U:BN rs):Az prog 66 #[I1 X,I0 t,I0 k] [[(X,.cells #[.slice q rs.length cap,I0 p] 83 (0,0))],M] (I0 (EB rs t k:Int)):=by
 have bn:=mL;obtain ⟨p9,W,Z,cu,hg⟩:=hO;injection Z with e91 e92 e93
 subst e91 e93;refine Se func66 ntmps66 [0,1,2] ?_;intro u R;refine A3<|AH Y<|A3<|AH Y<|AN Y<|Zp Y V<|Zh 0 N6 V rfl DH Y<|Zl GS Y ?_;refine Zv (AR C1 Y)<|D2 Y<|AP<|Zb [7,8,0,1,2] ?_;refine Ay (e0:=[(7,_),(8,_)]) (fun m e H=>∃(lo hi:Nat),m=hi -lo/\(lo<=hi/\hi<=rs.length/\(∀(i:Nat) (r:AU),i<lo->rs[i]?=some r->r.lt2 t k)/\(∀(i:Nat) (r:AU),hi<=i->rs[i]?=some r->¬r.lt2 t k))/\e=[(7,I0 (lo:Int)),(8,I0 (hi:Int))]/\H=[]) (by exact ⟨0,rs.length,V,⟨by omega,by omega,by intro i r hi;omega,by intro i r hi O;have:=(C6.1 O).1;omega⟩,V,V⟩) Wp ?_;rintro _ _ _ ⟨lo,hi,rfl,⟨ax,af,B,I⟩,rfl,rfl⟩;refine B7 Y<|Zm Y<|Zv (Ar Y Y)<|A5<|Ap Y (fun J=>?_) (fun J=>?_);·
  refine B4<|AP<|AN Y<|Zm Y<|Ya Y Y ?_
  (refine Ba (K5 (n:=2) Y Y ?_ ?_) ?_;(focus (omega));(focus (omega)))
  refine AH Y<|Zq ?_;obtain ⟨x,hx⟩:∃x,rs[(lo+hi)/2]?=some x:=⟨_,BE A0⟩;obtain ⟨g,off,cur,T,zz,rfl,K,cO,G⟩:=hg _ x hx;refine Zg<|Zm Y<|Zp Y V<|Zh 0 N6 V rfl DH Y<|Zl GS Y ?_;refine Zm Y<|Ba (AZ C1 B3 Y Y A0)<|Zv (Ai (off:=0) H3 V rfl A6 Y)<|CO (cs:=[(g,.cells cur T zz)]) (by simp [K]) (BL AE Y (Jn (j:=0) G V)) V rfl ?_;refine Zm Y<|Zv (Dz Y Y)<|Zm Y<|Ae (t:=32) Y V (fun h1=>?_) (fun h1=>?_);focus
   refine AG<|AG<|AG<|AG<|AG<|AG<|AG<|AG<|AG<|AG<|AG<|BT Y Y<|Z0<|Zn [0,1,2,7,8,9,55] ?_;refine Zx<|Cg Y ?_
  rotate_left
  focus
   refine Zf Y Y<|Yg (Aq Y V)<|Yf 0 N6 V rfl DH Y<|Yl GS Y ?_;refine Zf Y Y ?_
   (refine HY Y (AZ C1 B3 Y Y ?_) rfl rfl ?_;(focus (omega)))
   refine Yg (Ai (off:=0) H3 V rfl A6 Y)<|Lg Y (cs:=[(g,.cells cur T zz)]) (by simp [K]) (BL AE Y (Jn (j:=0) G V)) V rfl ?_;refine Zf Y Y<|Yg (CJ Y Y)<|Zf Y Y ?_;refine Ae (t:=43) Y V (fun h2=>?_) (fun h2=>?_);focus
    refine Zf Y Y<|Yg (Aq Y V)<|Yf 0 N6 V rfl DH Y<|Yl GS Y ?_;refine Zf Y Y ?_
    (refine HY Y (AZ C1 B3 Y Y ?_) rfl rfl ?_;(focus (omega)))
    refine Yg (Ai (off:=1) H3 V rfl A6 Y)<|Lg Y (cs:=[(g,.cells cur T zz)]) (by simp [K]) (BL AE Y (Jn (j:=1) G V)) V rfl ?_;refine Zf Y Y<|Yg (Dz Y Y)<|Yg (AL Y Y)<|BW Y Y<|Z0<|Zn [0,1,2,7,8,9,55] ?_;refine Zx<|Ap Y (fun h3=>?_) (fun h3=>?_);rotate_left;refine Zg<|Zm Y<|B1 Y<|A9<|HB (by exact ⟨lo,(lo+hi)/2,V,⟨by omega,by omega,B,Vz U hx (by unfold AU.lt2;omega)⟩,V,V⟩)
   rotate_left
   refine AG<|AG<|AG<|AG<|AG<|Yg (AO Y Y)<|BW Y Y<|Z0<|Zn [0,1,2,7,8,9,55] ?_;refine Zx<|DW Y<|Zg<|Zm Y<|B1 Y<|A9<|HB (by exact ⟨lo,(lo+hi)/2,V,⟨by omega,by omega,B,Vz U hx (by unfold AU.lt2;omega)⟩,V,V⟩)
  all_goals
   refine Zg<|Zm Y<|Ya (n:=1) Y Y<|B1 Y<|A9<|HB (by exact ⟨(lo+hi)/2+1,hi,V,⟨by omega,by omega,nu U hx (by unfold AU.lt2;omega),I⟩,V,V⟩)
 refine BB<|Zt<|Zt<|AV<|Zx<|AN Y<|Ax Y<|AX rfl results66 Y (by exact ⟨by rw [VJ A0 B (fun i r hi O=>I i r A0 O)],rfl⟩)
def Fu(rs:List AU)(t k:Int):AU×Bool:=match rs[EB rs t k]?with
 |some r=>if r.is t k then(r,true)else(AU.zero,false)
 |none=>(AU.zero,false)
theorem VK(rs:List AU)(t k:Int):EB rs t k<=rs.length:=by unfold EB;exact List.IsPrefix.length_le (List.takeWhile_prefix _)
theorem mY(hx:rs[EB rs t k]?=some x)(g:x.t=t)(h2:x.k=k):Fu rs t k=(x,true):=by unfold Fu;rw [hx];exact B0 ⟨g,h2⟩
theorem yG(hx:rs[EB rs t k]?=some x)(h:¬(x.t=t/\x.k=k)):Fu rs t k=(AU.zero,false):=by unfold Fu;rw [hx];exact As h
theorem uH(h:¬EB rs t k<rs.length):Fu rs t k=(AU.zero,false):=by unfold Fu;rw [Nd A0]
theorem qN(J:Nat)(q:B8)(cap:Nat)(p t k:Int)(rs:List AU)(M:List A8)(O:iF M (.slice q rs.length cap) rs)(hn:rs.length<=1000000)(hs:BN rs):Az prog 26 #[I1 J,I0 t,I0 k] [[(J,.cells #[.slice q rs.length cap,I0 p] 83 (0,0))],M] (.tuple #[.agg #[I0 (Fu rs t k).1.t,I0 (Fu rs t k).1.k,I0 (Fu rs t k).1.v.a,I0 (Fu rs t k).1.v.b,I0 (Fu rs t k).1.v.c],.bool (Fu rs t k).2]):=by
 have G:=id O;have af:=mL
 obtain ⟨p9,K,X,ax,Z⟩:=O;injection X with e91 e92 e93
 subst e91 e93;have bn:=VK rs t k
 refine Se func26 ntmps26 [0,1,2] ?_;intro u R;refine A3<|Ze (Al G1 #[_,_,_,_,_])<|AF fun b1=>AH Y<|AN Y<|Zm Y<|Zm Y<|Xr [_,_,_] Y call66 Y V (YK J _ _ p t k rs M G hn hs)<|AH Y<|B7 Y<|Zm Y<|Zp Y V<|Zh 0 N6 V rfl DH Y<|Zl GS Y<|Zv (AR C1 Y)<|Zv (Ar Y Y)<|Zm Y<|Ae (t:=20) Y V (fun B=>?_) (fun B=>?_);·
  obtain ⟨x,hx⟩:∃x,rs[EB rs t k]?=some x:=⟨_,BE B⟩;obtain ⟨g,off,cur,T,zz,rfl,I,cu,m⟩:=Z _ x hx;refine Zf Y Y<|Yg (Aq Y V)<|Yf 0 N6 V rfl DH Y<|Yl GS Y<|Zf Y Y<|HY Y (AZ C1 B3 Y Y A0) V rfl ?_;refine Yg (Ai (off:=0) H3 V rfl A6 Y)<|Lg Y (cs:=[(g,.cells cur T zz)]) (by simp [I]) (BL AE Y (Jn (j:=0) m V)) V rfl ?_;refine Zf Y Y<|Yg (CJ Y Y)<|BT Y Y<|Zm Y<|Ae (t:=32) Y V (fun W=>?_) (fun W=>?_);focus
   refine Zf Y Y<|Yg (Aq Y V)<|Yf 0 N6 V rfl DH Y<|Yl GS Y<|Zf Y Y<|HY Y (AZ C1 B3 Y Y A0) V rfl ?_;refine Yg (Ai (off:=1) H3 V rfl A6 Y)<|Lg Y (cs:=[(g,.cells cur T zz)]) (by simp [I]) (BL AE Y (Jn (j:=1) m V)) V rfl ?_;refine Zf Y Y<|Yg (CJ Y Y)<|BT Y Y<|Z0<|Zn [0,6,8,43] ?_;refine Zx<|Ap Y (fun U=>?_) (fun U=>?_);refine AN Y<|Zp Y rfl<|Zh 0 N6 rfl rfl DH Y<|Zl GS Y<|Zm Y<|Ba (AZ C1 B3 Y Y A0)<|CO (cs:=[(g,.cells cur T zz)]) (by simp [I]) (AA (cs:=x.A88) DE B3 Y A0 m) rfl rfl<|Xe (Xw B3 _)<|Ax Y<|Zt<|CP rfl results26 Y Wh (Av DE B3 Wn (rfl)) Y (by exact ⟨by rw [mY hx W U];rfl,rfl⟩)
  rotate_left
  focus
   refine AG<|AG<|AG<|AG<|AG<|BW Y Y<|Z0<|Zn [0,6,8,43] ?_;refine Zx<|DW Y ?_
  all_goals
   refine AC<|CD<|Zv (BM (vs:=[]) (cs:=#[_,_,_,_,_]) Y (Aa (pl:=#[(0,1),(1,1),(2,3)]) G1 H3 (fun _=>by kernel_rfl) V))<|Xe (Xw B3 _)<|Ax Y<|CP V results26 Y Wh (Av DE B3 Wn (V)) Y (by exact ⟨by(rw [yG hx A0];rfl),V⟩)
 refine AG<|AG<|AG<|AG<|AG<|BW Y Y<|Zm Y<|AG<|AG<|AG<|AG<|AG<|BW Y Y<|Z0<|Zn [0,6,8,43] ?_;refine Zx<|DW Y<|AC<|CD<|Zv (BM (vs:=[]) (cs:=#[_,_,_,_,_]) Y (Aa (pl:=#[(0,1),(1,1),(2,3)]) G1 H3 (fun _=>by kernel_rfl) V))<|Xe (Xw B3 _)<|Ax Y<|CP V results26 Y Wh (Av DE B3 Wn (V)) Y (by exact ⟨by(rw [uH B];rfl),V⟩)
def out(lo hi n:Int):Bool:=decide (n<lo)||decide (hi<n)
def Kt(cur:AM)(o:Nat)(ns:List Int):Prop:=∀(i:Nat) (n:Int),ns[i]?=some n->cur[o+i]?=some (I0 n)
theorem o7(p:Int->Bool)(ls:List Int)(i:Nat)(x:Int)(h:ls[i]?=some x):(ls.take (i+1)).any p=((ls.take i).any p||p x):=by
 rw [S5,h];simp
theorem A12(p:Int->Bool)(ls:List Int)(i:Nat)(x:Int)(h:ls[i]?=some x)(hx:p x=true):ls.any p=true:=by
 rw [nr];exact ⟨x,E7 h,hx⟩
theorem td(lp m:Nat)(n lo hi:Int):Az prog 148 #[I0 n,I1 lp,I1 m] [[(lp,.cells #[I0 lo] 3 (0,0))],[(m,.cells #[I0 hi] 3 (0,0))]] (.bool (out lo hi n)):=by
 refine Se func148 ntmps148 [0,1,2] ?_;intro u R;refine A3<|AH Y<|AN Y<|Zl AE Y ?_;refine Zv (Dz Y Y)<|Zm Y<|Ae (t:=8) Y V (fun g=>?_) (fun g=>?_);focus
  refine AG<|C5<|Zv (AL Y Y) ?_
 rotate_left
 focus
  refine Zf Y Y<|Yl AE Y ?_;refine Yg (Ev Y Y)<|Zv (AO Y Y) ?_
 all_goals
  refine Ax Y<|AX V results148 Y (by exact ⟨by simp [out,g],V⟩)
theorem fU(lp J g off cap:Nat)(lo hi:Int)(cur:AM)(T:AK)(z:Nat×Nat)(ls:List Int)(K:Kt cur off ls)(hn:ls.length<=1073741824):
 BQ prog 198 #[.slice (some ⟨g,off,none⟩) ls.length cap,.func (.func 148) #[] #[I1 lp,I1 J]] [[(lp,.cells #[I0 lo] 3 (0,0))],[(J,.cells #[I0 hi] 3 (0,0))],[(g,.cells cur T z)]] (fun r H'=>∃k:Int,r=I0 k/\decide (0<=k)=ls.any (out lo hi)/\H'=[[(lp,.cells #[I0 lo] 3 (0,0))],[(J,.cells #[I0 hi] 3 (0,0))],[(g,.cells cur T z)]]):=by
 refine Se func198 ntmps198 [0,1] ?_;intro u R;refine A3<|AH Y<|B7 Y<|Zv (AR DS Y)<|Zm Y<|A5<|AP<|Zb [8,0,1,7] ?_;refine Ay (e0:=[(8,_)]) (fun m e H=>∃(i:Nat),m=ls.length -i/\(i<=ls.length/\(ls.take i).any (out lo hi)=false)/\e=[(8,I0 (i:Int))]/\H=[]) (by exact ⟨0,V,⟨C7 _,V⟩,V,V⟩) Wp ?_;rintro _ _ _ ⟨i,rfl,⟨U,B⟩,rfl,rfl⟩;refine A3<|Zv (Ar Y Y)<|A5<|Zq<|Ap Y (fun I=>?_) (fun I=>?_);·
  refine B4<|Zq<|AP<|AN Y<|AH Y<|Zq ?_;obtain ⟨x,hx⟩:∃x,ls[i]?=some x:=⟨_,BE I⟩;refine Zg<|Zm Y<|Zm Y<|Zm Y<|Ba (Bu DS A6 Y Y A0)<|Zl AE Y (hv:=by exact K i x hx)<|Xr [_] Y call148 Y V (td lp J x lo hi)<|A5<|AY Y (fun G=>?_) (fun G=>?_);·
   refine AN Y<|Ax Y<|Ag<|Zt<|Zt<|Ag<|Zt<|AX rfl results198 Y (by exact ⟨(i:Int),rfl,by rw [A12 _ ls i x hx G];exact DO A0,rfl⟩)
  refine AC<|A9<|Zx<|E6 Y Y Y<|DM (e:=[(8,_)]) (h:=by exact ⟨i+1,rfl,⟨by omega,by rw [o7 _ ls i x hx,B];exact G⟩,rfl,rfl⟩)
 have O:i=ls.length:=by omega
 subst O;rw [HI]at B;refine BB<|Zt<|Zt<|AV<|CD<|Ax Y<|AX rfl results198 Y (by exact ⟨-1,rfl,by rw [B];rfl,rfl⟩)
theorem UT(lp B g off cap:Nat)(lo hi:Int)(cur:AM)(T:AK)(z:Nat×Nat)(ls:List Int)(m:Kt cur off ls)(hn:ls.length<=1073741824):
 Az prog 147 #[.slice (some ⟨g,off,none⟩) ls.length cap,.func (.func 148) #[] #[I1 lp,I1 B]] [[(lp,.cells #[I0 lo] 3 (0,0))],[(B,.cells #[I0 hi] 3 (0,0))],[(g,.cells cur T z)]] (.bool (ls.any (out lo hi))):=by
 refine Se func147 ntmps147 [0,1] ?_;intro u R;refine A3<|AH Y<|AN Y<|Zm Y<|Zc [_,_] Y call198 Y V (fU lp B g off cap lo hi cur T z ls m hn) ?_;rintro _ _ ⟨_,⟨k,rfl,G,rfl⟩,rfl⟩;refine Zv (IL Y Y)<|Ax Y<|AX rfl results147 Y (by exact ⟨by rw [<-G],rfl⟩)
theorem Ut(g off cap:Nat)(lo hi:Int)(cur:AM)(T:AK)(z:Nat×Nat)(ls:List Int)(m:Kt cur off ls)(hn:ls.length<=1073741824):
 Az prog 94 #[I0 lo,I0 hi,.slice (some ⟨g,off,none⟩) ls.length cap] [[(g,.cells cur T z)]] (.bool (!(ls.any (out lo hi)))):=by
 refine Se func94 ntmps94 [0,1,2] ?_;intro u R;refine A3<|Ze (Bx #[_])<|AF fun B=>Ze (Bx #[_])<|AF fun G=>AH Y<|AN Y<|Zv (Bg (vs:=[]) (us:=[_,_]) Y Y)<|Xr [_,_] Y call147 Y V (UT _ _ g off cap lo hi cur T z ls m hn)<|Zv (Bh Y)<|Ax Y<|AX V results94 Y (by exact ⟨V,V⟩)
def ER(c:Chg)(th:Bool)(v:V3):AU:=if th then⟨c.t,c.k,v⟩else AU.zero
variable{v:V3}
theorem uE{g:Bool}(h:g=true):ER c g v=⟨c.t,c.k,v⟩:=B0 h
theorem v7{g:Bool}(h:g=false):ER c g v=AU.zero:=As (by rw [h];decide)
theorem ig(lo hi n:Int):(!(([n]:List Int).any (out lo hi)))=decide (lo<=n/\n<=hi):=by
 simp only [oE,oT,gx,out];by_cases g:n<lo<;>by_cases h2:hi<n<;>simp [g,h2]<;>omega
theorem u3(v:V3):(!(([v.a,v.b,v.c]:List Int).any (out (-1000000000) 1000000000)))=decide v.ok:=by
 have h:∀n,out (-1000000000) 1000000000 n=!decide (inV n):=by
  intro n;have:=ig (-1000000000) 1000000000 n
  simp only [oE,oT,gx]at this;rw [<-Bool.not_not (out _ _ n),this];rfl
 simp only [oE,oT,gx,h,V3.ok];by_cases g:inV v.a<;>by_cases h2:inV v.b<;>by_cases m:inV v.c<;>simp [g,h2,m]
theorem yM{n:Int}(h:cur[o]?=some (I0 n)):Kt cur o [n]:=by
 intro i x hx;rcases i with _|i
 · injection hx with hx;rw [<-hx];exact h
 · cases hx
theorem y6(h0:cur[o]?=some (I0 v.a))(g:cur[o+1]?=some (I0 v.b))(h2:cur[o+2]?=some (I0 v.c)):Kt cur o [v.a,v.b,v.c]:=by
 intro i x hx;rcases i with _|_|_|i
 · injection hx with hx;rw [<-hx];exact h0
 · injection hx with hx;rw [<-hx];exact g
 · injection hx with hx;rw [<-hx];exact h2
 · cases hx
theorem KT(g off cap:Nat)(lo hi:Int)(cur:AM)(T:AK)(z:Nat×Nat)(n:Int)(h:cur[off]?=some (I0 n)):
 Az prog 94 #[I0 lo,I0 hi,.slice (some ⟨g,off,none⟩) 1 cap] [[(g,.cells cur T z)]] (.bool (decide (lo<=n/\n<=hi))):=by
 rw [<-ig];exact Ut g off cap lo hi cur T z [n] (yM h) B6
theorem bg(g off cap:Nat)(cur:AM)(T:AK)(z:Nat×Nat)(v:V3)(h:Kt cur off [v.a,v.b,v.c]):
 Az prog 94 #[I0 (-1000000000),I0 1000000000,.slice (some ⟨g,off,none⟩) 3 cap] [[(g,.cells cur T z)]] (.bool (decide v.ok)):=by
 rw [<-u3];exact Ut g off cap _ _ cur T z [v.a,v.b,v.c] h B6
theorem WY(c:Chg)(m:Bool)(v:V3):Az prog 175 #[.agg c.A87,.bool m,.agg #[I0 v.a,I0 v.b,I0 v.c]] [] (.tuple #[.agg #[I0 (ER c m v).t,I0 (ER c m v).k,I0 (ER c m v).v.a,I0 (ER c m v).v.b,I0 (ER c m v).v.c],.bool m]):=by
 refine Se func175 ntmps175 [0,1,2] ?_;intro u R;refine A3<|Ze (Bx #[_,_,_,_,_,_,_,_,_,_])<|AF fun B=>Ze (Bx #[_,_,_])<|AF fun G=>Ze (Al G1 #[_,_,_,_,_])<|AF fun I=>AH Y<|B7 Y<|Zv (Bh Y)<|A5<|AY Y (fun g=>?_) (fun g=>?_);·
  refine A3<|Zv (BM (vs:=[]) (cs:=#[_,_,_,_,_]) Y (Aa (pl:=#[(0,1),(1,1),(2,3)]) G1 H3 (fun _=>by kernel_rfl) V))<|Xe (Xw B3 _) ?_;refine Ax Y<|Zt<|CP V results175 Y Wh (Av DE B3 Wn (V)) Y (by simp only [fz,TX,eh]at g;exact ⟨by(rw [v7 g,g];rfl),V⟩)
 refine AC<|CD<|Zh 0 CC V rfl A6 Y<|Zl AE Y ?_;refine Zh 1 CC V rfl A6 Y<|Zl AE Y ?_;refine Zo Wh (Pa #[_,_,_] HS E0 Y) ?_;refine Zv (BM (vs:=[(0,_),(1,_),(2,_)]) (cs:=#[_,_,_,_,_]) Y (Aa (pl:=#[(0,1),(1,1),(2,3)]) G1 H3 (fun _=>by kernel_rfl) rfl))<|Xe (BF B3 Y Y (by(simp [Value.oneCell',Value.cells];done)) Wu B2 Fm Wn (by exact BA _)) ?_;refine B1 Y<|Zn [6,7] ?_;refine Zx<|AJ<|CP V results175 Y Wh (Av DE B3 Wn (V)) Y (by simp only [fz,TX,eh]at g;exact ⟨by(rw [uE g,g];rfl),V⟩)
theorem Rn(r:AU):Az prog 199 #[.agg r.A88] [] (.bool (decide r.ok)):=by
 refine Se func199 ntmps199 [0] ?_;intro u R;refine A3<|Ze (Bx #[_,_,_,_,_])<|AF fun I=>AH Y<|A3<|Zh 0 H3 V rfl A6 Y<|Zl AE Y<|Ze (Ah (vs:=[_]) (cs:=[_]) DS A6 HX Y V rfl V rfl V)<|AF fun J=>Xr [_,_,_] Y call94 Y V (KT _ 0 1 _ _ _ _ _ r.t V)<|Zm Y<|Ae (t:=7) Y V (fun g=>?_) (fun g=>?_);·
  refine Yf 1 H3 V rfl A6 Y<|Yl AE Y<|Ze (Ah (vs:=[_]) (cs:=[_]) DS A6 HX Y V rfl V rfl V)<|AF fun K=>Xr [_,_,_] Y call94 Y V (KT _ 0 1 _ _ _ _ _ r.k V)<|BT Y Y<|Zm Y<|Ae (t:=13) Y V (fun m=>?_) (fun m=>?_);focus
   refine Yf 2 H3 V rfl E0 Y<|Yg (IY K0 A6 Y)<|Xr [_,_,_] Y call94 Y V (bg _ 2 3 _ _ _ r.v (y6 V rfl V))<|Zv (AL Y Y) ?_
  rotate_left
  focus
   refine AG<|C5<|Zv (AO Y Y) ?_
  all_goals
   refine B1 Y<|Zn [2] ?_;refine Zx<|AJ<|AX V results199 Y (by exact ⟨by(simp_all [AU.ok];done),V⟩)
 refine AG<|AG<|BW Y Y<|Zm Y<|AG<|C5<|BW Y Y<|B1 Y<|Zn [2] ?_;refine Zx<|AJ<|AX rfl results199 Y (by exact ⟨by rw [F0 (fun h9:r.ok=>by have B:=h9.2.1;have G:=h9.2.2;omega)],rfl⟩)
theorem Y8(c:Chg)(g:Bool)(v:V3):Az prog 149 #[.agg c.A87,.bool g,.agg #[I0 v.a,I0 v.b,I0 v.c]] [] (.bool (if g then decide (ER c g v).ok else decide (v=V3.zero))):=by
 refine Se func149 ntmps149 [0,1,2] ?_;intro u R;refine A3<|Ze (Bx #[_,_,_,_,_,_,_,_,_,_])<|AF fun J=>Ze (Bx #[_,_,_])<|AF fun K=>AH Y<|A3<|Zo Wh (Pa #[_,_,_,_,_,_,_,_,_,_] HG Cd Y)<|Zm Y<|Zo Wh (Pa #[_,_,_] HS E0 Y)<|Xr [_,_,_] Y call175 Y V (WY c g v)<|Zm Y<|Zd Y V<|Zd Y V<|Ze (Al G1 #[_,_,_,_,_])<|AF fun O=>Xe (Xw B3 _)<|B1 Y<|Zn [1,5,7] ?_;refine Zx<|AN Y<|Zm Y<|Ab (t:=17) Y V (fun m=>?_) (fun m=>?_);focus
  refine DY Y Wh (Pa #[_,_,_,_,_] DE B3 Y) V rfl<|Xr [_] Y call199 Y V (Rn _)<|BT Y Y<|Zm Y<|Ae (t:=21) Y V (fun B=>?_) (fun B=>?_);focus
   refine AG<|AG<|AG<|C5<|Zv (AL Y Y) ?_
  rotate_left
  focus
   refine Zf Y Y<|Yg (Bh Y)<|Zf Y Y<|Ab (t:=24) Y V (fun G=>?_) (fun G=>?_);focus
    refine DY Y Wh (Pa #[_,_,_] HS E0 Y) V rfl<|Yg (BM (vs:=[]) (cs:=#[_,_,_]) Y (Dt fL K0 A6 V)) ?_;refine Yg (JW AD K0 D3 AE A6 Y Y) ?_;refine Yg (AL Y Y)<|Zv (AO Y Y) ?_
   rotate_left
   focus
    refine AG<|C5<|Yg (AO Y Y)<|Zv (AO Y Y) ?_
 rotate_left 3
 focus
  refine AG<|BW Y Y<|Zm Y<|Zf Y Y<|Yg (Bh Y)<|Zf Y Y<|Ab (t:=24) Y V (fun I=>?_) (fun I=>?_);focus
   refine DY Y Wh (Pa #[_,_,_] HS E0 Y) V rfl<|Yg (BM (vs:=[]) (cs:=#[_,_,_]) Y (Dt fL K0 A6 V)) ?_;refine Yg (JW AD K0 D3 AE A6 Y Y) ?_;refine Yg (AL Y Y)<|Zv (AO Y Y) ?_
  rotate_left
  focus
   refine AG<|C5<|Yg (AO Y Y)<|Zv (AO Y Y) ?_
 all_goals
  refine B1 Y<|Zn [6] ?_;refine Zx<|AJ<|AX V results149 Y (by exact ⟨by simp_all,V⟩)
end Go.Proofs.YtelliknjeemfoaaGreatDoor
