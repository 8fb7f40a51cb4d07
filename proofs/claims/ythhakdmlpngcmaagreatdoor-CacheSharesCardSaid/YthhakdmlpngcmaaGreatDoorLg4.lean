/-
  DERIVED: THE SHELF's CONTRACTS AT THIS DUMP, IN PLAIN WORDS (tools/lay-plain.mjs out of 'TryzShelf.lean', which tools/lay-shelf.mjs wrote): THE SAME DECLARATIONS UNDER THE SAME NAMES: 'import', 'namespace', 'open', 'def', 'theorem' AND NOTHING ELSE: no command of the shelf's: FOR A HAND-IN. Each laying: the table of numbers ('.._ren') and one theorem, a field a fact of the dump's own or the kernel's comparison; each contract: ONE APPLICATION.
-/
import Derived.Shelf.Strings.OnBuilder
import Derived.Shelf.Small.Wraps
import Derived.Shelf.Strconv.Itoa3
import Derived.Shelf.Sort.Plain
import Derived.Shelf.Strings.BuilderCap
import Derived.Shelf.Slices.Clone
import Derived.Shelf.Slices.SearchI
import Derived.Shelf.Slices.Cells
import Derived.Shelf.Slices.In.SortNone
import Derived.Shelf.SlicesE.Clone
import Derived.Test.YthhakdmlpngcmaaGreatDoorDg4
set_option linter.unusedVariables false
set_option linter.unusedSimpArgs false
namespace Go.Proofs
open Go.Shelf
def Tryz.lays156_ren:Go.Shelf.Ren:=⟨fun|156=>302|165=>316|166=>31|169=>35|240=>73|241=>322|276=>125|277=>325|n=>n,fun|31=>52|9=>9|3=>3|4=>4|0=>0|20=>20|72=>105|76=>108|70=>102|37=>103|75=>107|127=>167|164=>230|5=>5|80=>117|n=>n,fun|n=>n⟩
theorem Tryz.lays156:Go.Proofs.Lays.n156 prog Tryz.lays156_ren:={
 mixed:=by kernel_rfl
 f156:=func302.trans (congrArg some AF)
 f165:=func316.trans (congrArg some AF)
 f166:=func31.trans (congrArg some AF)
 f169:=func35.trans (congrArg some AF)
 f240:=func73.trans (congrArg some AF)
 f241:=func322.trans (congrArg some AF)
 f276:=func125.trans (congrArg some AF)
 f277:=func325.trans (congrArg some AF)
 t0:=eC
 a0:=isAgg0
 z0:=sizeOf0
 v0:=eE
 t3:=D4
 a3:=AH
 z3:=AE
 v3:=HJ
 t4:=N6
 a4:=Fk
 z4:=DM
 v4:=W6
 t9:=HA
 a9:=Hh
 z9:=Fm
 v9:=HS
 t20:=underlying20
 a20:=isAgg20
 z20:=sizeOf20
 v20:=zeroValue20
 t31:=DH
 a31:=LL
 z31:=I3
 v31:=cU
 t37:=HL
 a37:=SD
 z37:=NO
 v37:=zeroValue103
 t70:=fj
 a70:=isAgg102
 z70:=eM
 v70:=zeroValue102
 t72:=S6
 a72:=isAgg105
 z72:=sizeOf105
 v72:=zeroValue105
 t75:=underlying107
 a75:=isAgg107
 z75:=sizeOf107
 v75:=zeroValue107
 t76:=underlying108
 a76:=isAgg108
 z76:=sizeOf108
 v76:=zeroValue108
 t127:=underlying167
 a127:=isAgg167
 z127:=sizeOf167
 v127:=zeroValue167
 t164:=underlying230
 a164:=isAgg230
 z164:=sizeOf230
 v164:=zeroValue230}
theorem Tryz.Builder_Extra_156:Builder.Extra prog Tryz.lays156_ren:={
 sizeBuilder:=by kernel_rfl
 liesBuilder:=by kernel_rfl
 t5:=Ly
 a5:=To
 z5:=It
 v5:=S7
 infoByte:=by kernel_rfl
 cellsByte:=by kernel_rfl
 sizeByte:=by kernel_rfl
 neB5:=by decide}
open Go.RowKit in
theorem Tryz.strings_Join(I o c:Nat)(xs:List Bk)(m:Bk)(w:AD)(g:∀(j:Nat) x,xs[j]?=some x->w.cell? ⟨I,o+j,none⟩=some (.string x))(J:I<w.heap.size)(K:xs.length<=140737488355328)(B:xs.length<=c)(G:(Lib.join (xs.map (·.data.toList)) m.data.toList).length<=140737488355328):
 Calls prog 302 #[.slice (some ⟨I,o,none⟩) xs.length c,.string m] w fun e O=>e= .returned (.string ⟨(Lib.join (xs.map (·.data.toList)) m.data.toList).toArray⟩)/\Below w.heap.size w O:=Any.strings_Join Tryz.lays156 Tryz.Builder_Extra_156 I o c xs m w g J K B G
def Tryz.lays125_ren:Go.Shelf.Ren:=⟨fun|125=>105|128=>170|129=>171|n=>n,fun|46=>210|3=>3|51=>295|53=>297|4=>4|5=>5|9=>9|n=>n,fun|n=>n⟩
theorem Tryz.lays125:Go.Proofs.Lays.n125 prog Tryz.lays125_ren:={
 mixed:=by kernel_rfl
 f125:=func105.trans (congrArg some AF)
 f128:=func170.trans (congrArg some AF)
 f129:=func171.trans (congrArg some AF)
 t3:=D4
 a3:=AH
 z3:=AE
 v3:=HJ
 t4:=N6
 a4:=Fk
 z4:=DM
 v4:=W6
 t5:=Ly
 a5:=To
 z5:=It
 v5:=S7
 t9:=HA
 a9:=Hh
 z9:=Fm
 v9:=HS
 t46:=X2
 a46:=isAgg210
 z46:=eN
 v46:=fx
 t51:=T6
 a51:=Hc
 z51:=Fo
 v51:=fy
 t53:=XS
 a53:=cG
 z53:=eJ
 v53:=fz}
theorem Tryz.bits_Len(x:Int)(w:AD)(h0:0<=x)(g:x<=18446744073709551615):
 Calls prog 105 #[.int .u64 x] w fun e m=>e= .returned (I4 (Lib.bitLen x.toNat))/\m=w:=Any.bits_Len Tryz.lays125 x w h0 g
def Tryz.lays122_ren:Go.Shelf.Ren:=⟨fun|122=>178|215=>227|n=>n,fun|3=>3|4=>4|n=>n,fun|n=>n⟩
theorem Tryz.lays122:Go.Proofs.Lays.n122 prog Tryz.lays122_ren:={
 mixed:=by kernel_rfl
 f122:=func178.trans (congrArg some AF)
 f215:=func227.trans (congrArg some AF)
 t3:=D4
 a3:=AH
 z3:=AE
 v3:=HJ
 t4:=N6
 a4:=Fk
 z4:=DM
 v4:=W6}
open Go.RowKit in
theorem Tryz.cmp_Compare_int(x y:Int)(w:AD):
 Calls prog 178 #[I4 x,I4 y] w fun e g=>e= .returned (I4 (Lib.compareInt x y))/\g=w:=Any.cmp_Compare_int Tryz.lays122 x y w
def Tryz.laysM171_ren:Go.Shelf.Ren:=⟨fun|171=>34|243=>74|246=>126|283=>181|284=>182|285=>183|286=>184|129=>171|317=>228|318=>229|319=>230|320=>231|337=>268|338=>269|n=>n,fun|3=>3|9=>9|2=>2|4=>4|171=>304|0=>0|53=>297|37=>103|5=>5|173=>306|212=>339|51=>295|20=>20|213=>340|46=>210|232=>414|233=>415|n=>n,fun|17=>1|18=>2|19=>3|n=>n⟩
theorem Tryz.laysM171:Go.Proofs.LaysM.n171 prog Tryz.laysM171_ren:={
 mixed:=by kernel_rfl
 f129:=func171.trans (congrArg some AF)
 f171:=func34.trans (congrArg some AF)
 f243:=func74.trans (congrArg some AF)
 f246:=func126.trans (congrArg some AF)
 f283:=func181.trans (congrArg some AF)
 f284:=func182.trans (congrArg some AF)
 f285:=func183.trans (congrArg some AF)
 f286:=func184.trans (congrArg some AF)
 f317:=func228.trans (congrArg some AF)
 f318:=func229.trans (congrArg some AF)
 f319:=func230.trans (congrArg some AF)
 f320:=func231.trans (congrArg some AF)
 f337:=func268.trans (congrArg some AF)
 f338:=func269.trans (congrArg some AF)
 t0:=eC
 a0:=isAgg0
 z0:=sizeOf0
 v0:=eE
 t2:=underlying2
 a2:=isAgg2
 z2:=sizeOf2
 v2:=zeroValue2
 t3:=D4
 a3:=AH
 z3:=AE
 v3:=HJ
 t4:=N6
 a4:=Fk
 z4:=DM
 v4:=W6
 t5:=Ly
 a5:=To
 z5:=It
 v5:=S7
 t9:=HA
 a9:=Hh
 z9:=Fm
 v9:=HS
 t20:=underlying20
 a20:=isAgg20
 z20:=sizeOf20
 v20:=zeroValue20
 t37:=HL
 a37:=SD
 z37:=NO
 v37:=zeroValue103
 t46:=X2
 a46:=isAgg210
 z46:=eN
 v46:=fx
 t51:=T6
 a51:=Hc
 z51:=Fo
 v51:=fy
 t53:=XS
 a53:=cG
 z53:=eJ
 v53:=fz
 t171:=underlying304
 a171:=isAgg304
 z171:=sizeOf304
 v171:=zeroValue304
 t173:=underlying306
 a173:=isAgg306
 z173:=sizeOf306
 v173:=zeroValue306
 t212:=underlying339
 a212:=isAgg339
 z212:=sizeOf339
 v212:=zeroValue339
 t213:=underlying340
 a213:=isAgg340
 z213:=sizeOf340
 t232:=underlying414
 a232:=isAgg414
 z232:=sizeOf414
 v232:=zeroValue414
 t233:=underlying415
 a233:=isAgg415
 z233:=sizeOf415
 v233:=zeroValue415
 g17:=by kernel_rfl
 g18:=by kernel_rfl
 g19:=by kernel_rfl
 i0:=by kernel_rfl
 i2:=by kernel_rfl
 i3:=by kernel_rfl
 i4:=by kernel_rfl
 i5:=by kernel_rfl
 i9:=by kernel_rfl
 i20:=by kernel_rfl
 i37:=by kernel_rfl
 i46:=by kernel_rfl
 i51:=by kernel_rfl
 i53:=by kernel_rfl
 i171:=by kernel_rfl
 i173:=by kernel_rfl
 i212:=by kernel_rfl
 i232:=by kernel_rfl
 i233:=by kernel_rfl
 m17:=by kernel_rfl
 m18:=by kernel_rfl
 m19:=by kernel_rfl}
open Go.RowKit Go.Sort Go.Lib in
theorem Tryz.strconv_Itoa(n:Int)(h0:-9223372036854775808≤n)(h1:n≤9223372036854775807)(w:AD)(htab:Lib.TabIs prog w "internal/strconv.uint64pow10" .u64 Lib.pow10Tab):
 Calls prog 34 #[I4 n] w fun e w'=>e= .returned (.string ⟨(Lib.itoa n).toArray⟩)/\∃k os,w'=grow (w.drewN k) os:=Any.strconv_Itoa Tryz.laysM171 n h0 h1 w htab
def Tryz.lays189_ren:Go.Shelf.Ren:=⟨fun|189=>159|125=>105|257=>219|128=>170|129=>171|294=>250|295=>251|296=>252|297=>253|298=>254|299=>255|216=>256|300=>257|301=>258|328=>295|329=>221|330=>222|331=>296|332=>297|215=>227|343=>314|n=>n,fun|28=>28|3=>3|46=>210|0=>0|51=>295|53=>297|4=>4|183=>287|182=>286|131=>292|5=>5|9=>9|218=>332|222=>114|228=>371|229=>372|n=>n,fun|n=>n⟩
theorem Tryz.lays189:Go.Proofs.Lays.n189 prog Tryz.lays189_ren:={
 mixed:=by kernel_rfl
 f125:=func105.trans (congrArg some AF)
 f128:=func170.trans (congrArg some AF)
 f129:=func171.trans (congrArg some AF)
 f189:=func159.trans (congrArg some AF)
 f215:=func227.trans (congrArg some AF)
 f216:=func256.trans (congrArg some AF)
 f257:=func219.trans (congrArg some AF)
 f294:=func250.trans (congrArg some AF)
 f295:=func251.trans (congrArg some AF)
 f296:=func252.trans (congrArg some AF)
 f297:=func253.trans (congrArg some AF)
 f298:=func254.trans (congrArg some AF)
 f299:=func255.trans (congrArg some AF)
 f300:=func257.trans (congrArg some AF)
 f301:=func258.trans (congrArg some AF)
 f328:=func295.trans (congrArg some AF)
 f329:=func221.trans (congrArg some AF)
 f330:=func222.trans (congrArg some AF)
 f331:=func296.trans (congrArg some AF)
 f332:=func297.trans (congrArg some AF)
 f343:=func314.trans (congrArg some AF)
 t0:=eC
 a0:=isAgg0
 z0:=sizeOf0
 v0:=eE
 t3:=D4
 a3:=AH
 z3:=AE
 v3:=HJ
 t4:=N6
 a4:=Fk
 z4:=DM
 v4:=W6
 t5:=Ly
 a5:=To
 z5:=It
 v5:=S7
 t9:=HA
 a9:=Hh
 z9:=Fm
 v9:=HS
 t28:=DE
 a28:=W8
 z28:=aE
 v28:=zeroValue28
 t46:=X2
 a46:=isAgg210
 z46:=eN
 v46:=fx
 t51:=T6
 a51:=Hc
 z51:=Fo
 v51:=fy
 t53:=XS
 a53:=cG
 z53:=eJ
 v53:=fz
 t131:=kO
 a131:=isAgg292
 z131:=sizeOf292
 v131:=kj
 t182:=ka
 a182:=isAgg286
 z182:=sizeOf286
 v182:=kl
 t183:=kc
 a183:=isAgg287
 z183:=sizeOf287
 v183:=kq
 t218:=ke
 a218:=isAgg332
 z218:=sizeOf332
 v218:=kx
 t222:=kf
 a222:=isAgg114
 z222:=W7
 v222:=Z2
 t228:=kh
 a228:=isAgg371
 z228:=sizeOf371
 v228:=l3
 t229:=ki
 a229:=isAgg372
 z229:=sizeOf372
 v229:=l4}
open Go.Sort Go.RowKit in
theorem Tryz.slices_Sort_int(g off cap:Nat)(zs:List Int)(w:AD)(G:Holds (Value.int .i64) w g off zs.toArray)(m:g<w.heap.size)(B:zs.length<4611686018427387904):
 Calls prog 159 #[.slice (some ⟨g,off,none⟩) zs.length cap] w fun e I=>
  e= .returned (.tuple #[])/\∃n os,I=grow (putRow (Value.int .i64) (Sort.ahead w n) g off (zs.mergeSort fun x y=>decide (x<=y)).toArray) os:=Any.slices_Sort_int Tryz.lays189 g off cap zs w G m B
def Tryz.lays190_ren:Go.Shelf.Ren:=⟨fun|190=>52|125=>105|258=>104|128=>170|129=>171|302=>161|303=>162|304=>163|305=>164|306=>165|307=>166|308=>167|309=>168|310=>169|333=>220|329=>221|330=>222|334=>223|335=>224|336=>225|344=>259|n=>n,fun|31=>52|9=>9|3=>3|46=>210|0=>0|51=>295|53=>297|4=>4|183=>287|182=>286|131=>292|5=>5|218=>332|222=>114|228=>371|229=>372|n=>n,fun|n=>n⟩
theorem Tryz.lays190:Go.Proofs.Lays.n190 prog Tryz.lays190_ren:={
 mixed:=by kernel_rfl
 f125:=func105.trans (congrArg some AF)
 f128:=func170.trans (congrArg some AF)
 f129:=func171.trans (congrArg some AF)
 f190:=func52.trans (congrArg some AF)
 f258:=func104.trans (congrArg some AF)
 f302:=func161.trans (congrArg some AF)
 f303:=func162.trans (congrArg some AF)
 f304:=func163.trans (congrArg some AF)
 f305:=func164.trans (congrArg some AF)
 f306:=func165.trans (congrArg some AF)
 f307:=func166.trans (congrArg some AF)
 f308:=func167.trans (congrArg some AF)
 f309:=func168.trans (congrArg some AF)
 f310:=func169.trans (congrArg some AF)
 f329:=func221.trans (congrArg some AF)
 f330:=func222.trans (congrArg some AF)
 f333:=func220.trans (congrArg some AF)
 f334:=func223.trans (congrArg some AF)
 f335:=func224.trans (congrArg some AF)
 f336:=func225.trans (congrArg some AF)
 f344:=func259.trans (congrArg some AF)
 t0:=eC
 a0:=isAgg0
 z0:=sizeOf0
 v0:=eE
 t3:=D4
 a3:=AH
 z3:=AE
 v3:=HJ
 t4:=N6
 a4:=Fk
 z4:=DM
 v4:=W6
 t5:=Ly
 a5:=To
 z5:=It
 v5:=S7
 t9:=HA
 a9:=Hh
 z9:=Fm
 v9:=HS
 t31:=DH
 a31:=LL
 z31:=I3
 v31:=cU
 t46:=X2
 a46:=isAgg210
 z46:=eN
 v46:=fx
 t51:=T6
 a51:=Hc
 z51:=Fo
 v51:=fy
 t53:=XS
 a53:=cG
 z53:=eJ
 v53:=fz
 t131:=kO
 a131:=isAgg292
 z131:=sizeOf292
 v131:=kj
 t182:=ka
 a182:=isAgg286
 z182:=sizeOf286
 v182:=kl
 t183:=kc
 a183:=isAgg287
 z183:=sizeOf287
 v183:=kq
 t218:=ke
 a218:=isAgg332
 z218:=sizeOf332
 v218:=kx
 t222:=kf
 a222:=isAgg114
 z222:=W7
 v222:=Z2
 t228:=kh
 a228:=isAgg371
 z228:=sizeOf371
 v228:=l3
 t229:=ki
 a229:=isAgg372
 z229:=sizeOf372
 v229:=l4}
open Go.Sort Go.RowKit in
theorem Tryz.slices_Sort_string(g off cap:Nat)(B:List (List UInt8))(w:AD)(I:Holds encStr w g off B.toArray)(m:g<w.heap.size)(G:B.length<4611686018427387904):
 Calls prog 52 #[.slice (some ⟨g,off,none⟩) B.length cap] w fun e J=>
  e= .returned (.tuple #[])/\∃n os,J=grow (putRow encStr (Sort.ahead w n) g off (B.mergeSort fun x y=>decide (x<=y)).toArray) os:=Any.slices_Sort_string Tryz.lays190 g off cap B w I m G
def Tryz.laysNm217_ren:Go.Shelf.Ren:=⟨fun|17=>193|n=>n,fun|24=>52|9=>9|3=>3|4=>4|0=>0|n=>n,fun|n=>n⟩
theorem Tryz.laysNm217:Go.Proofs.Lays2.n17 prog Tryz.laysNm217_ren:={
 mixed:=by kernel_rfl
 f17:=func193.trans (congrArg some AF)
 t0:=eC
 a0:=isAgg0
 z0:=sizeOf0
 v0:=eE
 t3:=D4
 a3:=AH
 z3:=AE
 v3:=HJ
 t4:=N6
 a4:=Fk
 z4:=DM
 v4:=W6
 t9:=HA
 a9:=Hh
 z9:=Fm
 v9:=HS
 t24:=DH
 a24:=LL
 z24:=I3
 v24:=cU}
open Go.RowKit Go.Lib Go.Sort in
theorem Tryz.slices_Reverse_string(g off cap:Nat)(zs:List (List UInt8))(w:AD)(B:Holds encStr w g off zs.toArray)(m:zs.length<=9223372036854775807):
 Calls prog 193 #[.slice (some ⟨g,off,none⟩) zs.length cap] w fun e G=>e= .returned (.tuple #[])/\∃n,G=putRow encStr (Sort.ahead w n) g off zs.reverse.toArray:=Any.slices_Reverse_string Tryz.laysNm217 g off cap zs w B m
open Go.RowKit Go.Lib Go.Sort in
theorem Tryz.slices_Reverse_string_empty(a:B8)(cap:Nat)(w:AD):
 Calls prog 193 #[.slice a 0 cap] w fun e g=>e= .returned (.tuple #[])/\g=w:=Any.slices_Reverse_string_empty Tryz.laysNm217 a cap w
open Go.RowKit Go.Sort in
theorem Tryz.slices_Sort_string_none(p:B8)(cap:Nat)(w:AD):
 Calls prog 52 #[.slice p 0 cap] w fun e g=>e= .returned (.tuple #[])/\g=w:=Any.slices_Sort_string_none Tryz.lays190 p cap w
open Go.RowKit Go.Sort in
theorem Tryz.slices_Sort_int_none(p:B8)(cap:Nat)(w:AD):
 Calls prog 159 #[.slice p 0 cap] w fun e g=>e= .returned (.tuple #[])/\g=w:=Any.slices_Sort_int_none Tryz.lays189 p cap w
end Go.Proofs
namespace Go.Proofs.YthhakdmlpngcmaaGreatDoor
open Go.Proofs.Tryz
open Go Go.RowKit Gw
set_option maxRecDepth 100000
attribute [local irreducible] Gw.At Gw.Nx Gw.Ops
def G7(l:List UInt8):A4:= .string (str l)
theorem RI(a b:List UInt8):str a++str b=str (a++b):=by
 apply ByteArray.ext;simp [str]
theorem Gq(a:List UInt8):(str a).size=a.length:=by simp [str,ByteArray.size]
theorem Rk(a:List UInt8):(str a).data.toList=a:=by simp [str]
theorem ZP(xs:List (List UInt8)):Lib.join xs []=xs.flatten:=by
 unfold Lib.join;induction xs with
 |nil=>rfl
 |cons x r ih=>cases r with
  |nil=>simp
  |cons y r=>rw [List.intercalate_cons_cons];rw [ih];simp
variable{o:Nat}
theorem yS{w:AD}{b:Nat}{c:AK}{T:AM}{z:Nat×Nat}{cs:List A4}(g:w.heap[b]?=some (.cells c T z))(h:Bz c o cs)(j:Nat)(v:A4)(m:cs[j]?=some v):w.cell? ⟨b,o+j,none⟩=some v:=by
 have:=Gz g h j v m;rcases PB j with rfl|h0
 · simpa [Addr.add]using this
 · simpa [Addr.add,Nat.ne_of_gt h0]using this
theorem nG(g o cap:Nat)(cs:AK)(T:AM)(z:Nat×Nat)(xs:List (List UInt8))(hc:Bz cs o (xs.map G7))(K:xs.length<=140737488355328)(m:xs.length<=cap)(B:xs.flatten.length<=140737488355328):
 BJ prog 302 #[.slice (some ⟨g,o,none⟩) xs.length cap,.string (str [])] [[(g,.cells cs T z)]] (.string (str xs.flatten)):=
 Rp (Rl:=fun v=>v= .string (str xs.flatten)) (fun w O=>by
  have I:=O (g,.cells cs T z) B4;have h:=Tryz.strings_Join g o cap (xs.map str) (str []) w (fun j x G=>by
   refine yS I hc j _ ?_;rw [DP]at G⊢;cases h1:xs[j]?with
   |none=>rw [h1]at G;cases G
   |some y=>rw [h1]at G;cases G;rfl) (by
    rcases FF g w.heap.size with h1|h1
    · exact h1
    · rw [ID h1]at I;cases I) (by simpa using K) (by simpa using m) (by
    rw [K0];have:(xs.map ((fun s:Bk=>s.data.toList)∘str))=xs:=by simp [str,mS]
    rw [this,Rk,ZP];exact B)
  rw [B6]at h;refine h.mono ?_;rintro e U ⟨rfl,J⟩;refine ⟨_,V,?_,J⟩;rw [K0];have:(xs.map ((fun s:Bk=>s.data.toList)∘str))=xs:=by simp [str,mS]
  rw [this,Rk,ZP];rfl) (fun v hv=>⟨hv,rfl⟩)
def tG(head rec:List UInt8):List UInt8:=sha (2::head++rec)
theorem iy(l:List UInt8)(B:l.length<=140737488355000)(g:AM)(m:Nat×Nat):BJ prog 240 #[.string (str l)] [[(4,.cells (Ew.map Cz).toArray g m)]] (.string (str (sha l))):=by
 have:=qA (str l) (by rw [Gq];exact B) g m;rw [Rk]at this;exact this
theorem M7(B o cap I:Nat)(cs:AK)(T O:AM)(z W:Nat×Nat)(xs:List (List UInt8))(m:List UInt8)(hc:Bz cs o (xs.map G7))(U:xs.length<=140737488355328)(g:xs.length<=cap)(J:m.length+xs.flatten.length<=140737488355000)(G:AM)(K:Nat×Nat):
 BJ prog 301 #[.slice (some ⟨B,o,none⟩) xs.length cap,I5 I] [[(B,.cells cs T z)],[(I,.cells #[G7 m] O W)],[(4,.cells (Ew.map Cz).toArray G K)]] (.string (str (sha (m++xs.flatten)))):=by
 refine Kl func301 V ntmps301 V ?_;intro u R;unfold G7;refine Zb [0,1] ?_;refine A1<|A5 Y<|Zq<|BA (n:=6) (0::0::2::7::15::31::[]) 20 AF AF V<|BE 0 V Hh Y<|A3 1 V (AO Y)<|Zz (l:=[2])<|B7 [true] [(0,(_,_))] V rfl (Zu [_,_] Y call302 Y V (nG B o cap cs T z xs hc U g A0)) ?_ (fun _ _ h=>h.elim) Aj;rintro _ _ ⟨rfl,rfl⟩;refine BW<|A3 3 rfl (Ml Y Y (by rw [Gq,Gq];omega))<|Yw 4 31 rfl (Zu [_] Y call240 Y rfl ((RI m xs.flatten)▸iy (m++xs.flatten) (by rw [Bm];omega) G K))<|Cp<|A3 5 V (Aq Y)<|Ag<|Zx<|AJ<|AP V results301 Y (by exact ⟨V,V⟩)
theorem Qk(m:Bk):BR prog 272 #[.string m] [] (fun r H'=>∃b,r= .func (.func 301) #[] #[I5 b]/\H'=[[(b,.cells #[.string m] 9 (0,0))]]):=by
 refine Se func272 ntmps272 [0] ?_;intro u R;refine A1<|Ze (Bx #[_])<|AG fun g=>A5 Y<|A1<|Zv (Bg (vs:=[]) (us:=[_]) Y Y)<|A5 Y<|AJ<|AP V results272 Y (by exact ⟨_,V,V⟩)
def R9(z:Nat):List (Nat×Bool):=if h:z<128 then [(z,true)]else(z%128,false)::R9 (z/128)
termination_by z
decreasing_by omega
theorem LA(z:Nat):R9 z=(z%128,decide (z<128))::(if z<128 then []else R9 (z/128)):=by
 rw [R9];by_cases h:z<128;· simp [h,de h]
 · simp [h]
theorem yH(z:Nat):∀x∈R9 z,x.1<128:=by
 induction z using Nat.strongRecOn with
 |_ z ih=>
  intro x g;rw [LA]at g;rcases DB.1 g with rfl|g
  · exact fh _ B1
  · by_cases h:z<128
    · rw [Ax h]at g;cases g
    · rw [As h]at g;exact ih (z/128) A0 x g
theorem uT(z k:Nat)(h:z<128^(k+1)):(R9 z).length<=k+1:=by
 induction k generalizing z with
 |zero=>rw [LA,Ax (by simpa using h)];simp
 |succ k ih=>
  rw [LA];by_cases g:z<128;· rw [Ax g];simp
  · rw [As g,E3]
    have:z/128<128^(k+1):=by
     rw [fg]at h;exact o4 (by rw [my];exact h)
    have:=ih _ this;omega
def gb(x:Nat×Bool):UInt8:=UInt8.ofNat (if x.2 then x.1 else x.1+128)
theorem tA(x:Nat×Bool)(h:x.1<128):u8v (gb x)= .int .u8 ((if x.2 then x.1 else x.1+128:Nat):Int):=by
 unfold u8v gb;rw [UInt8.toNat_ofNat',de (by split<;>omega)]
def zz(n:Int):Nat:=(if n<0 then-(2*n) -1 else 2*n).toNat
def U3(n:Int):List UInt8:=(R9 (zz n)).map gb
theorem yu(n:Int)(g:-4611686018427387903<=n)(h2:n<=4611686018427387903):zz n<9223372036854775808:=by unfold zz;split<;>omega
theorem vD(n:Int):0<(U3 n).length:=by unfold U3;rw [LA];simp
theorem PN(n:Int)(g:-4611686018427387903<=n)(h2:n<=4611686018427387903):(U3 n).length<=9:=by
 unfold U3;rw [B6];exact uT (zz n) 8 (by have:=yu n g h2;omega)
theorem td(y:Nat)(h:y<18446744073709551616):bits .and .u64 (y:Int) 127=((y%128:Nat):Int):=by
 have:=u64_and_nat y 127 h B1;rw [nat_mask7]at this;exact this
theorem ur(g:Nat)(h:g<128):bits .or .u8 (g:Int) 128=((g+128:Nat):Int):=by
 have:=u8_or_nat g 128 A0 B1;rw [Nat.or_comm,nat_join 7 128 g B1 h,Nat.add_comm]at this;exact this
theorem pJ(a:Nat)(h:a<18446744073709551616):a^^^18446744073709551615=18446744073709551615 -a:=by
 have g:BitVec.ofNat 64 a^^^BitVec.allOnes 64= ~~~BitVec.ofNat 64 a:=BitVec.xor_allOnes;have h2:=congrArg BitVec.toNat g
 rw [BitVec.toNat_xor,BitVec.toNat_not,BitVec.toNat_ofNat,de h]at h2;exact h2
theorem zQ(n:Int)(B:-4611686018427387903<=n)(h2:n<=4611686018427387903):bits .xor .u64 (IntKind.u64.wrap (IntKind.u64.wrap n*2^(1:Int).toNat)) (IntKind.u64.wrap (n/2^(63:Int).toNat))=(zz n:Int):=by
 rw [IntKind.wrap_u64,IntKind.wrap_u64,IntKind.wrap_u64];rw [show(2:Int)^(1:Int).toNat=2 from rfl,show(2:Int)^(63:Int).toNat=9223372036854775808 from rfl];by_cases h:n<0
 · obtain ⟨m,g⟩:∃m:Nat,n=-(m:Int):=⟨n.natAbs,by omega⟩
   have e1:n%18446744073709551616*2%18446744073709551616=((18446744073709551616 -2*m:Nat):Int):=by omega
   have e2:n/9223372036854775808%18446744073709551616=((18446744073709551615:Nat):Int):=by omega
   rw [e1,e2,u64_xor_nat _ _ A0 A0,pJ _ A0];unfold zz;rw [Ax h];omega
 · obtain ⟨m,g⟩:∃m:Nat,n=(m:Int):=⟨n.natAbs,by omega⟩
   have e1:n%18446744073709551616*2%18446744073709551616=((2*m:Nat):Int):=by omega
   have e2:n/9223372036854775808%18446744073709551616=((0:Nat):Int):=by omega
   rw [e1,e2,u64_xor_nat _ _ A0 A0,Nat.xor_zero];unfold zz;rw [As h];omega
theorem Bc{P:Program}{cx:Cx}{c:Code}{Q:Exit->Act->AD->Prop}{env:Env}{H:Hp}(h:At P cx c Q env ([]::H)):At P cx c Q env H:=Xm (H':=[]::H) rfl h
theorem Vh{α:Type}{l pre post:List α}{x:α}(h:l=pre++x::post):x∈l:=by rw [h];simp
theorem aK(I z:Nat)(hz:z<18446744073709551616):
 UJ prog 271 #[I5 I] [[(I,.cells #[.int .u64 (z:Int)] 297 (0,0))]] (fun x=>#[.int .u8 (x.1:Int),.bool x.2]) (R9 z):=by
 intro l J Z s K;refine Se func271 ntmps271 [0,1] ?_;intro u R;refine AQ<|Zb [0,1] ?_;refine BI (e0:=[]) (fun m e H=>∃(pre:List (Nat×Bool)) (y:Nat) (s:List A9),m=0+y/\(R9 z=pre++R9 y/\y<18446744073709551616/\J pre s)/\e=[]/\H=[[(I,.cells #[.int .u64 (y:Int)] 297 (0,0))],s]) (by exact ⟨[],z,s,V,⟨V,hz,K⟩,V,V⟩) Wp ?_;rintro _ _ _ ⟨pre,y,s,rfl,⟨g,G,K⟩,rfl,rfl⟩;refine AQ<|A1<|Zl cG Y ?_;refine Zv (Ay (n:=128) Y Y)<|A5 Y<|Zq<|Zq ?_;have U:=Z pre (y%128,decide (y<128)) (if y<128 then []else R9 (y/128)) s (by rw [g,<-LA]) K
 refine Zg<|Zm Y<|Zl cG Y ?_;refine Kw (sG (m:=(y:Int)) (n:=127) Y Y (td y G)) V rfl ?_;refine BU (Ub XS Ly Y A0)<|Zm Y<|Ze (Fe (vs:=[_,_]) Y Y (U) Wp) ?_;rintro _ _ ⟨_,⟨X,rfl,rfl,B⟩,rfl⟩;refine Zv (Bt Y)<|Zm Y<|Ah (t:=13) Y V (fun W=>by cases W)<|fun W=>Zf Y Y<|Zv (AL Y Y)<|Z0<|Zn [0,1,15] ?_;refine Zx<|Aw Y (fun O=>?_) (fun O=>?_);·
  refine AJ<|Zt<|Ab<|Zt<|Ab ?_;refine Ce V results271 (by
   exact ⟨X,V,by
    have e:R9 z=pre++[(y%128,decide (y<128))]:=by rw [g,LA y,Ax O]
    rw [e];exact B⟩)
 refine AC<|Zx<|Zg<|Zl cG Y ?_;refine BU (Q4 (n:=7) Y Y (by first|decide|(simp [IntKind.bits];done)|(simp [IntKind.bits];omega)))<|Xe (Zs eJ Y Y rfl) ?_;refine Z0<|A8<|Zn [0,1] ?_;refine Aa (e':=[]) (by exact ⟨pre++[(y%128,decide (y<128))],y/2^7,X,rfl,⟨by rw [g,LA y,As O];simp,by omega,B⟩,rfl,rfl⟩)
theorem aJ(z:Int):BR prog 237 #[.int .u64 z] [] (fun r H'=>∃b,r= .func (.func 271) #[] #[I5 b]/\H'=[[(b,.cells #[.int .u64 z] 297 (0,0))]]):=by
 refine Se func237 ntmps237 [0] ?_;intro u R;refine A1<|Ze (Bx #[_])<|AG fun g=>A5 Y<|A1<|Zv (Bg (vs:=[]) (us:=[_]) Y Y)<|A5 Y<|AJ<|AP V results237 Y (by exact ⟨_,V,V⟩)
theorem Qb(n:Int)(Z:-4611686018427387903<=n)(h2:n<=4611686018427387903):BJ prog 190 #[I4 n] [] (.tuple #[.string (str (U3 n)),I4 0]):=by
 have gq:=mL;have gy:=yu n Z h2
 have K:=PN n Z h2;unfold U3 at K;rw [B6]at K;refine DU func190 V ntmps190 V ?_;intro u R;refine Zb [0] ?_;refine A1<|Za Y<|A5 Y<|Zq<|A1<|Zm Y<|Zv (EH Y Y)<|Zm Y<|Ao (t:=9) Y V (fun ax=>by omega)<|fun ax=>Zf Y Y<|Yg (Ed Y Y)<|Zv (AL Y Y)<|A6<|Aw Y (fun bn=>by omega)<|fun bn=>AC<|Zx<|A1<|Ze (Al zeroValue103 #[_])<|AG fun bo=>A6<|Zq<|A1<|Zm Y<|Zv (Eu D4 XS Y V) ?_
 (refine BU (jG Y Y ?_ ?_ rfl) ?_;(focus (first|decide|omega|(simp [IntKind.bits];done)|(simp [IntKind.bits];omega)));(focus (first|decide|omega|(simp [IntKind.bits];done)|(simp [IntKind.bits];omega))))
 refine Zm Y ?_
 (refine BU (rf Y Y ?_ ?_ rfl) ?_;(focus (first|decide|omega|(simp [IntKind.bits];done)|(simp [IntKind.bits];omega)));(focus (first|decide|omega|(simp [IntKind.bits];done)|(simp [IntKind.bits];omega))))
 refine Zv (Eu D4 XS Y V)<|Kw (zC Y Y (zQ n Z h2)) V rfl ?_;refine Zc [_] Y call237 Y V (aJ _) ?_;rintro _ _ ⟨_,⟨bz,rfl,rfl⟩,rfl⟩;refine Z0<|Zn [4,20] ?_;refine Zx<|AQ<|Zb [4,20] ?_;refine Bc<|Qw (H0:=_) (R:=_) (I:=(fun pre H=>∃v s,H=[[(bo,.cells #[v] 103 (0,0))],s]/\Row 5 v ((pre.map gb).map u8v) s)) (asg:=fun x=>[(6,.bool x.2),(5,.int .u8 (x.1:Int)),(22,.bool x.2),(21,.int .u8 (x.1:Int))]) V Y call271 (aK bz (zz n) A0) Y V Wp (⟨_,[],V,Gs _⟩) ?ha_2 ?hbd_2 ?hk_2
 case ha_2=>
  intro _ x _ _;refine A1<|A5 Y<|Zg<|Za Y<|Z0 ?_;exact jL
 case hbd_2=>
  intro l pre x post u H1 R1 X hI;obtain ⟨v,s,rfl,U⟩:=hI;have W:=yH _ x (Vh X)
  have O:=tA x W;have cu:=congrArg List.length X
  rw [Bm,E3]at cu;obtain ⟨gv,cv,rfl⟩:=U.form;refine AQ<|Zq<|A1<|Zm Y<|Zv (Bt Y)<|A6<|AU Y (fun B=>?_) (fun B=>?_);·
   have G:x.2=false:=by simpa using B
   refine Zg<|Zm Y<|Kw (pB (m:=(x.1:Int)) (n:=128) Y Y (ur x.1 W)) V rfl ?_;refine A5 Y<|Zg<|Zl SD Y ?_;refine Zm Y<|Ze (Ai (vs:=[_]) (cs:=[_]) HL It S7 Y V rfl V rfl V)<|AG fun b2=>Ze (Dj (by_:=1) (news:=[_]) HL (V:Tryz.prog.info? 5=some Tryz.t5) V rfl V rfl Y U Y Wo Wh B0 V Ft B1 (by(simp only [B6];omega)) (by(simp only [B6];omega))) ?_;rintro _ _ ⟨sb,g,rfl⟩;obtain ⟨gb,cb,rfl⟩:=g.form;refine Xe (Zs NO Y Y V) ?_;refine Z0<|A8<|Eg V (by
    exact ⟨_,_,V,by
     rw [C0,C0,Lo,Lo,O,G];exact g⟩)
  have G:x.2=true:=by simpa using B
  refine AC<|Zx<|Zg<|Zl SD Y ?_;refine Zm Y<|Ze (Ai (vs:=[_]) (cs:=[_]) HL It S7 Y V rfl V rfl V)<|AG fun b4=>Ze (Dj (by_:=1) (news:=[_]) HL (V:Tryz.prog.info? 5=some Tryz.t5) V rfl V rfl Y U Y Wo Wh B0 V Ft B1 (by(simp only [B6];omega)) (by(simp only [B6];omega))) ?_;rintro _ _ ⟨sb,g,rfl⟩;obtain ⟨gb,cb,rfl⟩:=g.form;refine Xe (Zs NO Y Y V) ?_;refine Z0<|A8<|Eg V (by
   exact ⟨_,_,V,by
    rw [C0,C0,Lo,Lo,O,G];exact g⟩)
 intro D1 H2 af;obtain ⟨v,s,rfl,U⟩:=af;have J:=vD n
 unfold U3 at J;obtain ⟨gv,cv,cur,zv,rfl,rfl,gm,d9,dn,cO,ek⟩:=U.some (by rw [B6];exact J);refine Zn [4] ?_;refine A8<|Zx<|A1<|Zl SD Y ?_;refine Zo Wh (KN HL Ly HA Y (by exact ⟨cO,by simp⟩)) ?_;refine Za Y<|A5 Y<|AJ<|Fv V (qm results190 Y Y) Wo (by exact ⟨V,V⟩)
structure AR where
 t:Int
 k:Int
 v:V3
deriving DecidableEq
abbrev AR.A71(c:AR):Array Go.Value:=#[I4 c.t,I4 c.k,I4 c.v.a,I4 c.v.b,I4 c.v.c]
structure Chg where
 t:Int
 k:Int
 had:Bool
 o:V3
 has:Bool
 n:V3
deriving DecidableEq
abbrev Chg.A70(c:Chg):Array Go.Value:=#[I4 c.t,I4 c.k,.bool c.had,I4 c.o.a,I4 c.o.b,I4 c.o.c,.bool c.has,I4 c.n.a,I4 c.n.b,I4 c.n.c]
def AR.zero:AR:=⟨0,0,V3.zero⟩
def AR.ok(r:AR):Prop:=r.v.ok/\(0<=r.t/\r.t<=3)/\(1<=r.k/\r.k<=1000000)
instance(r:AR):Decidable r.ok:=inferInstanceAs(Decidable (_/\_/\_))
def Chg.before(c:Chg):AR:=if c.had then⟨c.t,c.k,c.o⟩else AR.zero
def Chg.after(c:Chg):AR:=if c.has then⟨c.t,c.k,c.n⟩else AR.zero
variable{c:Chg}
theorem PP(h:c.had=true):c.before=⟨c.t,c.k,c.o⟩:=Ax h
theorem vT(h:c.had=false):c.before=AR.zero:=As (by rw [h];decide)
theorem LU(h:c.has=true):c.after=⟨c.t,c.k,c.n⟩:=Ax h
theorem yj(h:c.has=false):c.after=AR.zero:=As (by rw [h];decide)
def Chg.ok(c:Chg):Prop:=¬((¬c.had/\¬c.has)\/(c.had/\c.has/\c.o=c.n))/\¬((c.had/\¬c.before.ok)\/(c.has/\¬c.after.ok))/\(c.had\/c.o=V3.zero)/\(c.has\/c.n=V3.zero)
instance(c:Chg):Decidable c.ok:=inferInstanceAs(Decidable (_/\_/\_/\_))
theorem KG(n lo hi:Int):BJ prog 123 #[I4 n,I4 lo,I4 hi] [] (.bool (decide (lo<=n/\n<=hi))):=by
 refine Se func123 ntmps123 [0,1,2] ?_;intro u R;refine A1<|A5 Y<|A1<|Zm Y<|Zm Y<|Zv (Gj Y Y)<|Zm Y<|Ao (t:=10) Y V (fun g=>?_) (fun g=>?_);·
  refine Zf Y Y<|Zf Y Y<|Yg (NJ Y Y)<|Zv (AX Y Y)<|A5 Y<|AJ<|AP V results123 Y (by exact ⟨by simp [g],V⟩)
 refine A7 Y V<|A7 Y V<|A7 Y V<|Zv (AL Y Y)<|A5 Y<|AJ<|AP V results123 Y (by exact ⟨by simp [g],V⟩)
theorem lG(c:Chg):BJ prog 179 #[.agg c.A70] [] (.tuple #[.agg c.before.A71,.bool c.had]):=by
 refine Se func179 ntmps179 [0] ?_;intro u R;refine A1<|Ze (Bx #[_,_,_,_,_,_,_,_,_,_])<|AG fun m=>Ze (Al F0 #[_,_,_,_,_])<|AG fun B=>A5 Y<|Zq<|A1<|Zh 2 C3 V rfl DM Y<|Zl Fk Y ?_;refine Zv (Bt Y)<|A6<|AU Y (fun g=>?_) (fun g=>?_);·
  refine A1<|Zv (BM (vs:=[]) (cs:=#[_,_,_,_,_]) Y (AY (pl:=#[(0,1),(1,1),(2,3)]) F0 G1 (fun _=>by kernel_rfl) V))<|Xe (Xw B3 _) ?_;refine A5 Y<|AJ<|Zt<|CL V results179 Y Wh (Au D0 B3 Wn (V)) Y (by simp only [ep,S4,dr]at g;exact ⟨by(rw [vT g,g];rfl),V⟩)
 refine AC<|Zx<|A1<|Zh 0 C3 V rfl AE Y<|Zl AH Y ?_;refine Zh 1 C3 V rfl AE Y<|Zl AH Y ?_;refine Zh 3 C3 V rfl Dg Y<|Zo Wh (Pa #[_,_,_] HN Dg Y) ?_;refine Zv (BM (vs:=[(0,_),(1,_),(2,_)]) (cs:=#[_,_,_,_,_]) Y (AY (pl:=#[(0,1),(1,1),(2,3)]) F0 G1 (fun _=>by kernel_rfl) rfl))<|Xe (BL B3 Y Y (by(simp [Value.oneCell',Value.cells];done)) Wu B0 FA Wn (by exact BC _)) ?_;refine AW Y<|Zn [2,3] ?_;refine Zx<|AJ<|CL V results179 Y Wh (Au D0 B3 Wn (V)) Y (by simp only [ep,S4,dr]at g;exact ⟨by(rw [PP g,g];rfl),V⟩)
theorem SX(c:Chg):BJ prog 65 #[.agg c.A70] [] (.tuple #[.agg c.after.A71,.bool c.has]):=by
 refine Se func65 ntmps65 [0] ?_;intro u R;refine A1<|Ze (Bx #[_,_,_,_,_,_,_,_,_,_])<|AG fun m=>Ze (Al F0 #[_,_,_,_,_])<|AG fun B=>A5 Y<|Zq<|A1<|Zh 6 C3 V rfl DM Y<|Zl Fk Y ?_;refine Zv (Bt Y)<|A6<|AU Y (fun g=>?_) (fun g=>?_);·
  refine A1<|Zv (BM (vs:=[]) (cs:=#[_,_,_,_,_]) Y (AY (pl:=#[(0,1),(1,1),(2,3)]) F0 G1 (fun _=>by kernel_rfl) V))<|Xe (Xw B3 _) ?_;refine A5 Y<|AJ<|Zt<|CL V results65 Y Wh (Au D0 B3 Wn (V)) Y (by simp only [ep,S4,dr]at g;exact ⟨by(rw [yj g,g];rfl),V⟩)
 refine AC<|Zx<|A1<|Zh 0 C3 V rfl AE Y<|Zl AH Y ?_;refine Zh 1 C3 V rfl AE Y<|Zl AH Y ?_;refine Zh 7 C3 V rfl Dg Y<|Zo Wh (Pa #[_,_,_] HN Dg Y) ?_;refine Zv (BM (vs:=[(0,_),(1,_),(2,_)]) (cs:=#[_,_,_,_,_]) Y (AY (pl:=#[(0,1),(1,1),(2,3)]) F0 G1 (fun _=>by kernel_rfl) rfl))<|Xe (BL B3 Y Y (by(simp [Value.oneCell',Value.cells];done)) Wu B0 FA Wn (by exact BC _)) ?_;refine AW Y<|Zn [2,3] ?_;refine Zx<|AJ<|CL V results65 Y Wh (Au D0 B3 Wn (V)) Y (by simp only [ep,S4,dr]at g;exact ⟨by(rw [LU g,g];rfl),V⟩)
theorem SV(r:AR):BJ prog 180 #[.agg r.A71] [] (.bool (decide r.ok)):=by
 refine Se func180 ntmps180 [0] ?_;intro u R;refine A1<|Ze (Bx #[_,_,_,_,_])<|AG fun K=>A5 Y<|Zq<|A1<|A5 Y<|AQ<|Zb [3,1] ?_;refine BI (e0:=[(3,_)]) (fun m e H=>∃(i:Nat),m=3 -i/\(i<=3/\(∀j,j<i->inV (r.v.get j)))/\e=[(3,I4 (i:Int))]/\H=[]) (by exact ⟨0,V,⟨by omega,by intro j J;omega⟩,V,V⟩) Wp ?_;rintro _ _ _ ⟨i,rfl,⟨hi,g⟩,rfl,rfl⟩;refine Zq<|A1<|Zm Y<|Zv (Ay (n:=3) Y Y)<|A6<|Aw Y (fun G=>?_) (fun G=>?_);·
  refine AC<|Zx<|Zq<|AQ<|A1<|Zm Y<|Zh 2 G1 V rfl Dg Y ?_;refine BU (Cu HM AE Y Y A0)<|Zl AH Y (hv:=by rw [Mn];exact tx _ _ r.v _ A0) ?_;refine Xr [_,_,_] Y call123 Y V (KG _ _ _) ?_;refine Zv (DD Y)<|A6<|Aw Y (fun B=>?_) (fun B=>?_);·
   refine A1<|A5 Y<|AJ<|Ab<|Zt<|Zt<|Ab<|Zt<|AP rfl results180 Y (by exact ⟨by rw [Cl (fun h9:r.ok=>B (pY.1 h9.1 i A0))],rfl⟩)
  refine AC<|A8<|Zx<|Zg<|Zm Y<|Ya (n:=1) Y Y<|AW Y<|Zn [3,1] ?_;refine Aa (e':=[(3,_)]) (by exact ⟨i+1,V,⟨by omega,wZ g (I0.1 B)⟩,V,V⟩)
 refine BD<|Zt<|Zt<|AV<|Zx<|A1<|Zh 0 G1 V rfl AE Y<|Zl AH Y ?_;refine Xr [_,_,_] Y call123 Y V (KG _ _ _) ?_;refine Zm Y<|Ao (t:=17) Y V (fun I=>?_) (fun I=>?_);·
  refine Yf 1 G1 V rfl AE Y<|Yl AH Y ?_;refine Xr [_,_,_] Y call123 Y V (KG _ _ _) ?_;refine Zv (AX Y Y)<|A5 Y<|AJ<|AP V results180 Y (by have hv:r.v.ok:=pY.2 (fun j J=>g j A0);exact ⟨by simp only [AR.ok,hv,I,WD,gx,al],V⟩)
 refine A7 Y V<|A7 Y V<|A7 Y V<|Zv (AL Y Y)<|A5 Y<|AJ<|AP V results180 Y (by have hv:r.v.ok:=pY.2 (fun j J=>g j A0);exact ⟨by simp only [AR.ok,hv,I,WD,gx,al],V⟩)
theorem lF(c:Chg):BJ prog 124 #[.agg c.A70] [] (.bool (decide c.ok)):=by
 refine Se func124 ntmps124 [0] ?_;intro u R;refine A1<|Ze (Bx #[_,_,_,_,_,_,_,_,_,_])<|AG fun b1=>A5 Y<|A1<|Zo Wh (Pa #[_,_,_,_,_,_,_,_,_,_] GF CC Y)<|Xr [_] Y call179 Y V (lG c)<|Zm Y<|Zd Y V<|Zd Y V<|Ze (Al F0 #[_,_,_,_,_])<|AG fun b2=>Xe (Xw B3 _)<|A5 Y<|A1<|Zo Wh (Pa #[_,_,_,_,_,_,_,_,_,_] GF CC Y)<|Xr [_] Y call65 Y V (SX c)<|Zm Y<|Zd Y V<|Zd Y V<|Ze (Al F0 #[_,_,_,_,_])<|AG fun b3=>Xe (Xw B3 _)<|AW Y<|Zn [1,3,4,5,6] ?_;refine Zx<|Zq<|Zb [1,3,4,5,6] ?_;refine CW (e0:=[]) (H0:=[]) (fun e H=>∃(U:Bool),(U=decide ((¬c.had/\¬c.has)\/(c.had/\c.has/\c.o=c.n)))/\e=[(35,.bool U)]/\H=[]) Wp ?hx_1 ?hy_1
 case hx_1=>
  refine Zg<|Zm Y<|Zv (Bt Y)<|Zm Y<|Ah (t:=19) Y V (fun W=>?_) (fun W=>?_);·
   refine Zf Y Y<|Yg (Bt Y)<|Zv (AX Y Y)<|Zm Y<|Ah (t:=23) Y V (fun X=>?_) (fun X=>?_);·
    refine A7 Y V<|A7 Y V<|A7 Y V<|A7 Y V<|A7 Y V<|A7 Y V<|A7 Y V<|A7 Y V<|A7 Y V<|A7 Y V<|A7 Y V<|Zv (AX Y Y)<|Z0<|Zn [35,1,3,4,5,6] ?_;refine Av (e':=[(35,_)]) (by exact ⟨_,by simp_all,V,V⟩)
   refine Zf Y Y<|Zf Y Y<|Ah (t:=25) Y V (fun Z=>?_) (fun Z=>?_);·
    refine Zf Y Y<|Yg (AX Y Y)<|Zf Y Y<|Ah (t:=28) Y V (fun af=>?_) (fun af=>?_);·
     refine Yf 3 C3 V rfl Dg Y<|Dw Y Wh (Pa #[_,_,_] HN Dg Y) V rfl<|Yf 7 C3 V rfl Dg Y<|Dw Y Wh (Pa #[_,_,_] HN Dg Y) V rfl<|Yg (Kv AF HM D4 AH AE Y Y) ?_;refine Yg (AX Y Y)<|Zv (AL Y Y)<|Z0<|Zn [35,1,3,4,5,6] ?_;refine Av (e':=[(35,_)]) (by exact ⟨_,by simp_all,V,V⟩)
    refine A7 Y V<|A7 Y V<|A7 Y V<|A7 Y V<|A7 Y V<|Yg (AL Y Y)<|Zv (AL Y Y)<|Z0<|Zn [35,1,3,4,5,6] ?_;refine Av (e':=[(35,_)]) (by exact ⟨_,by simp_all,V,V⟩)
   refine A7 Y V<|Yg (AL Y Y)<|Zf Y Y<|A7 Y V<|A7 Y V<|A7 Y V<|A7 Y V<|A7 Y V<|Yg (AL Y Y)<|Zv (AL Y Y)<|Z0<|Zn [35,1,3,4,5,6] ?_;refine Av (e':=[(35,_)]) (by exact ⟨_,by simp_all,V,V⟩)
  refine A7 Y V<|A7 Y V<|Zv (AL Y Y)<|Zm Y<|Zf Y Y<|Zf Y Y<|Ah (t:=25) Y V (fun ax=>?_) (fun ax=>?_);·
   refine Zf Y Y<|Yg (AX Y Y)<|Zf Y Y<|Ah (t:=28) Y V (fun bn=>?_) (fun bn=>?_);·
    refine Yf 3 C3 V rfl Dg Y<|Dw Y Wh (Pa #[_,_,_] HN Dg Y) V rfl<|Yf 7 C3 V rfl Dg Y<|Dw Y Wh (Pa #[_,_,_] HN Dg Y) V rfl<|Yg (Kv AF HM D4 AH AE Y Y) ?_;refine Yg (AX Y Y)<|Zv (AL Y Y)<|Z0<|Zn [35,1,3,4,5,6] ?_;refine Av (e':=[(35,_)]) (by exact ⟨_,by simp_all,V,V⟩)
   refine A7 Y V<|A7 Y V<|A7 Y V<|A7 Y V<|A7 Y V<|Yg (AL Y Y)<|Zv (AL Y Y)<|Z0<|Zn [35,1,3,4,5,6] ?_;refine Av (e':=[(35,_)]) (by exact ⟨_,by simp_all,V,V⟩)
  refine A7 Y V<|Yg (AL Y Y)<|Zf Y Y<|A7 Y V<|A7 Y V<|A7 Y V<|A7 Y V<|A7 Y V<|Yg (AL Y Y)<|Zv (AL Y Y)<|Z0<|Zn [35,1,3,4,5,6] ?_;refine Av (e':=[(35,_)]) (by exact ⟨_,by simp_all,V,V⟩)
 rintro _ _ ⟨U,ek,rfl,rfl⟩;refine AU Y (fun cu=>?_) (fun cu=>?_);·
  refine A1<|A5 Y<|AJ<|Zt<|AP V eI Y (by exact ⟨by simp_all [Chg.ok],V⟩)
 refine AC<|Zx<|Zq<|Zb [3,5,1,4,6] ?_;refine CW (e0:=[(3,_),(5,_)]) (H0:=[]) (fun e H=>∃(O:Bool),(O=decide ((c.had/\¬c.before.ok)\/(c.has/\¬c.after.ok)))/\e=[(49,.bool O)]/\H=[]) Wp ?hx_10 ?hy_10
 case hx_10=>
  refine Zg<|Zm Y<|Zm Y<|Ah (t:=37) Y V (fun cO=>?_) (fun cO=>?_);·
   refine Dw Y Wh (Pa #[_,_,_,_,_] D0 B3 Y) V rfl<|Xr [_] Y call180 Y V (SV _)<|Yg (DD Y)<|Zv (AX Y Y)<|Zm Y<|Ao (t:=42) Y V (fun d9=>?_) (fun d9=>?_);·
    refine A7 Y V<|A7 Y V<|A7 Y V<|A7 Y V<|A7 Y V<|A7 Y V<|Zv (AX Y Y)<|Z0<|Zn [49,1,4,6] ?_;refine Av (e':=[(49,_)]) (by exact ⟨_,by simp_all,V,V⟩)
   refine Zf Y Y<|Zf Y Y<|Ah (t:=44) Y V (fun g=>?_) (fun g=>?_);·
    refine Dw Y Wh (Pa #[_,_,_,_,_] D0 B3 Y) V rfl<|Xr [_] Y call180 Y V (SV _)<|Yg (DD Y)<|Yg (AX Y Y)<|Zv (AL Y Y)<|Z0<|Zn [49,1,4,6] ?_;refine Av (e':=[(49,_)]) (by exact ⟨_,by simp_all,V,V⟩)
   refine A7 Y V<|A7 Y V<|A7 Y V<|Yg (AL Y Y)<|Zv (AL Y Y)<|Z0<|Zn [49,1,4,6] ?_;refine Av (e':=[(49,_)]) (by exact ⟨_,by simp_all,V,V⟩)
  refine A7 Y V<|A7 Y V<|A7 Y V<|Zv (AL Y Y)<|Zm Y<|Zf Y Y<|Zf Y Y<|Ah (t:=44) Y V (fun m=>?_) (fun m=>?_);·
   refine Dw Y Wh (Pa #[_,_,_,_,_] D0 B3 Y) V rfl<|Xr [_] Y call180 Y V (SV _)<|Yg (DD Y)<|Yg (AX Y Y)<|Zv (AL Y Y)<|Z0<|Zn [49,1,4,6] ?_;refine Av (e':=[(49,_)]) (by exact ⟨_,by simp_all,V,V⟩)
  refine A7 Y V<|A7 Y V<|A7 Y V<|Yg (AL Y Y)<|Zv (AL Y Y)<|Z0<|Zn [49,1,4,6] ?_;refine Av (e':=[(49,_)]) (by exact ⟨_,by simp_all,V,V⟩)
 rintro _ _ ⟨O,dn,rfl,rfl⟩;refine AU Y (fun B=>?_) (fun B=>?_);·
  refine A1<|A5 Y<|AJ<|Zt<|AP V eI Y (by exact ⟨by simp_all [Chg.ok],V⟩)
 refine AC<|Zx<|A1<|Zm Y<|Zm Y<|Ah (t:=51) Y V (fun G=>?_) (fun G=>?_);·
  refine A7 Y V<|A7 Y V<|A7 Y V<|A7 Y V<|Zv (AX Y Y)<|Zm Y<|Zf Y Y<|Zf Y Y<|Ah (t:=59) Y V (fun I=>?_) (fun I=>?_);·
   refine A7 Y V<|A7 Y V<|A7 Y V<|A7 Y V<|Yg (AX Y Y)<|Zv (AX Y Y)<|AW Y<|Zn [2] ?_;refine Zx<|AJ<|AP V eI Y (by exact ⟨by simp_all [Chg.ok],V⟩)
  refine Yf 7 C3 V rfl Dg Y<|Dw Y Wh (Pa #[_,_,_] HN Dg Y) V rfl<|Yg (BM (vs:=[]) (cs:=#[_,_,_]) Y (DL ZS HM AE V)) ?_;refine Yg (IV AF HM D4 AH AE Y Y) ?_;refine Yg (AL Y Y)<|Zv (AX Y Y)<|AW Y<|Zn [2] ?_;refine Zx<|AJ<|AP V eI Y (by exact ⟨by simp_all [Chg.ok],V⟩)
 refine Yf 3 C3 V rfl Dg Y<|Dw Y Wh (Pa #[_,_,_] HN Dg Y) V rfl<|Yg (BM (vs:=[]) (cs:=#[_,_,_]) Y (DL ZS HM AE V)) ?_;refine Yg (IV AF HM D4 AH AE Y Y) ?_;refine Zv (AL Y Y)<|Zm Y<|Ao (t:=57) Y V (fun J=>?_) (fun J=>?_);·
  refine Zf Y Y<|Zf Y Y<|Ah (t:=59) Y V (fun K=>?_) (fun K=>?_);·
   refine A7 Y V<|A7 Y V<|A7 Y V<|A7 Y V<|Yg (AX Y Y)<|Zv (AX Y Y)<|AW Y<|Zn [2] ?_;refine Zx<|AJ<|AP V eI Y (by exact ⟨by simp_all [Chg.ok],V⟩)
  refine Yf 7 C3 V rfl Dg Y<|Dw Y Wh (Pa #[_,_,_] HN Dg Y) V rfl<|Yg (BM (vs:=[]) (cs:=#[_,_,_]) Y (DL ZS HM AE V)) ?_;refine Yg (IV AF HM D4 AH AE Y Y) ?_;refine Yg (AL Y Y)<|Zv (AX Y Y)<|AW Y<|Zn [2] ?_;refine Zx<|AJ<|AP V eI Y (by exact ⟨by simp_all [Chg.ok],V⟩)
 refine A7 Y V<|A7 Y V<|A7 Y V<|A7 Y V<|A7 Y V<|A7 Y V<|A7 Y V<|Zv (AL Y Y)<|AW Y<|Zn [2] ?_;refine Zx<|AJ<|AP V eI Y (by exact ⟨by simp_all [Chg.ok],V⟩)
def Cv(M:List A9)(v:A4)(cs:List Chg):Prop:=∃p cap,v= .slice p cs.length cap/\cs.length<=maxLen/\∀(i:Nat) (c:Chg),cs[i]?=some c->∃g off cur T zz,p=some ⟨g,off,none⟩/\(g,Obj.cells cur T zz)∈M/\off+i*10+10<=cur.size/\cur.extract (off+i*10) (off+i*10+10)=c.A70
def Chg.lt(b c:Chg):Prop:=b.t<c.t\/b.t=c.t/\b.k<c.k
instance(b c:Chg):Decidable (b.lt c):=inferInstanceAs(Decidable (_\/_))
structure EK(p:Int)(cs:List Chg):Prop where
 pos:1<=p/\p<=10000
 len:1<=cs.length/\cs.length<=8
 all:∀(i:Nat) (c:Chg),cs[i]?=some c->c.ok
 ord:∀(i:Nat) (b c:Chg),cs[i]?=some b->cs[i+1]?=some c->b.lt c
noncomputable instance(p:Int)(cs:List Chg):Decidable (EK p cs):=Classical.propDecidable _
variable{i:Nat}
theorem MX{cs:List Chg}{x:Chg}(h:∀(j:Nat) (c:Chg),j<i->cs[j]?=some c->c.ok)(m:cs[i]?=some x)(g:x.ok):∀(j:Nat) (c:Chg),j<i+1->cs[j]?=some c->c.ok:=by
 intro j c B hc;rcases FF j i with h9|h9
 · exact h j c h9 hc
 · have e:j=i:=by omega
   rw [e,m]at hc;injection hc with hc;rw [<-hc];exact g
theorem M3{cs:List Chg}{x:Chg}(h:∀(j:Nat) (b c:Chg),j+1<i->cs[j]?=some b->cs[j+1]?=some c->b.lt c)(B:cs[i]?=some x)(m:i=0\/∃y,cs[i -1]?=some y/\y.lt x):∀(j:Nat) (b c:Chg),j+1<i+1->cs[j]?=some b->cs[j+1]?=some c->b.lt c:=by
 intro j b c G g hc;rcases FF (j+1) i with h9|h9
 · exact h j b c h9 g hc
 · have e:j+1=i:=by omega
   rw [e,B]at hc;injection hc with hc
   rcases m with h0|⟨y,hy,hl⟩
   · omega
   · rw [show i -1=j by omega,g]at hy;injection hy with hy;rw [hy,<-hc];exact hl
theorem lD(p:Int)(q:B8)(cap:Nat)(cs:List Chg)(M:List A9)(hO:Cv M (.slice q cs.length cap) cs):BJ prog 64 #[.agg #[I4 p,.slice q cs.length cap]] [M] (.bool (decide (EK p cs))):=by
 have gy:=mL;obtain ⟨p9,ek,e9,ic,hg⟩:=hO;injection e9 with e91 e92 e93
 subst e91 e93;refine Se func64 ntmps64 [0] ?_;intro u R;refine A1<|Ze (Bx #[_,_])<|AG fun b1=>A5 Y<|Zq<|A1<|Zh 0 HE V rfl AE Y<|Zl AH Y<|Xr [_,_,_] Y call123 Y V (KG _ _ _)<|Zv (DD Y)<|Zm Y<|Ao (t:=10) Y V (fun hp=>?_) (fun hp=>?_);·
  refine A7 Y V<|A7 Y V<|A7 Y V<|A7 Y V<|A7 Y V<|Zv (AX Y Y)<|Z0<|Zn [1,16] ?_;refine Zx<|DT Y<|A1<|A5 Y<|AJ<|Zt<|AP rfl eR Y (by exact ⟨by rw [Cl (fun h9:EK p cs=>by have J:=h9.pos;have af:=h9.len;exact hp J)],rfl⟩)
 refine Yf 1 HE V rfl MA Y<|Yl OK Y<|Yg (Ac Gk Y)<|Xr [_,_,_] Y call123 Y V (KG _ _ _)<|Yg (DD Y)<|Zv (AL Y Y)<|Z0<|Zn [1,16] ?_;refine Zx<|Aw Y (fun hl=>?_) (fun hl=>?_);·
  refine A1<|A5 Y<|AJ<|Zt<|AP rfl eR Y (by exact ⟨by rw [Cl (fun h9:EK p cs=>by have J:=h9.pos;have af:=h9.len;(apply hl;omega))],rfl⟩)
 refine AC<|Zx<|Zq<|A1<|A5 Y<|AQ<|Zb [3,1] ?_;refine BI (e0:=[(3,_)]) (fun m e H=>∃(i:Nat),m=cs.length -i/\(i<=cs.length/\(∀(j:Nat) (c:Chg),j<i->cs[j]?=some c->c.ok)/\(∀(j:Nat) (b c:Chg),j+1<i->cs[j]?=some b->cs[j+1]?=some c->b.lt c))/\e=[(3,I4 (i:Int))]/\H=[]) (by exact ⟨0,V,⟨by omega,by intro j c hj;omega,by intro j b c hj;omega⟩,V,V⟩) Wp ?_;rintro _ _ _ ⟨i,rfl,⟨hi,G,I⟩,rfl,rfl⟩;refine Zq<|A1<|Zm Y<|Zh 1 HE V rfl MA Y<|Zl OK Y<|Zv (Ac Gk Y)<|Zv (Ay Y Y)<|A6<|Aw Y (fun W=>?_) (fun W=>?_);·
  refine AC<|Zx<|Zq<|AQ<|Zq ?_;obtain ⟨x,K⟩:∃x,cs[i]?=some x:=⟨_,BT W⟩;obtain ⟨g,off,cur,T,zz,rfl,hm,j3,ax⟩:=hg i x K;refine Zg<|Zh 1 HE V rfl MA Y<|Zl OK Y<|Zm Y<|BU (Ae Gk CC Y Y A0)<|CS (cs:=[(g,.cells cur T zz)]) (by simp [hm]) (AB (cs:=x.A70) GF CC Y A0 ax) V rfl<|Ze (Al LS #[_,_,_,_,_,_,_,_,_,_])<|AG fun b2=>Xe (Xw CC _)<|A6<|Zq<|A1<|Zo Wh (Pa #[_,_,_,_,_,_,_,_,_,_] GF CC Y)<|Xr [_] Y call124 Y V (lF x)<|Zv (DD Y)<|Z0<|Zn [1,3,4,31] ?_;refine Zx<|Aw Y (fun B=>?_) (fun B=>?_);·
   refine A1<|A5 Y<|AJ<|Zt<|Ab<|Zt<|Zt<|Ab<|Zt<|AP rfl eR Y (by exact ⟨by rw [Cl (fun h9:EK p cs=>B (h9.all i x K))],rfl⟩)
  refine AC<|Zx<|A1<|Zm Y<|Zv (DR (n:=0) Y Y)<|A6<|Aw Y (fun X=>?_) (fun X=>?_);·
   refine Zq ?_;obtain ⟨y,Z⟩:∃y,cs[i -1]?=some y:=⟨_,BT A0⟩;obtain ⟨g2,gq,O,T2,dn,e2,bn,gm,U⟩:=hg (i -1) y Z;injection e2 with e2
   injection e2 with e21 e22
   subst e21 e22;refine Zg<|Zh 1 HE V rfl MA Y<|Zl OK Y<|Zm Y<|Yb (n:=1) Y Y ?_;refine BU (Ae Gk CC Y Y A0)<|CS (cs:=[(g,.cells O T2 dn)]) (by simp [bn]) (AB (cs:=y.A70) GF CC Y A0 U) V rfl<|Ze (Al LS #[_,_,_,_,_,_,_,_,_,_])<|AG fun b3=>Xe (Xw CC _)<|A6<|A1<|Zh 0 C3 V rfl AE Y<|Zl AH Y<|Zh 0 C3 V rfl AE Y<|Zl AH Y<|Zv (Ed Y Y)<|Zm Y<|Ao (t:=45) Y V (fun cu=>?_) (fun cu=>?_);·
    refine A7 Y V<|A7 Y V<|A7 Y V<|A7 Y V<|A7 Y V<|A7 Y V<|A7 Y V<|A7 Y V<|A7 Y V<|A7 Y V<|A7 Y V<|A7 Y V<|Zv (AX Y Y)<|Z0<|Zn [1,3,58] ?_;refine Zx<|DT Y<|A1<|A5 Y<|AJ<|Ab<|Zt<|Zt<|Ab<|Zt<|AP rfl eR Y (by exact ⟨by rw [Cl (fun h9:EK p cs=>by have J:=h9.ord (i -1) y x Z (by rw [show i -1+1=i by omega];exact K);unfold Chg.lt at J;omega)],rfl⟩)
   refine Yf 0 C3 V rfl AE Y<|Yl AH Y<|Yf 0 C3 V rfl AE Y<|Yl AH Y<|Yg (CP Y Y)<|Zf Y Y<|Ao (t:=51) Y V (fun cO=>?_) (fun cO=>?_);·
    refine Yf 1 C3 V rfl AE Y<|Yl AH Y<|Yf 1 C3 V rfl AE Y<|Yl AH Y<|Yg (Gj Y Y)<|Yg (AX Y Y)<|Zv (AL Y Y)<|Z0<|Zn [1,3,58] ?_;refine Zx<|Aw Y (fun d9=>?_) (fun d9=>?_);·
     refine A1<|A5 Y<|AJ<|Ab<|Zt<|Zt<|Ab<|Zt<|AP rfl eR Y (by exact ⟨by rw [Cl (fun h9:EK p cs=>by have J:=h9.ord (i -1) y x Z (by rw [show i -1+1=i by omega];exact K);unfold Chg.lt at J;omega)],rfl⟩)
    refine AC<|A8<|Zx<|Zg<|Zm Y<|Ya (n:=1) Y Y<|AW Y<|Zn [3,1] ?_;refine Aa (e':=[(3,_)]) (by exact ⟨i+1,V,⟨by omega,MX G K (I0.1 B),M3 I K (by(right;refine ⟨y,Z,?_⟩;unfold Chg.lt;omega))⟩,V,V⟩)
   refine A7 Y V<|A7 Y V<|A7 Y V<|A7 Y V<|A7 Y V<|Yg (AL Y Y)<|Zv (AL Y Y)<|Z0<|Zn [1,3,58] ?_;refine Zx<|D9 Y<|AC<|A8<|Zx<|Zg<|Zm Y<|Ya (n:=1) Y Y<|AW Y<|Zn [3,1] ?_;refine Aa (e':=[(3,_)]) (by exact ⟨i+1,V,⟨by omega,MX G K (I0.1 B),M3 I K (by(right;refine ⟨y,Z,?_⟩;unfold Chg.lt;omega))⟩,V,V⟩)
  refine AC<|A8<|Zx<|Zg<|Zm Y<|Ya (n:=1) Y Y<|AW Y<|Zn [3,1] ?_;refine Aa (e':=[(3,_)]) (by exact ⟨i+1,V,⟨by omega,MX G K (I0.1 B),M3 I K (by(left;omega))⟩,V,V⟩)
 refine BD<|Zt<|Zt<|AV<|Zx<|A1<|A5 Y<|AJ<|AP rfl eR Y (by exact ⟨by rw [DG (⟨by omega,by omega,fun j c hc=>G j c (by have:=(C4.1 hc).1;omega) hc,fun j b c hb hc=>I j b c (by have:=(C4.1 hc).1;omega) hb hc⟩:EK p cs)],rfl⟩)
def iP(M:List A9)(v:A4)(rs:List AR):Prop:=∃p cap,v= .slice p rs.length cap/\rs.length<=maxLen/\∀(i:Nat) (r:AR),rs[i]?=some r->∃g off cur T zz,p=some ⟨g,off,none⟩/\(g,Obj.cells cur T zz)∈M/\off+i*5+5<=cur.size/\cur.extract (off+i*5) (off+i*5+5)=r.A71
variable{cur:AK}
theorem Tx{cs:AK}{a n j:Nat}{v:A4}(h:cur.extract a (a+n)=cs)(hv:cs[j]?=some v):cur[a+j]?=some v:=by
 rw [<-h,cL]at hv;split at hv;· exact hv
 · cases hv
def AR.lt2(r:AR)(t k:Int):Prop:=r.t<t\/r.t=t/\r.k<k
instance(r:AR)(t k:Int):Decidable (r.lt2 t k):=inferInstanceAs(Decidable (_\/_))
def AR.is(r:AR)(t k:Int):Prop:=r.t=t/\r.k=k
instance(r:AR)(t k:Int):Decidable (r.is t k):=inferInstanceAs(Decidable (_/\_))
def BP(rs:List AR):Prop:=rs.Pairwise (fun a b=>a.lt2 b.t b.k)
def E8(rs:List AR)(t k:Int):Nat:=(rs.takeWhile (fun r=>decide (r.lt2 t k))).length
theorem VR:∀{rs:List AR} {t k:Int} {m:Nat},m<=rs.length->(∀(i:Nat) (r:AR),i<m->rs[i]?=some r->r.lt2 t k)->(∀(i:Nat) (r:AR),m<=i->rs[i]?=some r->¬r.lt2 t k)->E8 rs t k=m
 |[],t,k,m,hm,_,_=>by simp only [KK]at hm;simp [E8];omega
 |r::rs,t,k,0,_,_,h2=>by unfold E8;rw [PA,As (by simpa using h2 0 r A0 rfl)];rfl
 |r::rs,t,k,m+1,hm,h1,h2=>by
  unfold E8;rw [PA,Ax (by simpa using h1 0 r A0 rfl),E3];exact congrArg (·+1) (VR (by simpa using hm) (fun i x hi g=>h1 (i+1) x A0 g) (fun i x hi g=>h2 (i+1) x A0 g))
variable{k t:Int}
theorem QE{a b:AR}(h:a.lt2 b.t b.k)(g:b.lt2 t k):a.lt2 t k:=by unfold AR.lt2 at*;omega
variable{rs:List AR}
theorem VA(h:BP rs){j:Nat}{a b:AR}(g:i<j)(m:rs[i]?=some a)(B:rs[j]?=some b):a.lt2 b.t b.k:=by
 obtain ⟨hi,rfl⟩:=C4.1 m;obtain ⟨G,rfl⟩:=C4.1 B;exact en.1 h i j hi G g
variable{x:AR}
theorem WH(h:BP rs){m:Nat}(G:rs[m]?=some x)(B:x.lt2 t k):∀(i:Nat) (r:AR),i<m+1->rs[i]?=some r->r.lt2 t k:=by
 intro i r hi g;rcases FF i m with h9|h9
 · exact QE (VA h h9 g G) B
 · rw [show i=m by omega,G]at g;injection g with g;rw [<-g];exact B
theorem WK(h:BP rs){m:Nat}(G:rs[m]?=some x)(B:¬x.lt2 t k):∀(i:Nat) (r:AR),m<=i->rs[i]?=some r->¬r.lt2 t k:=by
 intro i r hi g hc;rcases FF m i with h9|h9
 · exact B (QE (VA h h9 G g) hc)
 · rw [show i=m by omega,G]at g;injection g with g;rw [<-g]at hc;exact B hc
theorem YW(Z:Nat)(q:B8)(cap:Nat)(p t k:Int)(rs:List AR)(M:List A9)(hO:iP M (.slice q rs.length cap) rs)(hn:rs.length<=1000000)(K:BP rs):BJ prog 63 #[I5 Z,I4 t,I4 k] [[(Z,.cells #[.slice q rs.length cap,I4 p] 84 (0,0))],M] (I4 (E8 rs t k:Int)):=by
 have bn:=mL;obtain ⟨p9,X,e9,cu,hg⟩:=hO;injection e9 with e91 e92 e93
 subst e91 e93;refine Se func63 ntmps63 [0,1,2] ?_;intro u R;refine A1<|A5 Y<|A1<|A5 Y<|A1<|Zm Y<|Zp Y V<|Zh 0 IH V rfl DA Y<|Zl GP Y ?_;refine Zv (Ac C1 Y)<|A5 Y<|Zq<|AQ<|Zb [7,8,0,1,2] ?_;refine BI (e0:=[(7,_),(8,_)]) (fun m e H=>∃(lo hi:Nat),m=hi -lo/\(lo<=hi/\hi<=rs.length/\(∀(i:Nat) (r:AR),i<lo->rs[i]?=some r->r.lt2 t k)/\(∀(i:Nat) (r:AR),hi<=i->rs[i]?=some r->¬r.lt2 t k))/\e=[(7,I4 (lo:Int)),(8,I4 (hi:Int))]/\H=[]) (by exact ⟨0,rs.length,V,⟨by omega,by omega,by intro i r hi;omega,by intro i r hi W;have:=(C4.1 W).1;omega⟩,V,V⟩) Wp ?_;rintro _ _ _ ⟨lo,hi,rfl,⟨ax,af,G,B⟩,rfl,rfl⟩;refine Zq<|A1<|Zm Y<|Zm Y<|Zv (Ay Y Y)<|A6<|Aw Y (fun O=>?_) (fun O=>?_);·
  refine AC<|Zx<|AQ<|A1<|Zm Y<|Zm Y<|Ya Y Y ?_
  (refine BU (KM (n:=2) Y Y ?_ ?_) ?_;(focus (omega));(focus (omega)))
  refine A5 Y<|Zq ?_;obtain ⟨x,J⟩:∃x,rs[(lo+hi)/2]?=some x:=⟨_,BT A0⟩;obtain ⟨g,off,cur,T,zz,rfl,U,cO,I⟩:=hg _ x J;refine Zg<|Zm Y<|Zp Y V<|Zh 0 IH V rfl DA Y<|Zl GP Y ?_;refine Zm Y<|BU (Ae C1 B3 Y Y A0)<|Zv (Ap (off:=0) G1 V rfl AE Y)<|CS (cs:=[(g,.cells cur T zz)]) (by simp [U]) (BF AH Y (Tx (j:=0) I V)) V rfl ?_;refine Zm Y<|Zv (EH Y Y)<|Zm Y<|Ao (t:=32) Y V (fun h1=>?_) (fun h1=>?_);·
   refine A7 Y V<|A7 Y V<|A7 Y V<|A7 Y V<|A7 Y V<|A7 Y V<|A7 Y V<|A7 Y V<|A7 Y V<|A7 Y V<|A7 Y V<|A7 Y V<|A7 Y V<|A7 Y V<|A7 Y V<|A7 Y V<|A7 Y V<|A7 Y V<|A7 Y V<|A7 Y V<|A7 Y V<|A7 Y V<|Zv (AX Y Y)<|Z0<|Zn [0,1,2,7,8,9,55] ?_;refine Zx<|DT Y<|Zg<|Zm Y<|Ya (n:=1) Y Y<|AW Y<|A8<|Zn [7,8,0,1,2] ?_;refine Aa (e':=[(7,_),(8,_)]) (by exact ⟨(lo+hi)/2+1,hi,V,⟨by omega,by omega,WH K J (by unfold AR.lt2;omega),B⟩,V,V⟩)
  refine Zf Y Y<|Yg (Ak Y V)<|Yf 0 IH V rfl DA Y<|Yl GP Y ?_;refine Zf Y Y ?_
  (refine GU Y (Ae C1 B3 Y Y ?_) rfl rfl ?_;(focus (omega)))
  refine Yg (Ap (off:=0) G1 V rfl AE Y)<|Ng Y (cs:=[(g,.cells cur T zz)]) (by simp [U]) (BF AH Y (Tx (j:=0) I V)) V rfl ?_;refine Zf Y Y<|Yg (CP Y Y)<|Zf Y Y ?_;refine Ao (t:=43) Y V (fun h2=>?_) (fun h2=>?_);·
   refine Zf Y Y<|Yg (Ak Y V)<|Yf 0 IH V rfl DA Y<|Yl GP Y ?_;refine Zf Y Y ?_
   (refine GU Y (Ae C1 B3 Y Y ?_) rfl rfl ?_;(focus (omega)))
   refine Yg (Ap (off:=1) G1 V rfl AE Y)<|Ng Y (cs:=[(g,.cells cur T zz)]) (by simp [U]) (BF AH Y (Tx (j:=1) I V)) V rfl ?_;refine Zf Y Y<|Yg (EH Y Y)<|Yg (AX Y Y)<|Zv (AL Y Y)<|Z0<|Zn [0,1,2,7,8,9,55] ?_;refine Zx<|Aw Y (fun h3=>?_) (fun h3=>?_);·
    refine Zg<|Zm Y<|Ya (n:=1) Y Y<|AW Y<|A8<|Zn [7,8,0,1,2] ?_;refine Aa (e':=[(7,_),(8,_)]) (by exact ⟨(lo+hi)/2+1,hi,V,⟨by omega,by omega,WH K J (by unfold AR.lt2;omega),B⟩,V,V⟩)
   refine Zg<|Zm Y<|AW Y<|A8<|Zn [7,8,0,1,2] ?_;refine Aa (e':=[(7,_),(8,_)]) (by exact ⟨lo,(lo+hi)/2,V,⟨by omega,by omega,G,WK K J (by unfold AR.lt2;omega)⟩,V,V⟩)
  refine A7 Y V<|A7 Y V<|A7 Y V<|A7 Y V<|A7 Y V<|A7 Y V<|A7 Y V<|A7 Y V<|A7 Y V<|A7 Y V<|Yg (AL Y Y)<|Zv (AL Y Y)<|Z0<|Zn [0,1,2,7,8,9,55] ?_;refine Zx<|D9 Y<|Zg<|Zm Y<|AW Y<|A8<|Zn [7,8,0,1,2] ?_;refine Aa (e':=[(7,_),(8,_)]) (by exact ⟨lo,(lo+hi)/2,V,⟨by omega,by omega,G,WK K J (by unfold AR.lt2;omega)⟩,V,V⟩)
 refine BD<|Zt<|Zt<|AV<|Zx<|A1<|Zm Y<|A5 Y<|AJ<|AP rfl results63 Y (by exact ⟨by rw [VR A0 G (fun i r hi W=>B i r A0 W)],rfl⟩)
def Fy(rs:List AR)(t k:Int):AR×Bool:=match rs[E8 rs t k]?with
 |some r=>if r.is t k then(r,true)else(AR.zero,false)
 |none=>(AR.zero,false)
theorem VS(rs:List AR)(t k:Int):E8 rs t k<=rs.length:=by unfold E8;exact List.IsPrefix.length_le (List.takeWhile_prefix _)
theorem nU(m:rs[E8 rs t k]?=some x)(g:x.t=t)(h2:x.k=k):Fy rs t k=(x,true):=by unfold Fy;rw [m];exact Ax ⟨g,h2⟩
theorem ja(g:rs[E8 rs t k]?=some x)(h:¬(x.t=t/\x.k=k)):Fy rs t k=(AR.zero,false):=by unfold Fy;rw [g];exact As h
theorem uV(h:¬E8 rs t k<rs.length):Fy rs t k=(AR.zero,false):=by unfold Fy;rw [MT A0]
theorem rC(K:Nat)(q:B8)(cap:Nat)(p t k:Int)(rs:List AR)(M:List A9)(U:iP M (.slice q rs.length cap) rs)(hn:rs.length<=1000000)(hs:BP rs):BJ prog 24 #[I5 K,I4 t,I4 k] [[(K,.cells #[.slice q rs.length cap,I4 p] 84 (0,0))],M] (.tuple #[.agg #[I4 (Fy rs t k).1.t,I4 (Fy rs t k).1.k,I4 (Fy rs t k).1.v.a,I4 (Fy rs t k).1.v.b,I4 (Fy rs t k).1.v.c],.bool (Fy rs t k).2]):=by
 have I:=id U;have af:=mL
 obtain ⟨p9,O,Z,ax,hg⟩:=U;injection Z with e91 e92 e93
 subst e91 e93;have bn:=VS rs t k
 refine Se func24 ntmps24 [0,1,2] ?_;intro u R;refine A1<|Ze (Al F0 #[_,_,_,_,_])<|AG fun b1=>A5 Y<|A1<|Zm Y<|Zm Y<|Zm Y<|Xr [_,_,_] Y call63 Y V (YW K _ _ p t k rs M I hn hs)<|A5 Y<|Zq<|A1<|Zm Y<|Zm Y<|Zp Y V<|Zh 0 IH V rfl DA Y<|Zl GP Y<|Zv (Ac C1 Y)<|Zv (Ay Y Y)<|Zm Y<|Ao (t:=20) Y V (fun B=>?_) (fun B=>?_);·
  obtain ⟨x,G⟩:∃x,rs[E8 rs t k]?=some x:=⟨_,BT B⟩;obtain ⟨g,off,cur,T,zz,rfl,J,cu,m⟩:=hg _ x G;refine Zf Y Y<|Yg (Ak Y V)<|Yf 0 IH V rfl DA Y<|Yl GP Y<|Zf Y Y<|GU Y (Ae C1 B3 Y Y A0) V rfl ?_;refine Yg (Ap (off:=0) G1 V rfl AE Y)<|Ng Y (cs:=[(g,.cells cur T zz)]) (by simp [J]) (BF AH Y (Tx (j:=0) m V)) V rfl ?_;refine Zf Y Y<|Yg (CP Y Y)<|Zv (AX Y Y)<|Zm Y<|Ao (t:=32) Y V (fun X=>?_) (fun X=>?_);·
   refine Zf Y Y<|Yg (Ak Y V)<|Yf 0 IH V rfl DA Y<|Yl GP Y<|Zf Y Y<|GU Y (Ae C1 B3 Y Y A0) V rfl ?_;refine Yg (Ap (off:=1) G1 V rfl AE Y)<|Ng Y (cs:=[(g,.cells cur T zz)]) (by simp [J]) (BF AH Y (Tx (j:=1) m V)) V rfl ?_;refine Zf Y Y<|Yg (CP Y Y)<|Zv (AX Y Y)<|Z0<|Zn [0,6,8,43] ?_;refine Zx<|Aw Y (fun W=>?_) (fun W=>?_);·
    refine A1<|Zm Y<|Zp Y rfl<|Zh 0 IH rfl rfl DA Y<|Zl GP Y<|Zm Y<|BU (Ae C1 B3 Y Y A0)<|CS (cs:=[(g,.cells cur T zz)]) (by simp [J]) (AB (cs:=x.A71) D0 B3 Y A0 m) rfl rfl<|Xe (Xw B3 _)<|A5 Y<|AJ<|Zt<|CL rfl results24 Y Wh (Au D0 B3 Wn (rfl)) Y (by exact ⟨by rw [nU G X W];rfl,rfl⟩)
   refine AC<|Zx<|A1<|Zv (BM (vs:=[]) (cs:=#[_,_,_,_,_]) Y (AY (pl:=#[(0,1),(1,1),(2,3)]) F0 G1 (fun _=>by kernel_rfl) V))<|Xe (Xw B3 _)<|A5 Y<|AJ<|CL V results24 Y Wh (Au D0 B3 Wn (V)) Y (by exact ⟨by(rw [ja G A0];rfl),V⟩)
  refine A7 Y V<|A7 Y V<|A7 Y V<|A7 Y V<|A7 Y V<|A7 Y V<|A7 Y V<|A7 Y V<|A7 Y V<|A7 Y V<|Zv (AL Y Y)<|Z0<|Zn [0,6,8,43] ?_;refine Zx<|D9 Y<|AC<|Zx<|A1<|Zv (BM (vs:=[]) (cs:=#[_,_,_,_,_]) Y (AY (pl:=#[(0,1),(1,1),(2,3)]) F0 G1 (fun _=>by kernel_rfl) V))<|Xe (Xw B3 _)<|A5 Y<|AJ<|CL V results24 Y Wh (Au D0 B3 Wn (V)) Y (by exact ⟨by(rw [ja G A0];rfl),V⟩)
 refine A7 Y V<|A7 Y V<|A7 Y V<|A7 Y V<|A7 Y V<|A7 Y V<|A7 Y V<|A7 Y V<|A7 Y V<|A7 Y V<|Zv (AL Y Y)<|Zm Y<|A7 Y V<|A7 Y V<|A7 Y V<|A7 Y V<|A7 Y V<|A7 Y V<|A7 Y V<|A7 Y V<|A7 Y V<|A7 Y V<|Zv (AL Y Y)<|Z0<|Zn [0,6,8,43] ?_;refine Zx<|D9 Y<|AC<|Zx<|A1<|Zv (BM (vs:=[]) (cs:=#[_,_,_,_,_]) Y (AY (pl:=#[(0,1),(1,1),(2,3)]) F0 G1 (fun _=>by kernel_rfl) V))<|Xe (Xw B3 _)<|A5 Y<|AJ<|CL V results24 Y Wh (Au D0 B3 Wn (V)) Y (by exact ⟨by(rw [uV B];rfl),V⟩)
def out(lo hi n:Int):Bool:=decide (n<lo)||decide (hi<n)
def LW(cur:AK)(o:Nat)(ns:List Int):Prop:=∀(i:Nat) (n:Int),ns[i]?=some n->cur[o+i]?=some (I4 n)
theorem oz(p:Int->Bool)(ls:List Int)(i:Nat)(x:Int)(h:ls[i]?=some x):(ls.take (i+1)).any p=((ls.take i).any p||p x):=by
 rw [PF,h];simp
theorem yh(p:Int->Bool)(ls:List Int)(i:Nat)(x:Int)(h:ls[i]?=some x)(g:p x=true):ls.any p=true:=by
 rw [mc];exact ⟨x,DQ h,g⟩
theorem zx(lp m:Nat)(n lo hi:Int):BJ prog 149 #[I4 n,I5 lp,I5 m] [[(lp,.cells #[I4 lo] 3 (0,0))],[(m,.cells #[I4 hi] 3 (0,0))]] (.bool (out lo hi n)):=by
 refine Se func149 ntmps149 [0,1,2] ?_;intro u R;refine A1<|A5 Y<|A1<|Zm Y<|Zl AH Y ?_;refine Zv (EH Y Y)<|Zm Y<|Ao (t:=8) Y V (fun g=>?_) (fun g=>?_);·
  refine A7 Y V<|A7 Y V<|A7 Y V<|Zv (AX Y Y)<|A5 Y<|AJ<|AP V results149 Y (by exact ⟨by simp [out,g],V⟩)
 refine Zf Y Y<|Yl AH Y ?_;refine Yg (Ed Y Y)<|Zv (AL Y Y)<|A5 Y<|AJ<|AP V results149 Y (by exact ⟨by simp [out,g],V⟩)
theorem fw(lp J g off cap:Nat)(lo hi:Int)(cur:AK)(T:AM)(z:Nat×Nat)(ls:List Int)(K:LW cur off ls)(X:ls.length<=1073741824):
 BR prog 194 #[.slice (some ⟨g,off,none⟩) ls.length cap,.func (.func 149) #[] #[I5 lp,I5 J]] [[(lp,.cells #[I4 lo] 3 (0,0))],[(J,.cells #[I4 hi] 3 (0,0))],[(g,.cells cur T z)]] (fun r H'=>∃k:Int,r=I4 k/\decide (0<=k)=ls.any (out lo hi)/\H'=[[(lp,.cells #[I4 lo] 3 (0,0))],[(J,.cells #[I4 hi] 3 (0,0))],[(g,.cells cur T z)]]):=by
 refine Se func194 ntmps194 [0,1] ?_;intro u R;refine A1<|A5 Y<|Zq<|A1<|Zm Y<|Zv (Ac DE Y)<|Zm Y<|A6<|AQ<|Zb [8,0,1,7] ?_;refine BI (e0:=[(8,_)]) (fun m e H=>∃(i:Nat),m=ls.length -i/\(i<=ls.length/\(ls.take i).any (out lo hi)=false)/\e=[(8,I4 (i:Int))]/\H=[]) (by exact ⟨0,V,⟨C7 _,V⟩,V,V⟩) Wp ?_;rintro _ _ _ ⟨i,rfl,⟨W,B⟩,rfl,rfl⟩;refine A1<|Zv (Ay Y Y)<|A6<|Zq<|Aw Y (fun I=>?_) (fun I=>?_);·
  refine AC<|Zx<|Zq<|AQ<|A1<|Zm Y<|A5 Y<|Zq ?_;obtain ⟨x,O⟩:∃x,ls[i]?=some x:=⟨_,BT I⟩;refine Zg<|Zm Y<|Zm Y<|Zm Y<|BU (CG DE AE Y Y A0)<|Zl AH Y (hv:=by exact K i x O)<|Xr [_] Y call149 Y V (zx lp J x lo hi)<|A6<|AU Y (fun G=>?_) (fun G=>?_);·
   refine A1<|Zm Y<|A5 Y<|AJ<|Ab<|Zt<|Zt<|Ab<|Zt<|AP rfl results194 Y (by exact ⟨(i:Int),rfl,by rw [yh _ ls i x O G];exact DG A0,rfl⟩)
  refine AC<|A8<|Zx<|Zg<|Ya (n:=1) Y Y<|Zm Y<|Z0<|Zn [8,0,1,7] ?_;refine Aa (e':=[(8,_)]) (by exact ⟨i+1,rfl,⟨by omega,by rw [oz _ ls i x O,B];exact G⟩,rfl,rfl⟩)
 have U:i=ls.length:=by omega
 subst U;rw [G3]at B;refine BD<|Zt<|Zt<|AV<|Zx<|A1<|A5 Y<|AJ<|AP rfl results194 Y (by exact ⟨-1,rfl,by rw [B];rfl,rfl⟩)
theorem Uf(lp B g off cap:Nat)(lo hi:Int)(cur:AK)(T:AM)(z:Nat×Nat)(ls:List Int)(m:LW cur off ls)(I:ls.length<=1073741824):
 BJ prog 148 #[.slice (some ⟨g,off,none⟩) ls.length cap,.func (.func 149) #[] #[I5 lp,I5 B]] [[(lp,.cells #[I4 lo] 3 (0,0))],[(B,.cells #[I4 hi] 3 (0,0))],[(g,.cells cur T z)]] (.bool (ls.any (out lo hi))):=by
 refine Se func148 ntmps148 [0,1] ?_;intro u R;refine A1<|A5 Y<|A1<|Zm Y<|Zm Y<|Zc [_,_] Y call194 Y V (fw lp B g off cap lo hi cur T z ls m I) ?_;rintro _ _ ⟨_,⟨k,rfl,G,rfl⟩,rfl⟩;refine Zv (Gj Y Y)<|A5 Y<|AJ<|AP rfl results148 Y (by exact ⟨by rw [<-G],rfl⟩)
theorem VB(g off cap:Nat)(lo hi:Int)(cur:AK)(T:AM)(z:Nat×Nat)(ls:List Int)(m:LW cur off ls)(B:ls.length<=1073741824):
 BJ prog 93 #[I4 lo,I4 hi,.slice (some ⟨g,off,none⟩) ls.length cap] [[(g,.cells cur T z)]] (.bool (!(ls.any (out lo hi)))):=by
 refine Se func93 ntmps93 [0,1,2] ?_;intro u R;refine A1<|Ze (Bx #[_])<|AG fun G=>Ze (Bx #[_])<|AG fun I=>A5 Y<|A1<|Zm Y<|Zv (Bg (vs:=[]) (us:=[_,_]) Y Y)<|Xr [_,_] Y call148 Y V (Uf _ _ g off cap lo hi cur T z ls m B)<|Zv (Bt Y)<|A5 Y<|AJ<|AP V results93 Y (by exact ⟨V,V⟩)
def EN(c:Chg)(th:Bool)(v:V3):AR:=if th then⟨c.t,c.k,v⟩else AR.zero
variable{v:V3}
theorem uS{g:Bool}(h:g=true):EN c g v=⟨c.t,c.k,v⟩:=Ax h
theorem sn{g:Bool}(h:g=false):EN c g v=AR.zero:=As (by rw [h];decide)
theorem jI(lo hi n:Int):(!(([n]:List Int).any (out lo hi)))=decide (lo<=n/\n<=hi):=by
 simp only [mw,n9,fc,out];by_cases g:n<lo<;>by_cases h2:hi<n<;>simp [g,h2]<;>omega
theorem rm(v:V3):(!(([v.a,v.b,v.c]:List Int).any (out (-1000000000) 1000000000)))=decide v.ok:=by
 have h:∀n,out (-1000000000) 1000000000 n=!decide (inV n):=by
  intro n;have:=jI (-1000000000) 1000000000 n
  simp only [mw,n9,fc]at this;rw [<-Bool.not_not (out _ _ n),this];rfl
 simp only [mw,n9,fc,h,V3.ok];by_cases g:inV v.a<;>by_cases h2:inV v.b<;>by_cases m:inV v.c<;>simp [g,h2,m]
theorem vA{n:Int}(h:cur[o]?=some (I4 n)):LW cur o [n]:=by
 intro i x g;rcases i with _|i
 · injection g with g;rw [<-g];exact h
 · cases g
theorem v8(h0:cur[o]?=some (I4 v.a))(m:cur[o+1]?=some (I4 v.b))(h2:cur[o+2]?=some (I4 v.c)):LW cur o [v.a,v.b,v.c]:=by
 intro i x g;rcases i with _|_|_|i
 · injection g with g;rw [<-g];exact h0
 · injection g with g;rw [<-g];exact m
 · injection g with g;rw [<-g];exact h2
 · cases g
theorem Km(g off cap:Nat)(lo hi:Int)(cur:AK)(T:AM)(z:Nat×Nat)(n:Int)(h:cur[off]?=some (I4 n)):
 BJ prog 93 #[I4 lo,I4 hi,.slice (some ⟨g,off,none⟩) 1 cap] [[(g,.cells cur T z)]] (.bool (decide (lo<=n/\n<=hi))):=by
 rw [<-jI];exact VB g off cap lo hi cur T z [n] (vA h) B4
theorem dM(g off cap:Nat)(cur:AK)(T:AM)(z:Nat×Nat)(v:V3)(h:LW cur off [v.a,v.b,v.c]):
 BJ prog 93 #[I4 (-1000000000),I4 1000000000,.slice (some ⟨g,off,none⟩) 3 cap] [[(g,.cells cur T z)]] (.bool (decide v.ok)):=by
 rw [<-rm];exact VB g off cap _ _ cur T z [v.a,v.b,v.c] h B4
theorem Wv(c:Chg)(m:Bool)(v:V3):BJ prog 173 #[.agg c.A70,.bool m,.agg #[I4 v.a,I4 v.b,I4 v.c]] [] (.tuple #[.agg #[I4 (EN c m v).t,I4 (EN c m v).k,I4 (EN c m v).v.a,I4 (EN c m v).v.b,I4 (EN c m v).v.c],.bool m]):=by
 refine Se func173 ntmps173 [0,1,2] ?_;intro u R;refine A1<|Ze (Bx #[_,_,_,_,_,_,_,_,_,_])<|AG fun B=>Ze (Bx #[_,_,_])<|AG fun G=>Ze (Al F0 #[_,_,_,_,_])<|AG fun I=>A5 Y<|Zq<|A1<|Zm Y<|Zv (Bt Y)<|A6<|AU Y (fun g=>?_) (fun g=>?_);·
  refine A1<|Zv (BM (vs:=[]) (cs:=#[_,_,_,_,_]) Y (AY (pl:=#[(0,1),(1,1),(2,3)]) F0 G1 (fun _=>by kernel_rfl) V))<|Xe (Xw B3 _) ?_;refine A5 Y<|AJ<|Zt<|CL V results173 Y Wh (Au D0 B3 Wn (V)) Y (by simp only [ep,S4,dr]at g;exact ⟨by(rw [sn g,g];rfl),V⟩)
 refine AC<|Zx<|A1<|Zh 0 C3 V rfl AE Y<|Zl AH Y ?_;refine Zh 1 C3 V rfl AE Y<|Zl AH Y ?_;refine Zo Wh (Pa #[_,_,_] HN Dg Y) ?_;refine Zv (BM (vs:=[(0,_),(1,_),(2,_)]) (cs:=#[_,_,_,_,_]) Y (AY (pl:=#[(0,1),(1,1),(2,3)]) F0 G1 (fun _=>by kernel_rfl) rfl))<|Xe (BL B3 Y Y (by(simp [Value.oneCell',Value.cells];done)) Wu B0 FA Wn (by exact BC _)) ?_;refine AW Y<|Zn [6,7] ?_;refine Zx<|AJ<|CL V results173 Y Wh (Au D0 B3 Wn (V)) Y (by simp only [ep,S4,dr]at g;exact ⟨by(rw [uS g,g];rfl),V⟩)
theorem Rz(r:AR):BJ prog 195 #[.agg r.A71] [] (.bool (decide r.ok)):=by
 refine Se func195 ntmps195 [0] ?_;intro u R;refine A1<|Ze (Bx #[_,_,_,_,_])<|AG fun I=>A5 Y<|A1<|Zh 0 G1 V rfl AE Y<|Zl AH Y<|Ze (Ai (vs:=[_]) (cs:=[_]) DE AE HJ Y V rfl V rfl V)<|AG fun J=>Xr [_,_,_] Y call93 Y V (Km _ 0 1 _ _ _ _ _ r.t V)<|Zm Y<|Ao (t:=7) Y V (fun g=>?_) (fun g=>?_);·
  refine Yf 1 G1 V rfl AE Y<|Yl AH Y<|Ze (Ai (vs:=[_]) (cs:=[_]) DE AE HJ Y V rfl V rfl V)<|AG fun K=>Xr [_,_,_] Y call93 Y V (Km _ 0 1 _ _ _ _ _ r.k V)<|Zv (AX Y Y)<|Zm Y<|Ao (t:=13) Y V (fun m=>?_) (fun m=>?_);·
   refine Yf 2 G1 V rfl Dg Y<|Yg (Ii HM AE Y)<|Xr [_,_,_] Y call93 Y V (dM _ 2 3 _ _ _ r.v (v8 V rfl V))<|Zv (AX Y Y)<|AW Y<|Zn [2] ?_;refine Zx<|AJ<|AP V results195 Y (by exact ⟨by(simp_all [AR.ok];done),V⟩)
  refine A7 Y V<|A7 Y V<|A7 Y V<|Zv (AL Y Y)<|AW Y<|Zn [2] ?_;refine Zx<|AJ<|AP V results195 Y (by exact ⟨by(simp_all [AR.ok];done),V⟩)
 refine A7 Y V<|A7 Y V<|A7 Y V<|A7 Y V<|Zv (AL Y Y)<|Zm Y<|A7 Y V<|A7 Y V<|A7 Y V<|Zv (AL Y Y)<|AW Y<|Zn [2] ?_;refine Zx<|AJ<|AP rfl results195 Y (by exact ⟨by rw [Cl (fun h9:r.ok=>by have B:=h9.2.1;have G:=h9.2.2;omega)],rfl⟩)
theorem YL(c:Chg)(g:Bool)(v:V3):BJ prog 150 #[.agg c.A70,.bool g,.agg #[I4 v.a,I4 v.b,I4 v.c]] [] (.bool (if g then decide (EN c g v).ok else decide (v=V3.zero))):=by
 refine Se func150 ntmps150 [0,1,2] ?_;intro u R;refine A1<|Ze (Bx #[_,_,_,_,_,_,_,_,_,_])<|AG fun J=>Ze (Bx #[_,_,_])<|AG fun K=>A5 Y<|A1<|Zo Wh (Pa #[_,_,_,_,_,_,_,_,_,_] GF CC Y)<|Zm Y<|Zo Wh (Pa #[_,_,_] HN Dg Y)<|Xr [_,_,_] Y call173 Y V (Wv c g v)<|Zm Y<|Zd Y V<|Zd Y V<|Ze (Al F0 #[_,_,_,_,_])<|AG fun O=>Xe (Xw B3 _)<|AW Y<|Zn [1,5,7] ?_;refine Zx<|A1<|Zm Y<|Zm Y<|Ah (t:=17) Y V (fun m=>?_) (fun m=>?_);·
  refine Dw Y Wh (Pa #[_,_,_,_,_] D0 B3 Y) V rfl<|Xr [_] Y call195 Y V (Rz _)<|Zv (AX Y Y)<|Zm Y<|Ao (t:=21) Y V (fun B=>?_) (fun B=>?_);·
   refine A7 Y V<|A7 Y V<|A7 Y V<|A7 Y V<|A7 Y V<|A7 Y V<|A7 Y V<|Zv (AX Y Y)<|AW Y<|Zn [6] ?_;refine Zx<|AJ<|AP V gi Y (by exact ⟨by simp_all,V⟩)
  refine Zf Y Y<|Yg (Bt Y)<|Zf Y Y<|Ah (t:=24) Y V (fun G=>?_) (fun G=>?_);·
   refine Dw Y Wh (Pa #[_,_,_] HN Dg Y) V rfl<|Yg (BM (vs:=[]) (cs:=#[_,_,_]) Y (DL ZS HM AE V)) ?_;refine Yg (IV AF HM D4 AH AE Y Y) ?_;refine Yg (AX Y Y)<|Zv (AL Y Y)<|AW Y<|Zn [6] ?_;refine Zx<|AJ<|AP V gi Y (by exact ⟨by simp_all,V⟩)
  refine A7 Y V<|A7 Y V<|A7 Y V<|Yg (AL Y Y)<|Zv (AL Y Y)<|AW Y<|Zn [6] ?_;refine Zx<|AJ<|AP V gi Y (by exact ⟨by simp_all,V⟩)
 refine A7 Y V<|A7 Y V<|Zv (AL Y Y)<|Zm Y<|Zf Y Y<|Yg (Bt Y)<|Zf Y Y<|Ah (t:=24) Y V (fun I=>?_) (fun I=>?_);·
  refine Dw Y Wh (Pa #[_,_,_] HN Dg Y) V rfl<|Yg (BM (vs:=[]) (cs:=#[_,_,_]) Y (DL ZS HM AE V)) ?_;refine Yg (IV AF HM D4 AH AE Y Y) ?_;refine Yg (AX Y Y)<|Zv (AL Y Y)<|AW Y<|Zn [6] ?_;refine Zx<|AJ<|AP V gi Y (by exact ⟨by simp_all,V⟩)
 refine A7 Y V<|A7 Y V<|A7 Y V<|Yg (AL Y Y)<|Zv (AL Y Y)<|AW Y<|Zn [6] ?_;refine Zx<|AJ<|AP V gi Y (by exact ⟨by simp_all,V⟩)
end Go.Proofs.YthhakdmlpngcmaaGreatDoor
