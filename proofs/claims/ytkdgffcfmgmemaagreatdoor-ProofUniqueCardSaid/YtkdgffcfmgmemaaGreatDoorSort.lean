/-
  The sort with a function lies in the program: laid at rows (printed by the kit, in plain words).
-/
import Derived.Test.YtkdgffcfmgmemaaGreatDoorEz
import Derived.Shelf.SlSortCmp.WholeK
import Derived.Test.YtkdgffcfmgmemaaGreatDoorProg
set_option linter.unusedVariables false
set_option linter.unusedSimpArgs false
namespace Go.Proofs
open Go.Shelf
def Tryz.sortRow_ren:Go.Shelf.Ren:=⟨fun|6=>209|15=>253|14=>256|28=>284|29=>285|20=>286|21=>287|22=>288|23=>289|24=>290|25=>291|26=>292|27=>293|46=>303|47=>304|48=>305|49=>306|50=>307|57=>311|n=>n,fun|22=>45|24=>113|25=>269|3=>3|39=>231|0=>0|53=>227|55=>254|4=>4|46=>348|45=>347|50=>352|5=>5|9=>9|66=>359|70=>363|76=>367|77=>368|n=>n,fun|n=>n⟩
theorem Tryz.sortRow:Go.Proofs.SlLaysF0.n6 Tryz.prog Tryz.sortRow_ren:={
 mixed:=by kernel_rfl
 f6:=⟨Tryz.f209.name,by decide,func209.trans (congrArg some (by kernel_rfl))⟩
 f14:=⟨Tryz.f256.name,by decide,func256.trans (congrArg some (by kernel_rfl))⟩
 f15:=func253.trans (congrArg some (by kernel_rfl))
 f20:=⟨Tryz.f286.name,by decide,func286.trans (congrArg some (by kernel_rfl))⟩
 f21:=⟨Tryz.f287.name,by decide,func287.trans (congrArg some (by kernel_rfl))⟩
 f22:=⟨Tryz.f288.name,by decide,func288.trans (congrArg some (by kernel_rfl))⟩
 f23:=⟨Tryz.f289.name,by decide,func289.trans (congrArg some (by kernel_rfl))⟩
 f24:=⟨Tryz.f290.name,by decide,func290.trans (congrArg some (by kernel_rfl))⟩
 f25:=⟨Tryz.f291.name,by decide,func291.trans (congrArg some (by kernel_rfl))⟩
 f26:=⟨Tryz.f292.name,by decide,func292.trans (congrArg some (by kernel_rfl))⟩
 f27:=⟨Tryz.f293.name,by decide,func293.trans (congrArg some (by kernel_rfl))⟩
 f28:=func284.trans (congrArg some (by kernel_rfl))
 f29:=func285.trans (congrArg some (by kernel_rfl))
 f46:=⟨Tryz.f303.name,by decide,func303.trans (congrArg some (by kernel_rfl))⟩
 f47:=func304.trans (congrArg some (by kernel_rfl))
 f48:=func305.trans (congrArg some (by kernel_rfl))
 f49:=⟨Tryz.f306.name,by decide,func306.trans (congrArg some (by kernel_rfl))⟩
 f50:=⟨Tryz.f307.name,by decide,func307.trans (congrArg some (by kernel_rfl))⟩
 f57:=⟨Tryz.f311.name,by decide,func311.trans (congrArg some (by kernel_rfl))⟩
 t0:=underlying0
 a0:=isAgg0
 z0:=sizeOf0
 v0:=zeroValue0
 t3:=underlying3
 a3:=isAgg3
 z3:=sizeOf3
 v3:=zeroValue3
 t4:=underlying4
 a4:=isAgg4
 z4:=sizeOf4
 v4:=zeroValue4
 t5:=underlying5
 a5:=isAgg5
 z5:=sizeOf5
 v5:=zeroValue5
 t9:=underlying9
 a9:=isAgg9
 z9:=sizeOf9
 v9:=zeroValue9
 t22:=underlying45
 a22:=isAgg45
 z22:=sizeOf45
 v22:=zeroValue45
 t25:=underlying269
 a25:=isAgg269
 z25:=sizeOf269
 v25:=zeroValue269
 t39:=underlying231
 a39:=isAgg231
 z39:=sizeOf231
 v39:=zeroValue231
 t45:=underlying347
 a45:=isAgg347
 z45:=sizeOf347
 v45:=zeroValue347
 t46:=underlying348
 a46:=isAgg348
 z46:=sizeOf348
 v46:=zeroValue348
 t50:=underlying352
 a50:=isAgg352
 z50:=sizeOf352
 v50:=zeroValue352
 t53:=underlying227
 a53:=isAgg227
 z53:=sizeOf227
 v53:=zeroValue227
 t55:=underlying254
 a55:=isAgg254
 z55:=sizeOf254
 v55:=zeroValue254
 t66:=underlying359
 a66:=isAgg359
 z66:=sizeOf359
 v66:=zeroValue359
 t70:=underlying363
 a70:=isAgg363
 z70:=sizeOf363
 v70:=zeroValue363
 t76:=underlying367
 a76:=isAgg367
 z76:=sizeOf367
 v76:=zeroValue367
 t77:=underlying368
 a77:=isAgg368
 z77:=sizeOf368
 v77:=zeroValue368}
end Go.Proofs
