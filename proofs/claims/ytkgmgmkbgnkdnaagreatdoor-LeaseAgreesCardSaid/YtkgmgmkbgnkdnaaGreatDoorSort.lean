/-
  The sort with a function lies in the program: laid at rows (printed by the kit, in plain words).
-/
import Derived.Test.YtkgmgmkbgnkdnaaGreatDoorEz
import Derived.Shelf.SlSortCmp.WholeK
import Derived.Test.YtkgmgmkbgnkdnaaGreatDoorProg

namespace Go.Proofs
open Go.Shelf
def Tryz.sortRow_ren : Go.Shelf.Ren := ⟨fun | 6 => 104 | 15 => 93 | 14 => 140 | 28 => 128 | 29 => 129 | 20 => 167 | 21 => 168 | 22 => 169 | 23 => 170 | 24 => 171 | 25 => 172 | 26 => 173 | 27 => 174 | 46 => 187 | 47 => 154 | 48 => 155 | 49 => 188 | 50 => 189 | 57 => 197 | n => n, fun | 22 => 38 | 24 => 67 | 25 => 174 | 3 => 3 | 39 => 162 | 0 => 0 | 53 => 198 | 55 => 200 | 4 => 4 | 46 => 191 | 45 => 190 | 50 => 47 | 5 => 5 | 9 => 9 | 66 => 230 | 70 => 234 | 76 => 258 | 77 => 259 | n => n, fun | n => n⟩
theorem Tryz.sortRow : Go.Proofs.SlLaysF0.n6 Tryz.prog Tryz.sortRow_ren := {
  mixed := by kernel_rfl
  f6 := ⟨Tryz.f104.name, by decide, func104.trans (congrArg some (by kernel_rfl))⟩
  f14 := ⟨Tryz.f140.name, by decide, func140.trans (congrArg some (by kernel_rfl))⟩
  f15 := func93.trans (congrArg some (by kernel_rfl))
  f20 := ⟨Tryz.f167.name, by decide, func167.trans (congrArg some (by kernel_rfl))⟩
  f21 := ⟨Tryz.f168.name, by decide, func168.trans (congrArg some (by kernel_rfl))⟩
  f22 := ⟨Tryz.f169.name, by decide, func169.trans (congrArg some (by kernel_rfl))⟩
  f23 := ⟨Tryz.f170.name, by decide, func170.trans (congrArg some (by kernel_rfl))⟩
  f24 := ⟨Tryz.f171.name, by decide, func171.trans (congrArg some (by kernel_rfl))⟩
  f25 := ⟨Tryz.f172.name, by decide, func172.trans (congrArg some (by kernel_rfl))⟩
  f26 := ⟨Tryz.f173.name, by decide, func173.trans (congrArg some (by kernel_rfl))⟩
  f27 := ⟨Tryz.f174.name, by decide, func174.trans (congrArg some (by kernel_rfl))⟩
  f28 := func128.trans (congrArg some (by kernel_rfl))
  f29 := func129.trans (congrArg some (by kernel_rfl))
  f46 := ⟨Tryz.f187.name, by decide, func187.trans (congrArg some (by kernel_rfl))⟩
  f47 := func154.trans (congrArg some (by kernel_rfl))
  f48 := func155.trans (congrArg some (by kernel_rfl))
  f49 := ⟨Tryz.f188.name, by decide, func188.trans (congrArg some (by kernel_rfl))⟩
  f50 := ⟨Tryz.f189.name, by decide, func189.trans (congrArg some (by kernel_rfl))⟩
  f57 := ⟨Tryz.f197.name, by decide, func197.trans (congrArg some (by kernel_rfl))⟩
  t0 := underlying0
  a0 := isAgg0
  z0 := sizeOf0
  v0 := zeroValue0
  t3 := underlying3
  a3 := isAgg3
  z3 := sizeOf3
  v3 := zeroValue3
  t4 := underlying4
  a4 := isAgg4
  z4 := sizeOf4
  v4 := zeroValue4
  t5 := underlying5
  a5 := isAgg5
  z5 := sizeOf5
  v5 := zeroValue5
  t9 := underlying9
  a9 := isAgg9
  z9 := sizeOf9
  v9 := zeroValue9
  t22 := underlying38
  a22 := isAgg38
  z22 := sizeOf38
  v22 := zeroValue38
  t25 := underlying174
  a25 := isAgg174
  z25 := sizeOf174
  v25 := zeroValue174
  t39 := underlying162
  a39 := isAgg162
  z39 := sizeOf162
  v39 := zeroValue162
  t45 := underlying190
  a45 := isAgg190
  z45 := sizeOf190
  v45 := zeroValue190
  t46 := underlying191
  a46 := isAgg191
  z46 := sizeOf191
  v46 := zeroValue191
  t50 := underlying47
  a50 := isAgg47
  z50 := sizeOf47
  v50 := zeroValue47
  t53 := underlying198
  a53 := isAgg198
  z53 := sizeOf198
  v53 := zeroValue198
  t55 := underlying200
  a55 := isAgg200
  z55 := sizeOf200
  v55 := zeroValue200
  t66 := underlying230
  a66 := isAgg230
  z66 := sizeOf230
  v66 := zeroValue230
  t70 := underlying234
  a70 := isAgg234
  z70 := sizeOf234
  v70 := zeroValue234
  t76 := underlying258
  a76 := isAgg258
  z76 := sizeOf258
  v76 := zeroValue258
  t77 := underlying259
  a77 := isAgg259
  z77 := sizeOf259
  v77 := zeroValue259 }
end Go.Proofs
