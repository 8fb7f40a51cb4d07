/-
  The sort with a function lies in the program: laid at rows (printed by the kit, in plain words).
-/
import Derived.Test.YtjeepldonhgohaaGreatDoorEz
import Derived.Shelf.SlSortCmp.WholeK
import Derived.Test.YtjeepldonhgohaaGreatDoorProg

namespace Go.Proofs
open Go.Shelf
def Tryz.sortRow_ren : Go.Shelf.Ren := ⟨fun | 6 => 104 | 15 => 119 | 14 => 128 | 28 => 136 | 29 => 137 | 20 => 144 | 21 => 145 | 22 => 146 | 23 => 147 | 24 => 148 | 25 => 149 | 26 => 150 | 27 => 151 | 46 => 157 | 47 => 158 | 48 => 159 | 49 => 160 | 50 => 161 | 57 => 165 | n => n, fun | 22 => 33 | 24 => 74 | 25 => 159 | 3 => 3 | 39 => 135 | 0 => 0 | 53 => 108 | 55 => 134 | 4 => 4 | 46 => 198 | 45 => 197 | 50 => 202 | 5 => 5 | 9 => 9 | 66 => 206 | 70 => 210 | 76 => 216 | 77 => 217 | n => n, fun | n => n⟩
theorem Tryz.sortRow : Go.Proofs.SlLaysF0.n6 Tryz.prog Tryz.sortRow_ren := {
  mixed := by kernel_rfl
  f6 := ⟨Tryz.f104.name, by decide, func104.trans (congrArg some (by kernel_rfl))⟩
  f14 := ⟨Tryz.f128.name, by decide, func128.trans (congrArg some (by kernel_rfl))⟩
  f15 := func119.trans (congrArg some (by kernel_rfl))
  f20 := ⟨Tryz.f144.name, by decide, func144.trans (congrArg some (by kernel_rfl))⟩
  f21 := ⟨Tryz.f145.name, by decide, func145.trans (congrArg some (by kernel_rfl))⟩
  f22 := ⟨Tryz.f146.name, by decide, func146.trans (congrArg some (by kernel_rfl))⟩
  f23 := ⟨Tryz.f147.name, by decide, func147.trans (congrArg some (by kernel_rfl))⟩
  f24 := ⟨Tryz.f148.name, by decide, func148.trans (congrArg some (by kernel_rfl))⟩
  f25 := ⟨Tryz.f149.name, by decide, func149.trans (congrArg some (by kernel_rfl))⟩
  f26 := ⟨Tryz.f150.name, by decide, func150.trans (congrArg some (by kernel_rfl))⟩
  f27 := ⟨Tryz.f151.name, by decide, func151.trans (congrArg some (by kernel_rfl))⟩
  f28 := func136.trans (congrArg some (by kernel_rfl))
  f29 := func137.trans (congrArg some (by kernel_rfl))
  f46 := ⟨Tryz.f157.name, by decide, func157.trans (congrArg some (by kernel_rfl))⟩
  f47 := func158.trans (congrArg some (by kernel_rfl))
  f48 := func159.trans (congrArg some (by kernel_rfl))
  f49 := ⟨Tryz.f160.name, by decide, func160.trans (congrArg some (by kernel_rfl))⟩
  f50 := ⟨Tryz.f161.name, by decide, func161.trans (congrArg some (by kernel_rfl))⟩
  f57 := ⟨Tryz.f165.name, by decide, func165.trans (congrArg some (by kernel_rfl))⟩
  t0 := underlying0
  a0 := isAgg0
  z0 := sizeOf0
  v0 := zeroValue0
  t3 := underlying3
  a3 := isAgg3
  z3 := sizeOf3
  v3 := zeroValue3
  t4 := underlying4
  a4 := isAgg4
  z4 := sizeOf4
  v4 := zeroValue4
  t5 := underlying5
  a5 := isAgg5
  z5 := sizeOf5
  v5 := zeroValue5
  t9 := underlying9
  a9 := isAgg9
  z9 := sizeOf9
  v9 := zeroValue9
  t22 := underlying33
  a22 := isAgg33
  z22 := sizeOf33
  v22 := zeroValue33
  t25 := underlying159
  a25 := isAgg159
  z25 := sizeOf159
  v25 := zeroValue159
  t39 := underlying135
  a39 := isAgg135
  z39 := sizeOf135
  v39 := zeroValue135
  t45 := underlying197
  a45 := isAgg197
  z45 := sizeOf197
  v45 := zeroValue197
  t46 := underlying198
  a46 := isAgg198
  z46 := sizeOf198
  v46 := zeroValue198
  t50 := underlying202
  a50 := isAgg202
  z50 := sizeOf202
  v50 := zeroValue202
  t53 := underlying108
  a53 := isAgg108
  z53 := sizeOf108
  v53 := zeroValue108
  t55 := underlying134
  a55 := isAgg134
  z55 := sizeOf134
  v55 := zeroValue134
  t66 := underlying206
  a66 := isAgg206
  z66 := sizeOf206
  v66 := zeroValue206
  t70 := underlying210
  a70 := isAgg210
  z70 := sizeOf210
  v70 := zeroValue210
  t76 := underlying216
  a76 := isAgg216
  z76 := sizeOf216
  v76 := zeroValue216
  t77 := underlying217
  a77 := isAgg217
  z77 := sizeOf217
  v77 := zeroValue217 }
end Go.Proofs
