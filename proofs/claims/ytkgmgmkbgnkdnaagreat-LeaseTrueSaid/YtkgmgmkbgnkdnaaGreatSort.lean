/-
  The sort with a function lies in the program: laid at rows (printed by the kit, in plain words).
-/
import Derived.Test.YtkgmgmkbgnkdnaaGreatEz
import Derived.Shelf.SlSortCmp.WholeK
import Derived.Test.YtkgmgmkbgnkdnaaGreatProg

namespace Go.Proofs
open Go.Shelf
def Tryz.sortRow_ren : Go.Shelf.Ren := ⟨fun | 6 => 86 | 15 => 73 | 14 => 115 | 28 => 99 | 29 => 100 | 20 => 130 | 21 => 131 | 22 => 132 | 23 => 133 | 24 => 134 | 25 => 135 | 26 => 136 | 27 => 137 | 46 => 143 | 47 => 118 | 48 => 119 | 49 => 144 | 50 => 145 | 57 => 148 | n => n, fun | 22 => 47 | 24 => 62 | 25 => 137 | 3 => 3 | 39 => 124 | 0 => 0 | 53 => 147 | 55 => 149 | 4 => 4 | 46 => 140 | 45 => 139 | 50 => 32 | 5 => 5 | 9 => 9 | 66 => 158 | 70 => 162 | 76 => 174 | 77 => 175 | n => n, fun | n => n⟩
theorem Tryz.sortRow : Go.Proofs.SlLaysF0.n6 Tryz.prog Tryz.sortRow_ren := {
  mixed := by kernel_rfl
  f6 := ⟨Tryz.f86.name, by decide, func86.trans (congrArg some (by kernel_rfl))⟩
  f14 := ⟨Tryz.f115.name, by decide, func115.trans (congrArg some (by kernel_rfl))⟩
  f15 := func73.trans (congrArg some (by kernel_rfl))
  f20 := ⟨Tryz.f130.name, by decide, func130.trans (congrArg some (by kernel_rfl))⟩
  f21 := ⟨Tryz.f131.name, by decide, func131.trans (congrArg some (by kernel_rfl))⟩
  f22 := ⟨Tryz.f132.name, by decide, func132.trans (congrArg some (by kernel_rfl))⟩
  f23 := ⟨Tryz.f133.name, by decide, func133.trans (congrArg some (by kernel_rfl))⟩
  f24 := ⟨Tryz.f134.name, by decide, func134.trans (congrArg some (by kernel_rfl))⟩
  f25 := ⟨Tryz.f135.name, by decide, func135.trans (congrArg some (by kernel_rfl))⟩
  f26 := ⟨Tryz.f136.name, by decide, func136.trans (congrArg some (by kernel_rfl))⟩
  f27 := ⟨Tryz.f137.name, by decide, func137.trans (congrArg some (by kernel_rfl))⟩
  f28 := func99.trans (congrArg some (by kernel_rfl))
  f29 := func100.trans (congrArg some (by kernel_rfl))
  f46 := ⟨Tryz.f143.name, by decide, func143.trans (congrArg some (by kernel_rfl))⟩
  f47 := func118.trans (congrArg some (by kernel_rfl))
  f48 := func119.trans (congrArg some (by kernel_rfl))
  f49 := ⟨Tryz.f144.name, by decide, func144.trans (congrArg some (by kernel_rfl))⟩
  f50 := ⟨Tryz.f145.name, by decide, func145.trans (congrArg some (by kernel_rfl))⟩
  f57 := ⟨Tryz.f148.name, by decide, func148.trans (congrArg some (by kernel_rfl))⟩
  t0 := underlying0
  a0 := isAgg0
  z0 := sizeOf0
  v0 := zeroValue0
  t3 := underlying3
  a3 := isAgg3
  z3 := sizeOf3
  v3 := zeroValue3
  t4 := underlying4
  a4 := isAgg4
  z4 := sizeOf4
  v4 := zeroValue4
  t5 := underlying5
  a5 := isAgg5
  z5 := sizeOf5
  v5 := zeroValue5
  t9 := underlying9
  a9 := isAgg9
  z9 := sizeOf9
  v9 := zeroValue9
  t22 := underlying47
  a22 := isAgg47
  z22 := sizeOf47
  v22 := zeroValue47
  t25 := underlying137
  a25 := isAgg137
  z25 := sizeOf137
  v25 := zeroValue137
  t39 := underlying124
  a39 := isAgg124
  z39 := sizeOf124
  v39 := zeroValue124
  t45 := underlying139
  a45 := isAgg139
  z45 := sizeOf139
  v45 := zeroValue139
  t46 := underlying140
  a46 := isAgg140
  z46 := sizeOf140
  v46 := zeroValue140
  t50 := underlying32
  a50 := isAgg32
  z50 := sizeOf32
  v50 := zeroValue32
  t53 := underlying147
  a53 := isAgg147
  z53 := sizeOf147
  v53 := zeroValue147
  t55 := underlying149
  a55 := isAgg149
  z55 := sizeOf149
  v55 := zeroValue149
  t66 := underlying158
  a66 := isAgg158
  z66 := sizeOf158
  v66 := zeroValue158
  t70 := underlying162
  a70 := isAgg162
  z70 := sizeOf162
  v70 := zeroValue162
  t76 := underlying174
  a76 := isAgg174
  z76 := sizeOf174
  v76 := zeroValue174
  t77 := underlying175
  a77 := isAgg175
  z77 := sizeOf175
  v77 := zeroValue175 }
end Go.Proofs
