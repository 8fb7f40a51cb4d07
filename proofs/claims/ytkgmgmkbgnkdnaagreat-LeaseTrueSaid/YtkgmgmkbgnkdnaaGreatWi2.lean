/-
  DERIVED: THE SHELF's CONTRACTS AT THIS DUMP, IN PLAIN WORDS (tools/lay-plain.mjs out of 'TryzShelf.lean', which tools/lay-shelf.mjs wrote): THE SAME DECLARATIONS UNDER THE SAME NAMES: 'import', 'namespace', 'open', 'def', 'theorem' AND NOTHING ELSE: no command of the shelf's: FOR A HAND-IN. Each laying: the table of numbers ('.._ren') and one theorem, a field a fact of the dump's own or the kernel's comparison; each contract: ONE APPLICATION.
-/
/- Contracts: wire.groups, PutInt, PutString. Contracts: wire.PutString, Int, String. -/
import Derived.Test.YtkgmgmkbgnkdnaaGreatEz
import Derived.Shelf.Small.Bits
import Derived.Shelf.Small.Wraps
import Derived.Shelf.Strconv.Itoa0
import Derived.Shelf.Sort.Plain
import Derived.Ground.Names2Prog
import Derived.Shelf.Slices.SearchI
import Derived.Shelf.Slices.In.SortNone
import Derived.Test.YtkgmgmkbgnkdnaaGreatProg
import Derived.Test.YtkgmgmkbgnkdnaaGreatEx4
import Derived.Test.YtkgmgmkbgnkdnaaGreatEx5
import Derived.Test.YtkgmgmkbgnkdnaaGreatSha
import Derived.WalkKit
import Derived.Laws.BitsAllLaws
import Derived.Laws.Bits64
import Derived.Test.YtkgmgmkbgnkdnaaGreatEx8
import Derived.Test.YtkgmgmkbgnkdnaaGreatEx6

namespace Go.Proofs
open Go.Shelf
def Tryz.lays122_ren : Go.Shelf.Ren := ⟨fun | 122 => 89 | 215 => 116 | n => n, fun | 3 => 3 | 4 => 4 | n => n, fun | n => n⟩
theorem Tryz.lays122 : Go.Proofs.Lays.n122 Tryz.prog Tryz.lays122_ren := {
  mixed := by kernel_rfl
  f122 := func89.trans (congrArg some (by kernel_rfl))
  f215 := func116.trans (congrArg some (by kernel_rfl))
  t3 := underlying3
  a3 := isAgg3
  z3 := sizeOf3
  v3 := zeroValue3
  t4 := underlying4
  a4 := isAgg4
  z4 := sizeOf4
  v4 := zeroValue4 }
open Go.RowKit in
theorem Tryz.cmp_Compare_int (x y : Int) (w : World) :
    Calls Tryz.prog 89 #[.int .i64 x, .int .i64 y] w fun e w' => e = .returned (.int .i64 (Lib.compareInt x y)) ∧ w' = w := Any.cmp_Compare_int Tryz.lays122 x y w
def Tryz.lays190_ren : Go.Shelf.Ren := ⟨fun | 190 => 35 | 125 => 73 | 258 => 72 | 128 => 99 | 129 => 100 | 302 => 90 | 303 => 91 | 304 => 92 | 305 => 93 | 306 => 94 | 307 => 95 | 308 => 96 | 309 => 97 | 310 => 98 | 333 => 117 | 329 => 118 | 330 => 119 | 334 => 120 | 335 => 121 | 336 => 122 | 344 => 138 | n => n, fun | 31 => 56 | 9 => 9 | 3 => 3 | 46 => 124 | 0 => 0 | 51 => 147 | 53 => 149 | 4 => 4 | 183 => 140 | 182 => 139 | 131 => 32 | 5 => 5 | 218 => 158 | 222 => 162 | 228 => 174 | 229 => 175 | n => n, fun | n => n⟩
theorem Tryz.lays190 : Go.Proofs.Lays.n190 Tryz.prog Tryz.lays190_ren := {
  mixed := by kernel_rfl
  f125 := func73.trans (congrArg some (by kernel_rfl))
  f128 := func99.trans (congrArg some (by kernel_rfl))
  f129 := func100.trans (congrArg some (by kernel_rfl))
  f190 := func35.trans (congrArg some (by kernel_rfl))
  f258 := func72.trans (congrArg some (by kernel_rfl))
  f302 := func90.trans (congrArg some (by kernel_rfl))
  f303 := func91.trans (congrArg some (by kernel_rfl))
  f304 := func92.trans (congrArg some (by kernel_rfl))
  f305 := func93.trans (congrArg some (by kernel_rfl))
  f306 := func94.trans (congrArg some (by kernel_rfl))
  f307 := func95.trans (congrArg some (by kernel_rfl))
  f308 := func96.trans (congrArg some (by kernel_rfl))
  f309 := func97.trans (congrArg some (by kernel_rfl))
  f310 := func98.trans (congrArg some (by kernel_rfl))
  f329 := func118.trans (congrArg some (by kernel_rfl))
  f330 := func119.trans (congrArg some (by kernel_rfl))
  f333 := func117.trans (congrArg some (by kernel_rfl))
  f334 := func120.trans (congrArg some (by kernel_rfl))
  f335 := func121.trans (congrArg some (by kernel_rfl))
  f336 := func122.trans (congrArg some (by kernel_rfl))
  f344 := func138.trans (congrArg some (by kernel_rfl))
  t0 := underlying0
  a0 := isAgg0
  z0 := sizeOf0
  v0 := zeroValue0
  t3 := underlying3
  a3 := isAgg3
  z3 := sizeOf3
  v3 := zeroValue3
  t4 := underlying4
  a4 := isAgg4
  z4 := sizeOf4
  v4 := zeroValue4
  t5 := underlying5
  a5 := isAgg5
  z5 := sizeOf5
  v5 := zeroValue5
  t9 := underlying9
  a9 := isAgg9
  z9 := sizeOf9
  v9 := zeroValue9
  t31 := underlying56
  a31 := isAgg56
  z31 := sizeOf56
  v31 := zeroValue56
  t46 := underlying124
  a46 := isAgg124
  z46 := sizeOf124
  v46 := zeroValue124
  t51 := underlying147
  a51 := isAgg147
  z51 := sizeOf147
  v51 := zeroValue147
  t53 := underlying149
  a53 := isAgg149
  z53 := sizeOf149
  v53 := zeroValue149
  t131 := underlying32
  a131 := isAgg32
  z131 := sizeOf32
  v131 := zeroValue32
  t182 := underlying139
  a182 := isAgg139
  z182 := sizeOf139
  v182 := zeroValue139
  t183 := underlying140
  a183 := isAgg140
  z183 := sizeOf140
  v183 := zeroValue140
  t218 := underlying158
  a218 := isAgg158
  z218 := sizeOf158
  v218 := zeroValue158
  t222 := underlying162
  a222 := isAgg162
  z222 := sizeOf162
  v222 := zeroValue162
  t228 := underlying174
  a228 := isAgg174
  z228 := sizeOf174
  v228 := zeroValue174
  t229 := underlying175
  a229 := isAgg175
  z229 := sizeOf175
  v229 := zeroValue175 }
open Go.Sort Go.RowKit in
theorem Tryz.slices_Sort_string (blk off cap : Nat) (ss : List (List UInt8)) (w : World) (hH : Holds encStr w blk off ss.toArray) (hblk : blk < w.heap.size) (hsz : ss.length < 4611686018427387904) :
    Calls Tryz.prog 35 #[.slice (some ⟨blk, off, none⟩) ss.length cap] w fun e w' =>
      e = .returned (.tuple #[]) ∧ ∃ n os, w' = grow (putRow encStr (Sort.ahead w n) blk off (ss.mergeSort fun x y => decide (x ≤ y)).toArray) os := Any.slices_Sort_string Tryz.lays190 blk off cap ss w hH hblk hsz
open Go.RowKit Go.Sort in
theorem Tryz.slices_Sort_string_none (p : Option Addr) (cap : Nat) (w : World) :
    Calls Tryz.prog 35 #[.slice p 0 cap] w fun e w' => e = .returned (.tuple #[]) ∧ w' = w := Any.slices_Sort_string_none Tryz.lays190 p cap w
end Go.Proofs

namespace Go.Proofs.YtkgmgmkbgnkdnaaGreat
open Go.Proofs.Tryz
open Go Go.RowKit Gw
set_option linter.unusedVariables false
set_option linter.unusedSimpArgs false
set_option maxRecDepth 100000
attribute [local irreducible] Gw.At Gw.Nx Gw.Ops
def gb (x : Nat × Bool) : UInt8 := UInt8.ofNat (if x.2 then x.1 else x.1 + 128)
def zz (n : Int) : Nat := (if n < 0 then -(2 * n) - 1 else 2 * n).toNat
theorem at_nil {P : Program} {cx : Cx} {c : Code} {Q : Exit → Act → World → Prop} {env : Env} {H : Hp} (h : At P cx c Q env ([] :: H)) : At P cx c Q env H := at_flat (H' := [] :: H) rfl h
end Go.Proofs.YtkgmgmkbgnkdnaaGreat
