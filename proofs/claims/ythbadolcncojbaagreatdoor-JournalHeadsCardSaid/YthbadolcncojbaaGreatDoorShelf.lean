/-
  DERIVED: THE SHELF's CONTRACTS AT THIS DUMP, IN PLAIN WORDS (tools/lay-plain.mjs out of 'TryzShelf.lean', which tools/lay-shelf.mjs wrote): THE SAME DECLARATIONS UNDER THE SAME NAMES: 'import', 'namespace', 'open', 'def', 'theorem' AND NOTHING ELSE: no command of the shelf's: FOR A HAND-IN. Each laying: the table of numbers ('.._ren') and one theorem, a field a fact of the dump's own or the kernel's comparison; each contract: ONE APPLICATION.
-/
import Derived.Test.YthbadolcncojbaaGreatDoorEz
import Derived.Shelf.Strings.Builder1
import Derived.Shelf.Strings.Builder2
import Derived.Shelf.Strings.OnBuilder
import Derived.Shelf.Strings.Trim
import Derived.Shelf.Small.Utf8
import Derived.Shelf.Small.Bits
import Derived.Shelf.Small.Strs
import Derived.Shelf.Small.Wraps
import Derived.Shelf.Strconv.Itoa0
import Derived.Shelf.Strings.Search1
import Derived.Shelf.Sort.Plain
import Derived.Shelf.Strings.Prefix
import Derived.Shelf.Strings.Runes
import Derived.Shelf.Strings.AsciiSet
import Derived.Shelf.Bits.Mul64
import Derived.Shelf.Unicode.DecodeSlow
import Derived.Ground.Names2Prog
import Derived.Shelf.Strings.Repeat
import Derived.Shelf.Slices.ReverseS
import Derived.Shelf.Slices.Clone
import Derived.Shelf.Slices.CompactI
import Derived.Shelf.Slices.SearchI
import Derived.Shelf.Slices.Cells
import Derived.Shelf.Slices.In.SortNone
import Derived.Test.YthbadolcncojbaaGreatDoorProg

namespace Go.Proofs
open Go.Shelf
def Tryz.lays156_ren : Go.Shelf.Ren := ⟨fun | 156 => 172 | 165 => 103 | 166 => 56 | 169 => 58 | 240 => 109 | 241 => 147 | 276 => 152 | 277 => 166 | n => n, fun | 31 => 43 | 9 => 9 | 3 => 3 | 4 => 4 | 0 => 0 | 20 => 20 | 72 => 123 | 76 => 126 | 70 => 121 | 37 => 36 | 75 => 125 | 127 => 193 | 164 => 231 | 5 => 5 | 80 => 129 | n => n, fun | n => n⟩
theorem Tryz.lays156 : Go.Proofs.Lays.n156 Tryz.prog Tryz.lays156_ren := {
  mixed := by kernel_rfl
  f156 := func172.trans (congrArg some (by kernel_rfl))
  f165 := func103.trans (congrArg some (by kernel_rfl))
  f166 := func56.trans (congrArg some (by kernel_rfl))
  f169 := func58.trans (congrArg some (by kernel_rfl))
  f240 := func109.trans (congrArg some (by kernel_rfl))
  f241 := func147.trans (congrArg some (by kernel_rfl))
  f276 := func152.trans (congrArg some (by kernel_rfl))
  f277 := func166.trans (congrArg some (by kernel_rfl))
  t0 := underlying0
  a0 := isAgg0
  z0 := sizeOf0
  v0 := zeroValue0
  t3 := underlying3
  a3 := isAgg3
  z3 := sizeOf3
  v3 := zeroValue3
  t4 := underlying4
  a4 := isAgg4
  z4 := sizeOf4
  v4 := zeroValue4
  t9 := underlying9
  a9 := isAgg9
  z9 := sizeOf9
  v9 := zeroValue9
  t20 := underlying20
  a20 := isAgg20
  z20 := sizeOf20
  v20 := zeroValue20
  t31 := underlying43
  a31 := isAgg43
  z31 := sizeOf43
  v31 := zeroValue43
  t37 := underlying36
  a37 := isAgg36
  z37 := sizeOf36
  v37 := zeroValue36
  t70 := underlying121
  a70 := isAgg121
  z70 := sizeOf121
  v70 := zeroValue121
  t72 := underlying123
  a72 := isAgg123
  z72 := sizeOf123
  v72 := zeroValue123
  t75 := underlying125
  a75 := isAgg125
  z75 := sizeOf125
  v75 := zeroValue125
  t76 := underlying126
  a76 := isAgg126
  z76 := sizeOf126
  v76 := zeroValue126
  t127 := underlying193
  a127 := isAgg193
  z127 := sizeOf193
  v127 := zeroValue193
  t164 := underlying231
  a164 := isAgg231
  z164 := sizeOf231
  v164 := zeroValue231 }
theorem Tryz.Builder_Extra_156 : Builder.Extra Tryz.prog Tryz.lays156_ren := {
  sizeBuilder := by kernel_rfl
  liesBuilder := by kernel_rfl
  t5 := underlying5
  a5 := isAgg5
  z5 := sizeOf5
  v5 := zeroValue5
  infoByte := by kernel_rfl
  cellsByte := by kernel_rfl
  sizeByte := by kernel_rfl
  neB5 := by decide }
open Go.RowKit in
/-- strings.Join: "Join concatenates the elements of its first argument to create a single string. The separator string sep is placed between elements in the resulting string.": HOWEVER MANY ELEMENTS. Below the heap's end the world is as it was. (LAID: no walk: one application.) -/
theorem Tryz.strings_Join (bk o c : Nat) (xs : List ByteArray) (sep : ByteArray) (w : World) (hcells : ∀ (j : Nat) x, xs[j]? = some x → w.cell? ⟨bk, o + j, none⟩ = some (.string x)) (hbk : bk < w.heap.size) (hN : xs.length ≤ 140737488355328) (hcap : xs.length ≤ c) (hlen : (Lib.join (xs.map (·.data.toList)) sep.data.toList).length ≤ 140737488355328) :
    Calls Tryz.prog 172 #[.slice (some ⟨bk, o, none⟩) xs.length c, .string sep] w fun e w' => e = .returned (.string ⟨(Lib.join (xs.map (·.data.toList)) sep.data.toList).toArray⟩) ∧ Below w.heap.size w w' := Any.strings_Join Tryz.lays156 Tryz.Builder_Extra_156 bk o c xs sep w hcells hbk hN hcap hlen
def Tryz.lays160_ren : Go.Shelf.Ren := ⟨fun | 160 => 45 | 232 => 94 | 231 => 93 | 227 => 95 | 234 => 97 | 233 => 96 | 236 => 99 | 235 => 98 | 228 => 140 | 271 => 143 | 151 => 142 | 197 => 141 | 120 => 165 | 152 => 164 | 260 => 163 | 137 => 187 | 119 => 188 | 224 => 189 | 225 => 190 | 217 => 202 | 266 => 207 | n => n, fun | 9 => 9 | 4 => 4 | 3 => 3 | 5 => 5 | 117 => 177 | 116 => 176 | 0 => 0 | 124 => 180 | 21 => 21 | 105 => 217 | 46 => 182 | 119 => 270 | 139 => 273 | 138 => 272 | n => n, fun | 3 => 1 | 4 => 2 | n => n⟩
theorem Tryz.lays160 : Go.Proofs.Lays.n160 Tryz.prog Tryz.lays160_ren := {
  mixed := by kernel_rfl
  f119 := func188.trans (congrArg some (by kernel_rfl))
  f120 := func165.trans (congrArg some (by kernel_rfl))
  f137 := func187.trans (congrArg some (by kernel_rfl))
  f151 := func142.trans (congrArg some (by kernel_rfl))
  f152 := func164.trans (congrArg some (by kernel_rfl))
  f160 := func45.trans (congrArg some (by kernel_rfl))
  f197 := func141.trans (congrArg some (by kernel_rfl))
  f217 := func202.trans (congrArg some (by kernel_rfl))
  f224 := func189.trans (congrArg some (by kernel_rfl))
  f225 := func190.trans (congrArg some (by kernel_rfl))
  f227 := func95.trans (congrArg some (by kernel_rfl))
  f228 := func140.trans (congrArg some (by kernel_rfl))
  f231 := func93.trans (congrArg some (by kernel_rfl))
  f232 := func94.trans (congrArg some (by kernel_rfl))
  f233 := func96.trans (congrArg some (by kernel_rfl))
  f234 := func97.trans (congrArg some (by kernel_rfl))
  f235 := func98.trans (congrArg some (by kernel_rfl))
  f236 := func99.trans (congrArg some (by kernel_rfl))
  f260 := func163.trans (congrArg some (by kernel_rfl))
  f266 := func207.trans (congrArg some (by kernel_rfl))
  f271 := func143.trans (congrArg some (by kernel_rfl))
  t0 := underlying0
  a0 := isAgg0
  z0 := sizeOf0
  v0 := zeroValue0
  t3 := underlying3
  a3 := isAgg3
  z3 := sizeOf3
  v3 := zeroValue3
  t4 := underlying4
  a4 := isAgg4
  z4 := sizeOf4
  v4 := zeroValue4
  t5 := underlying5
  a5 := isAgg5
  z5 := sizeOf5
  v5 := zeroValue5
  t9 := underlying9
  a9 := isAgg9
  z9 := sizeOf9
  v9 := zeroValue9
  t21 := underlying21
  a21 := isAgg21
  z21 := sizeOf21
  v21 := zeroValue21
  t46 := underlying182
  a46 := isAgg182
  z46 := sizeOf182
  v46 := zeroValue182
  t105 := underlying217
  a105 := isAgg217
  z105 := sizeOf217
  v105 := zeroValue217
  t116 := underlying176
  a116 := isAgg176
  z116 := sizeOf176
  t117 := underlying177
  a117 := isAgg177
  z117 := sizeOf177
  v117 := zeroValue177
  t119 := underlying270
  a119 := isAgg270
  z119 := sizeOf270
  t124 := underlying180
  a124 := isAgg180
  z124 := sizeOf180
  v124 := zeroValue180
  t138 := underlying272
  a138 := isAgg272
  z138 := sizeOf272
  v138 := zeroValue272
  t139 := underlying273
  a139 := isAgg273
  z139 := sizeOf273
  v139 := zeroValue273
  g3 := by kernel_rfl
  g4 := by kernel_rfl }
open Go.RowKit in
/-- strings.Trim: "Trim returns a slice of the string s with all leading and trailing Unicode code points contained in cutset removed.": AT A cutset OF ONE ASCII BYTE. THE WORLD BEHIND IT: as it was, or (where s is not empty) with ONE DRAW MORE off the tape: the statement 'return trimLeftByte(trimRightByte(s, c), c)' draws its order of evaluation. (LAID: no walk: one application.) -/
theorem Tryz.strings_Trim_one (s : ByteArray) (c : UInt8) (hc : c.toNat < 128) (w : World) (hs : s.size ≤ 9223372036854775807) :
    Calls Tryz.prog 45 #[.string s, .string ⟨#[c]⟩] w fun e w' => e = .returned (.string ⟨(Lib.trimB s.data.toList c).toArray⟩) ∧ (w' = w ∨ w' = w.drew) := Any.strings_Trim_one Tryz.lays160 s c hc w hs
def Tryz.laysNm216_ren : Go.Shelf.Ren := ⟨fun | 16 => 55 | n => n, fun | 24 => 43 | 9 => 9 | 4 => 4 | n => n, fun | n => n⟩
theorem Tryz.laysNm216 : Go.Proofs.Lays2.n16 Tryz.prog Tryz.laysNm216_ren := {
  mixed := by kernel_rfl
  f16 := func55.trans (congrArg some (by kernel_rfl))
  t4 := underlying4
  a4 := isAgg4
  z4 := sizeOf4
  v4 := zeroValue4
  t9 := underlying9
  a9 := isAgg9
  z9 := sizeOf9
  v9 := zeroValue9
  t24 := underlying43
  a24 := isAgg43
  z24 := sizeOf43
  v24 := zeroValue43
  i9 := by kernel_rfl }
open Go.RowKit Go.Lib in
/-- slices.Clone at []string: "Clone returns a copy of the slice. The elements are copied using assignment, so this is a shallow clone. The result may have additional unused capacity. The result preserves the nilness of s.": OF A SLICE THAT IS NOT nil IT RETURNS A SLICE THAT IS NOT nil, OF THE SAME ELEMENTS, IN MEMORY OF THE CALL's OWN: in the how-to's words (6f): 'w'.ownsRow B e 1 v' n cells': v' begins at the head of a row among the blocks from B on (B: the heap's size at the call), not frozen, whose first cells are the elements · 'Below B w w'': below B all is as it was. The capacity is whatever the run-time gives. 'zs': what the cells behind the slice's address hold; 'zs.take n': its elements. (LAID: no walk: one application.) -/
theorem Tryz.slices_Clone_string (b off n c : Nat) (zs : List ByteArray) (w : World) (hz : n ≤ zs.length) (hbig : n * 16 ≤ 140737488355328) (hc : ∀ j, j < zs.length → w.cell? ⟨b, off + j, none⟩ = some (.string (zs.getD j ByteArray.empty))) :
    Calls Tryz.prog 55 #[.slice (some ⟨b, off, none⟩) n c] w fun e w' => ∃ v', e = .returned v' ∧ w'.ownsRow w.heap.size 9 1 v' n ((zs.take n).map (Value.string)) ∧ v' ≠ .slice none 0 0 ∧ Below w.heap.size w w' := Any.slices_Clone_string Tryz.laysNm216 b off n c zs w hz hbig hc
open Go.RowKit Go.Lib in
/-- The same at nil: nil comes back; the world is as it was. (LAID: no walk: one application.) -/
theorem Tryz.slices_Clone_string_nil (n c : Nat) (w : World) :
    Calls Tryz.prog 55 #[.slice none n c] w fun e w' => e = .returned (.slice none 0 0) ∧ w' = w := Any.slices_Clone_string_nil Tryz.laysNm216 n c w
open Go.RowKit Go.Lib in
/-- The same at a slice of length 0 that is not nil, WHATEVER ITS ADDRESS (no cell is asked for): a slice that is not nil and owns nothing comes back. (LAID: no walk: one application.) -/
theorem Tryz.slices_Clone_string_zero (a : Addr) (c : Nat) (w : World) :
    Calls Tryz.prog 55 #[.slice (some a) 0 c] w fun e w' => ∃ v', e = .returned v' ∧ w'.ownsRow w.heap.size 9 1 v' 0 [] ∧ v' ≠ .slice none 0 0 ∧ Below w.heap.size w w' := Any.slices_Clone_string_zero Tryz.laysNm216 a c w
def Tryz.lays105_ren : Go.Shelf.Ren := ⟨fun | 105 => 50 | 212 => 101 | 99 => 102 | 165 => 103 | 166 => 56 | 170 => 104 | 169 => 58 | 263 => 144 | 264 => 145 | 206 => 146 | 240 => 109 | 241 => 147 | 276 => 152 | 277 => 166 | n => n, fun | 9 => 9 | 3 => 3 | 4 => 4 | 20 => 20 | 0 => 0 | 46 => 182 | 109 => 183 | 5 => 5 | 72 => 123 | 76 => 126 | 51 => 220 | 146 => 221 | 53 => 223 | 148 => 224 | 70 => 121 | 37 => 36 | 75 => 125 | 127 => 193 | 164 => 231 | 80 => 129 | n => n, fun | n => n⟩
theorem Tryz.lays105 : Go.Proofs.Lays.n105 Tryz.prog Tryz.lays105_ren := {
  mixed := by kernel_rfl
  f99 := func102.trans (congrArg some (by kernel_rfl))
  f105 := func50.trans (congrArg some (by kernel_rfl))
  f165 := func103.trans (congrArg some (by kernel_rfl))
  f166 := func56.trans (congrArg some (by kernel_rfl))
  f169 := func58.trans (congrArg some (by kernel_rfl))
  f170 := func104.trans (congrArg some (by kernel_rfl))
  f206 := func146.trans (congrArg some (by kernel_rfl))
  f212 := func101.trans (congrArg some (by kernel_rfl))
  f240 := func109.trans (congrArg some (by kernel_rfl))
  f241 := func147.trans (congrArg some (by kernel_rfl))
  f263 := func144.trans (congrArg some (by kernel_rfl))
  f264 := func145.trans (congrArg some (by kernel_rfl))
  f276 := func152.trans (congrArg some (by kernel_rfl))
  f277 := func166.trans (congrArg some (by kernel_rfl))
  t0 := underlying0
  a0 := isAgg0
  z0 := sizeOf0
  v0 := zeroValue0
  t3 := underlying3
  a3 := isAgg3
  z3 := sizeOf3
  v3 := zeroValue3
  t4 := underlying4
  a4 := isAgg4
  z4 := sizeOf4
  v4 := zeroValue4
  t5 := underlying5
  a5 := isAgg5
  z5 := sizeOf5
  v5 := zeroValue5
  t9 := underlying9
  a9 := isAgg9
  z9 := sizeOf9
  v9 := zeroValue9
  t20 := underlying20
  a20 := isAgg20
  z20 := sizeOf20
  v20 := zeroValue20
  t37 := underlying36
  a37 := isAgg36
  z37 := sizeOf36
  v37 := zeroValue36
  t46 := underlying182
  a46 := isAgg182
  z46 := sizeOf182
  v46 := zeroValue182
  t51 := underlying220
  a51 := isAgg220
  z51 := sizeOf220
  v51 := zeroValue220
  t53 := underlying223
  a53 := isAgg223
  z53 := sizeOf223
  v53 := zeroValue223
  t70 := underlying121
  a70 := isAgg121
  z70 := sizeOf121
  v70 := zeroValue121
  t72 := underlying123
  a72 := isAgg123
  z72 := sizeOf123
  v72 := zeroValue123
  t75 := underlying125
  a75 := isAgg125
  z75 := sizeOf125
  v75 := zeroValue125
  t76 := underlying126
  a76 := isAgg126
  z76 := sizeOf126
  v76 := zeroValue126
  t109 := underlying183
  a109 := isAgg183
  z109 := sizeOf183
  v109 := zeroValue183
  t127 := underlying193
  a127 := isAgg193
  z127 := sizeOf193
  v127 := zeroValue193
  t146 := underlying221
  a146 := isAgg221
  z146 := sizeOf221
  v146 := zeroValue221
  t148 := underlying224
  a148 := isAgg224
  z148 := sizeOf224
  v148 := zeroValue224
  t164 := underlying231
  a164 := isAgg231
  z164 := sizeOf231
  v164 := zeroValue231 }
theorem Tryz.Builder_Extra_105 : Builder.Extra Tryz.prog Tryz.lays105_ren := {
  sizeBuilder := by kernel_rfl
  liesBuilder := by kernel_rfl
  t5 := underlying5
  a5 := isAgg5
  z5 := sizeOf5
  v5 := zeroValue5
  infoByte := by kernel_rfl
  cellsByte := by kernel_rfl
  sizeByte := by kernel_rfl
  neB5 := by decide }
open Go.RowKit Go.Lib in
/-- **strings.Repeat: count ≥ 0, the result within one allocation: count copies of s.** (LAID: no walk: one application.) -/
theorem Tryz.strings_Repeat (s : ByteArray) (c : Nat) (w : World) (hc : c ≤ 9223372036854775807) (hlen : s.size * c ≤ 140737488355328) :
    Calls Tryz.prog 50 #[.string s, .int .i64 c] w fun e w' => e = .returned (.string ⟨(Lib.repeatL s.data.toList c).toArray⟩) ∧ Below w.heap.size w w' := Any.strings_Repeat Tryz.lays105 Tryz.Builder_Extra_105 s c w hc hlen
end Go.Proofs
