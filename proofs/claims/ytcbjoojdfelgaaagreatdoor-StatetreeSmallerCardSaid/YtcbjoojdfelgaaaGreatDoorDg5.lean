/-
  DERIVED: THE SHELF's CONTRACTS AT THIS DUMP, IN PLAIN WORDS (tools/lay-plain.mjs out of 'TryzShelf.lean', which tools/lay-shelf.mjs wrote): THE SAME DECLARATIONS UNDER THE SAME NAMES: 'import', 'namespace', 'open', 'def', 'theorem' AND NOTHING ELSE: no command of the shelf's: FOR A HAND-IN. Each laying: the table of numbers ('.._ren') and one theorem, a field a fact of the dump's own or the kernel's comparison; each contract: ONE APPLICATION.
-/
/- Contracts: digest.marked, Chain. -/
import Derived.Test.YtcbjoojdfelgaaaGreatDoorEz
import Derived.Shelf.Strings.Builder1
import Derived.Shelf.Strings.Builder2
import Derived.Shelf.Strings.OnBuilder
import Derived.Shelf.Small.Bits
import Derived.Shelf.Small.Wraps
import Derived.Shelf.Strings.BuilderF
import Derived.Shelf.Strconv.Itoa0
import Derived.Ground.Names2Prog
import Derived.Shelf.Slices.ReverseS
import Derived.Shelf.Slices.SearchI
import Derived.Shelf.Slices.Cells
import Derived.Test.YtcbjoojdfelgaaaGreatDoorProg
import Derived.Test.YtcbjoojdfelgaaaGreatDoorDg4

namespace Go.Proofs
open Go.Shelf
def Tryz.lays156_ren : Go.Shelf.Ren := ⟨fun | 156 => 125 | 165 => 141 | 166 => 142 | 169 => 143 | 240 => 150 | 241 => 151 | 276 => 153 | 277 => 154 | n => n, fun | 31 => 34 | 9 => 9 | 3 => 3 | 4 => 4 | 0 => 0 | 20 => 20 | 72 => 190 | 76 => 194 | 70 => 188 | 37 => 112 | 75 => 193 | 127 => 203 | 164 => 207 | 5 => 5 | 80 => 117 | n => n, fun | n => n⟩
theorem Tryz.lays156 : Go.Proofs.Lays.n156 Tryz.prog Tryz.lays156_ren := {
  mixed := by kernel_rfl
  f156 := func125.trans (congrArg some (by kernel_rfl))
  f165 := func141.trans (congrArg some (by kernel_rfl))
  f166 := func142.trans (congrArg some (by kernel_rfl))
  f169 := func143.trans (congrArg some (by kernel_rfl))
  f240 := func150.trans (congrArg some (by kernel_rfl))
  f241 := func151.trans (congrArg some (by kernel_rfl))
  f276 := func153.trans (congrArg some (by kernel_rfl))
  f277 := func154.trans (congrArg some (by kernel_rfl))
  t0 := underlying0
  a0 := isAgg0
  z0 := sizeOf0
  v0 := zeroValue0
  t3 := underlying3
  a3 := isAgg3
  z3 := sizeOf3
  v3 := zeroValue3
  t4 := underlying4
  a4 := isAgg4
  z4 := sizeOf4
  v4 := zeroValue4
  t9 := underlying9
  a9 := isAgg9
  z9 := sizeOf9
  v9 := zeroValue9
  t20 := underlying20
  a20 := isAgg20
  z20 := sizeOf20
  v20 := zeroValue20
  t31 := underlying34
  a31 := isAgg34
  z31 := sizeOf34
  v31 := zeroValue34
  t37 := underlying112
  a37 := isAgg112
  z37 := sizeOf112
  v37 := zeroValue112
  t70 := underlying188
  a70 := isAgg188
  z70 := sizeOf188
  v70 := zeroValue188
  t72 := underlying190
  a72 := isAgg190
  z72 := sizeOf190
  v72 := zeroValue190
  t75 := underlying193
  a75 := isAgg193
  z75 := sizeOf193
  v75 := zeroValue193
  t76 := underlying194
  a76 := isAgg194
  z76 := sizeOf194
  v76 := zeroValue194
  t127 := underlying203
  a127 := isAgg203
  z127 := sizeOf203
  v127 := zeroValue203
  t164 := underlying207
  a164 := isAgg207
  z164 := sizeOf207
  v164 := zeroValue207 }
theorem Tryz.Builder_Extra_156 : Builder.Extra Tryz.prog Tryz.lays156_ren := {
  sizeBuilder := by kernel_rfl
  liesBuilder := by kernel_rfl
  t5 := underlying5
  a5 := isAgg5
  z5 := sizeOf5
  v5 := zeroValue5
  infoByte := by kernel_rfl
  cellsByte := by kernel_rfl
  sizeByte := by kernel_rfl
  neB5 := by decide }
open Go.RowKit in
/-- strings.Join: "Join concatenates the elements of its first argument to create a single string. The separator string sep is placed between elements in the resulting string.": HOWEVER MANY ELEMENTS. Below the heap's end the world is as it was. (LAID: no walk: one application.) -/
theorem Tryz.strings_Join (bk o c : Nat) (xs : List ByteArray) (sep : ByteArray) (w : World) (hcells : ∀ (j : Nat) x, xs[j]? = some x → w.cell? ⟨bk, o + j, none⟩ = some (.string x)) (hbk : bk < w.heap.size) (hN : xs.length ≤ 140737488355328) (hcap : xs.length ≤ c) (hlen : (Lib.join (xs.map (·.data.toList)) sep.data.toList).length ≤ 140737488355328) :
    Calls Tryz.prog 125 #[.slice (some ⟨bk, o, none⟩) xs.length c, .string sep] w fun e w' => e = .returned (.string ⟨(Lib.join (xs.map (·.data.toList)) sep.data.toList).toArray⟩) ∧ Below w.heap.size w w' := Any.strings_Join Tryz.lays156 Tryz.Builder_Extra_156 bk o c xs sep w hcells hbk hN hcap hlen
def Tryz.lays125_ren : Go.Shelf.Ren := ⟨fun | 125 => 115 | 128 => 130 | 129 => 131 | n => n, fun | 46 => 131 | 3 => 3 | 51 => 109 | 53 => 138 | 4 => 4 | 5 => 5 | 9 => 9 | n => n, fun | n => n⟩
theorem Tryz.lays125 : Go.Proofs.Lays.n125 Tryz.prog Tryz.lays125_ren := {
  mixed := by kernel_rfl
  f125 := func115.trans (congrArg some (by kernel_rfl))
  f128 := func130.trans (congrArg some (by kernel_rfl))
  f129 := func131.trans (congrArg some (by kernel_rfl))
  t3 := underlying3
  a3 := isAgg3
  z3 := sizeOf3
  v3 := zeroValue3
  t4 := underlying4
  a4 := isAgg4
  z4 := sizeOf4
  v4 := zeroValue4
  t5 := underlying5
  a5 := isAgg5
  z5 := sizeOf5
  v5 := zeroValue5
  t9 := underlying9
  a9 := isAgg9
  z9 := sizeOf9
  v9 := zeroValue9
  t46 := underlying131
  a46 := isAgg131
  z46 := sizeOf131
  v46 := zeroValue131
  t51 := underlying109
  a51 := isAgg109
  z51 := sizeOf109
  v51 := zeroValue109
  t53 := underlying138
  a53 := isAgg138
  z53 := sizeOf138
  v53 := zeroValue138 }
/-- bits.Len: "Len returns the minimum number of bits required to represent x; the result is 0 for x == 0.": IT RETURNS 'Lib.bitLen x'; the world is as it was. (A uint has 64 bits in the model.) ITS CALLEE bits.Len64 IS MET BY ITS OWN CONTRACT OFF THE SHELF (lay that first). (LAID: no walk: one application.) -/
theorem Tryz.bits_Len (x : Int) (w : World) (h0 : 0 ≤ x) (h1 : x ≤ 18446744073709551615) :
    Calls Tryz.prog 115 #[.int .u64 x] w fun e w' => e = .returned (.int .i64 (Lib.bitLen x.toNat)) ∧ w' = w := Any.bits_Len Tryz.lays125 x w h0 h1
def Tryz.lays122_ren : Go.Shelf.Ren := ⟨fun | 122 => 97 | 215 => 122 | n => n, fun | 3 => 3 | 4 => 4 | n => n, fun | n => n⟩
theorem Tryz.lays122 : Go.Proofs.Lays.n122 Tryz.prog Tryz.lays122_ren := {
  mixed := by kernel_rfl
  f122 := func97.trans (congrArg some (by kernel_rfl))
  f215 := func122.trans (congrArg some (by kernel_rfl))
  t3 := underlying3
  a3 := isAgg3
  z3 := sizeOf3
  v3 := zeroValue3
  t4 := underlying4
  a4 := isAgg4
  z4 := sizeOf4
  v4 := zeroValue4 }
open Go.RowKit in
/-- cmp.Compare at int: "Compare returns -1 if x is less than y, 0 if x equals y, +1 if x is greater than y.": IT RETURNS 'Lib.compareInt x y'; the world is as it was. (LAID: no walk: one application.) -/
theorem Tryz.cmp_Compare_int (x y : Int) (w : World) :
    Calls Tryz.prog 97 #[.int .i64 x, .int .i64 y] w fun e w' => e = .returned (.int .i64 (Lib.compareInt x y)) ∧ w' = w := Any.cmp_Compare_int Tryz.lays122 x y w
def Tryz.laysNm217_ren : Go.Shelf.Ren := ⟨fun | 17 => 85 | n => n, fun | 24 => 34 | 9 => 9 | 3 => 3 | 4 => 4 | 0 => 0 | n => n, fun | n => n⟩
theorem Tryz.laysNm217 : Go.Proofs.Lays2.n17 Tryz.prog Tryz.laysNm217_ren := {
  mixed := by kernel_rfl
  f17 := func85.trans (congrArg some (by kernel_rfl))
  t0 := underlying0
  a0 := isAgg0
  z0 := sizeOf0
  v0 := zeroValue0
  t3 := underlying3
  a3 := isAgg3
  z3 := sizeOf3
  v3 := zeroValue3
  t4 := underlying4
  a4 := isAgg4
  z4 := sizeOf4
  v4 := zeroValue4
  t9 := underlying9
  a9 := isAgg9
  z9 := sizeOf9
  v9 := zeroValue9
  t24 := underlying34
  a24 := isAgg34
  z24 := sizeOf34
  v24 := zeroValue34 }
open Go.RowKit Go.Lib Go.Sort in
/-- slices.Reverse at []string: "Reverse reverses the elements of the slice in place.": THE SLICE's CELLS HOLD 'zs.reverse' BEHIND THE CALL; all else is as it was, but for the count of draws (the exchange 's[i], s[j] = s[j], s[i]' draws its order, once a round). IN THE WORDS OF slices.Sort's CONTRACT: 'Holds': the cells hold zs and none is frozen; 'putRow': the world with those cells holding another array. A slice of length 0 that is not nil is among them ('zs = []'); nil: '.._nil'. (LAID: no walk: one application.) -/
theorem Tryz.slices_Reverse_string (blk off cap : Nat) (zs : List (List UInt8)) (w : World) (hH : Holds encStr w blk off zs.toArray) (hsz : zs.length ≤ 9223372036854775807) :
    Calls Tryz.prog 85 #[.slice (some ⟨blk, off, none⟩) zs.length cap] w fun e w' => e = .returned (.tuple #[]) ∧ ∃ n, w' = putRow encStr (Sort.ahead w n) blk off zs.reverse.toArray := Any.slices_Reverse_string Tryz.laysNm217 blk off cap zs w hH hsz
open Go.RowKit Go.Lib Go.Sort in
/-- The same at a slice of length 0, a nil one too: nothing is read, nothing written, nothing drawn. (LAID: no walk: one application.) -/
theorem Tryz.slices_Reverse_string_empty (a : Option Addr) (cap : Nat) (w : World) :
    Calls Tryz.prog 85 #[.slice a 0 cap] w fun e w' => e = .returned (.tuple #[]) ∧ w' = w := Any.slices_Reverse_string_empty Tryz.laysNm217 a cap w
end Go.Proofs


namespace Go.Proofs.YtcbjoojdfelgaaaGreatDoor
open Go.Proofs.Tryz
open Go Go.RowKit Gw
set_option linter.unusedVariables false
set_option linter.unusedSimpArgs false
set_option maxRecDepth 100000
attribute [local irreducible] Gw.At Gw.Nx Gw.Ops
def strV (l : List UInt8) : Value := .string (str l)
theorem str_app (a b : List UInt8) : str a ++ str b = str (a ++ b) := by
  apply ByteArray.ext
  simp [str]
theorem str_size (a : List UInt8) : (str a).size = a.length := by simp [str, ByteArray.size]
theorem str_list (a : List UInt8) : (str a).data.toList = a := by simp [str]
theorem join_nil (xs : List (List UInt8)) : Lib.join xs [] = xs.flatten := by
  unfold Lib.join
  induction xs with
  | nil => rfl
  | cons x r ih => cases r with
    | nil => simp
    | cons y r => rw [List.intercalate_cons_cons] ; rw [ih]; simp
theorem cell_in {w : World} {b o : Nat} {c : Array Value} {T : TypeId} {z : Nat × Nat} {cs : List Value} (hb : w.heap[b]? = some (.cells c T z)) (h : CellsIn c o cs) (j : Nat) (v : Value) (hj : cs[j]? = some v) : w.cell? ⟨b, o + j, none⟩ = some v := by
  have := cells_at hb h j v hj
  rcases Nat.eq_zero_or_pos j with rfl | h0
  · simpa [Addr.add] using this
  · simpa [Addr.add, Nat.ne_of_gt h0] using this
theorem join_spec (bk o cap : Nat) (cs : Array Value) (T : TypeId) (z : Nat × Nat) (xs : List (List UInt8)) (hc : CellsIn cs o (xs.map strV)) (hN : xs.length ≤ 140737488355328) (hcap : xs.length ≤ cap) (hlen : xs.flatten.length ≤ 140737488355328) :
    DoesR Tryz.prog 125 #[.slice (some ⟨bk, o, none⟩) xs.length cap, .string (str [])] [[(bk, .cells cs T z)]] (.string (str xs.flatten)) :=
  spec_below (Rl := fun v => v = .string (str xs.flatten)) (fun w hw => by
    have hb := hw (bk, .cells cs T z) (by simp)
    have h := Tryz.strings_Join bk o cap (xs.map str) (str []) w (fun j x hx => by
      refine cell_in hb hc j _ ?_
      rw [List.getElem?_map] at hx ⊢
      cases h1 : xs[j]? with
      | none => rw [h1] at hx; cases hx
      | some y => rw [h1] at hx; cases hx; rfl) (by
        rcases Nat.lt_or_ge bk w.heap.size with h1 | h1
        · exact h1
        · rw [Array.getElem?_eq_none h1] at hb; cases hb) (by simpa using hN) (by simpa using hcap) (by
        rw [List.map_map]
        have : (xs.map ((fun s : ByteArray => s.data.toList) ∘ str)) = xs := by simp [str, Function.comp_def]
        rw [this, str_list, join_nil]; exact hlen)
    rw [List.length_map] at h
    refine h.mono ?_
    rintro e w' ⟨rfl, hbw⟩
    refine ⟨_, rfl, ?_, hbw⟩
    rw [List.map_map]
    have : (xs.map ((fun s : ByteArray => s.data.toList) ∘ str)) = xs := by simp [str, Function.comp_def]
    rw [this, str_list, join_nil]; rfl) (fun v hv => ⟨hv, rfl⟩)
theorem sum_str (l : List UInt8) (hs : l.length ≤ 1099511627776) (Tg : TypeId) (zg : Nat × Nat) : DoesR Tryz.prog 28 #[.string (str l)] [[(0, .cells (kTab.map u32v).toArray Tg zg)]] (.string (str (sha l))) := by
  have := sum_spec (str l) (by rw [str_size]; exact hs) Tg zg
  rw [str_list] at this; exact this

theorem marked_in_spec (bk o cap bm : Nat) (cs : Array Value) (T Tm : TypeId) (z zm : Nat × Nat) (xs : List (List UInt8)) (m : List UInt8) (hc : CellsIn cs o (xs.map strV)) (hN : xs.length ≤ 140737488355328) (hcap : xs.length ≤ cap) (hlen : m.length + xs.flatten.length ≤ 1099511627776) (Tg : TypeId) (zg : Nat × Nat) :
    DoesR Tryz.prog 124 #[.slice (some ⟨bk, o, none⟩) xs.length cap, .pointer (some ⟨bm, 0, none⟩)] [[(bk, .cells cs T z)], [(bm, .cells #[strV m] Tm zm)], [(0, .cells (kTab.map u32v).toArray Tg zg)]] (.string (str (sha (m ++ xs.flatten)))) := by
 refine spec_enter func124 rfl ntmps124 rfl ?_
 intro u R
 unfold strV
 refine Zb [0, 1] ?_
 refine Zq <| Zg <| Za Y <| Z0 <| Zx <| Zq <| at_draw (n := 6) (0 :: 0 :: 2 :: 7 :: 15 :: 31 :: []) 20 (by kernel_rfl) (by kernel_rfl) rfl ?_
 refine Zj 1 0 rfl isAgg9 Y ?_
 refine Zi 3 1 rfl (p_move Y) <| Zz (l := [2]) ?_
 refine Zy 2 7 [0] [true] [(0, (_, _))] rfl Y rfl rfl rfl rfl (Zu [_, _] Y call125 Y rfl (join_spec bk o cap cs T z xs hc hN hcap (by omega))) ?hk_1 (fun _ _ h => h.elim) ?hl_1
 case hk_1 =>
  rintro _ _ ⟨rfl, rfl⟩
  refine ⟨Zk (keep_nil), ?_⟩
  (refine lin_v (D' := 15) 3 (p_add_str Y Y ?_) ?_; (focus (rw [str_size, str_size]; omega)))
  refine Zz (l := [4]) ?_
  refine Zy 15 31 [0] [false] [] rfl Y rfl rfl rfl rfl (Zu [_] Y call28 Y rfl ((str_app m xs.flatten) ▸ sum_str (m ++ xs.flatten) (by rw [List.length_append]; omega) Tg zg)) ?hk_2 (fun _ _ h => h.elim) ?hl_2
  case hk_2 =>
   rintro _ _ ⟨rfl, rfl⟩
   refine ⟨keep_nil, ?_⟩
   refine Zi 63 5 rfl (p_assign Y) <| lin_nil ?_
   refine Zx <| at_ret ?_
   refine nx_end1 rfl results124 Y (by exact ⟨rfl, rfl⟩)
  case hl_2 =>
   exact each_nil
 case hl_1 =>
  exact each_nil

theorem marked_spec (m : ByteArray) : Does Tryz.prog 105 #[.string m] [] (fun r H' => ∃ b, r = .func (.func 124) #[] #[.pointer (some ⟨b, 0, none⟩)] ∧ H' = [[(b, .cells #[.string m] 9 (0, 0))]]) := by
 refine spec_enter func105 rfl ntmps105 rfl ?_
 intro u R
 refine Zb [0] ?_
 refine Zq <| Zg <| Ze (w_box Y (cs := #[_]) rfl) ?_
 rintro _ _ ⟨b1, rfl, rfl⟩
 refine Za Y <| Z0 <| Zx <| Zq <| Zg <| Zv (p_makeFunc (vs := []) (us := [_]) Y Y) ?_
 refine Za Y <| Z0 <| Zx <| at_ret ?_
 refine nx_end1 rfl results105 Y (by exact ⟨_, rfl, rfl⟩)

end Go.Proofs.YtcbjoojdfelgaaaGreatDoor
