/-
  DERIVED: THE SHELF's CONTRACTS AT THIS DUMP, IN PLAIN WORDS (tools/lay-plain.mjs out of 'TryzShelf.lean', which tools/lay-shelf.mjs wrote): THE SAME DECLARATIONS UNDER THE SAME NAMES: 'import', 'namespace', 'open', 'def', 'theorem' AND NOTHING ELSE: no command of the shelf's: FOR A HAND-IN. Each laying: the table of numbers ('.._ren') and one theorem, a field a fact of the dump's own or the kernel's comparison; each contract: ONE APPLICATION.
-/
/- Contracts: digest.marked, Chain. -/
/- Contracts: wire.groups, PutInt, PutString. Contracts: wire.PutString, Int, String. -/
import Derived.Test.YtjeepldonhgohaaGreatDoorEz
import Derived.Shelf.Strings.Builder1
import Derived.Shelf.Strings.Builder2
import Derived.Shelf.Strings.OnBuilder
import Derived.Shelf.Small.Bits
import Derived.Shelf.Small.Wraps
import Derived.Shelf.Strings.BuilderF
import Derived.Shelf.Strconv.Itoa0
import Derived.Ground.Names2Prog
import Derived.Shelf.Slices.ReverseS
import Derived.Shelf.Slices.SearchI
import Derived.Shelf.Slices.Cells
import Derived.Test.YtjeepldonhgohaaGreatDoorProg
import Derived.Test.YtjeepldonhgohaaGreatDoorDg4

namespace Go.Proofs
open Go.Shelf
def Tryz.lays156_ren : Go.Shelf.Ren := ⟨fun | 156 => 122 | 165 => 140 | 166 => 141 | 169 => 142 | 240 => 155 | 241 => 156 | 276 => 163 | 277 => 164 | n => n, fun | 31 => 35 | 9 => 9 | 3 => 3 | 4 => 4 | 0 => 0 | 20 => 20 | 72 => 189 | 76 => 193 | 70 => 187 | 37 => 111 | 75 => 192 | 127 => 205 | 164 => 213 | 5 => 5 | 80 => 116 | n => n, fun | n => n⟩
theorem Tryz.lays156 : Go.Proofs.Lays.n156 Tryz.prog Tryz.lays156_ren := {
  mixed := by kernel_rfl
  f156 := func122.trans (congrArg some (by kernel_rfl))
  f165 := func140.trans (congrArg some (by kernel_rfl))
  f166 := func141.trans (congrArg some (by kernel_rfl))
  f169 := func142.trans (congrArg some (by kernel_rfl))
  f240 := func155.trans (congrArg some (by kernel_rfl))
  f241 := func156.trans (congrArg some (by kernel_rfl))
  f276 := func163.trans (congrArg some (by kernel_rfl))
  f277 := func164.trans (congrArg some (by kernel_rfl))
  t0 := underlying0
  a0 := isAgg0
  z0 := sizeOf0
  v0 := zeroValue0
  t3 := underlying3
  a3 := isAgg3
  z3 := sizeOf3
  v3 := zeroValue3
  t4 := underlying4
  a4 := isAgg4
  z4 := sizeOf4
  v4 := zeroValue4
  t9 := underlying9
  a9 := isAgg9
  z9 := sizeOf9
  v9 := zeroValue9
  t20 := underlying20
  a20 := isAgg20
  z20 := sizeOf20
  v20 := zeroValue20
  t31 := underlying35
  a31 := isAgg35
  z31 := sizeOf35
  v31 := zeroValue35
  t37 := underlying111
  a37 := isAgg111
  z37 := sizeOf111
  v37 := zeroValue111
  t70 := underlying187
  a70 := isAgg187
  z70 := sizeOf187
  v70 := zeroValue187
  t72 := underlying189
  a72 := isAgg189
  z72 := sizeOf189
  v72 := zeroValue189
  t75 := underlying192
  a75 := isAgg192
  z75 := sizeOf192
  v75 := zeroValue192
  t76 := underlying193
  a76 := isAgg193
  z76 := sizeOf193
  v76 := zeroValue193
  t127 := underlying205
  a127 := isAgg205
  z127 := sizeOf205
  v127 := zeroValue205
  t164 := underlying213
  a164 := isAgg213
  z164 := sizeOf213
  v164 := zeroValue213 }
theorem Tryz.Builder_Extra_156 : Builder.Extra Tryz.prog Tryz.lays156_ren := {
  sizeBuilder := by kernel_rfl
  liesBuilder := by kernel_rfl
  t5 := underlying5
  a5 := isAgg5
  z5 := sizeOf5
  v5 := zeroValue5
  infoByte := by kernel_rfl
  cellsByte := by kernel_rfl
  sizeByte := by kernel_rfl
  neB5 := by decide }
open Go.RowKit in
/-- strings.Join: "Join concatenates the elements of its first argument to create a single string. The separator string sep is placed between elements in the resulting string.": HOWEVER MANY ELEMENTS. Below the heap's end the world is as it was. (LAID: no walk: one application.) -/
theorem Tryz.strings_Join (bk o c : Nat) (xs : List ByteArray) (sep : ByteArray) (w : World) (hcells : ∀ (j : Nat) x, xs[j]? = some x → w.cell? ⟨bk, o + j, none⟩ = some (.string x)) (hbk : bk < w.heap.size) (hN : xs.length ≤ 140737488355328) (hcap : xs.length ≤ c) (hlen : (Lib.join (xs.map (·.data.toList)) sep.data.toList).length ≤ 140737488355328) :
    Calls Tryz.prog 122 #[.slice (some ⟨bk, o, none⟩) xs.length c, .string sep] w fun e w' => e = .returned (.string ⟨(Lib.join (xs.map (·.data.toList)) sep.data.toList).toArray⟩) ∧ Below w.heap.size w w' := Any.strings_Join Tryz.lays156 Tryz.Builder_Extra_156 bk o c xs sep w hcells hbk hN hcap hlen
def Tryz.lays125_ren : Go.Shelf.Ren := ⟨fun | 125 => 119 | 128 => 136 | 129 => 137 | n => n, fun | 46 => 135 | 3 => 3 | 51 => 108 | 53 => 134 | 4 => 4 | 5 => 5 | 9 => 9 | n => n, fun | n => n⟩
theorem Tryz.lays125 : Go.Proofs.Lays.n125 Tryz.prog Tryz.lays125_ren := {
  mixed := by kernel_rfl
  f125 := func119.trans (congrArg some (by kernel_rfl))
  f128 := func136.trans (congrArg some (by kernel_rfl))
  f129 := func137.trans (congrArg some (by kernel_rfl))
  t3 := underlying3
  a3 := isAgg3
  z3 := sizeOf3
  v3 := zeroValue3
  t4 := underlying4
  a4 := isAgg4
  z4 := sizeOf4
  v4 := zeroValue4
  t5 := underlying5
  a5 := isAgg5
  z5 := sizeOf5
  v5 := zeroValue5
  t9 := underlying9
  a9 := isAgg9
  z9 := sizeOf9
  v9 := zeroValue9
  t46 := underlying135
  a46 := isAgg135
  z46 := sizeOf135
  v46 := zeroValue135
  t51 := underlying108
  a51 := isAgg108
  z51 := sizeOf108
  v51 := zeroValue108
  t53 := underlying134
  a53 := isAgg134
  z53 := sizeOf134
  v53 := zeroValue134 }
/-- bits.Len: "Len returns the minimum number of bits required to represent x; the result is 0 for x == 0.": IT RETURNS 'Lib.bitLen x'; the world is as it was. (A uint has 64 bits in the model.) ITS CALLEE bits.Len64 IS MET BY ITS OWN CONTRACT OFF THE SHELF (lay that first). (LAID: no walk: one application.) -/
theorem Tryz.bits_Len (x : Int) (w : World) (h0 : 0 ≤ x) (h1 : x ≤ 18446744073709551615) :
    Calls Tryz.prog 119 #[.int .u64 x] w fun e w' => e = .returned (.int .i64 (Lib.bitLen x.toNat)) ∧ w' = w := Any.bits_Len Tryz.lays125 x w h0 h1
def Tryz.lays122_ren : Go.Shelf.Ren := ⟨fun | 122 => 107 | 215 => 129 | n => n, fun | 3 => 3 | 4 => 4 | n => n, fun | n => n⟩
theorem Tryz.lays122 : Go.Proofs.Lays.n122 Tryz.prog Tryz.lays122_ren := {
  mixed := by kernel_rfl
  f122 := func107.trans (congrArg some (by kernel_rfl))
  f215 := func129.trans (congrArg some (by kernel_rfl))
  t3 := underlying3
  a3 := isAgg3
  z3 := sizeOf3
  v3 := zeroValue3
  t4 := underlying4
  a4 := isAgg4
  z4 := sizeOf4
  v4 := zeroValue4 }
open Go.RowKit in
/-- cmp.Compare at int: "Compare returns -1 if x is less than y, 0 if x equals y, +1 if x is greater than y.": IT RETURNS 'Lib.compareInt x y'; the world is as it was. (LAID: no walk: one application.) -/
theorem Tryz.cmp_Compare_int (x y : Int) (w : World) :
    Calls Tryz.prog 107 #[.int .i64 x, .int .i64 y] w fun e w' => e = .returned (.int .i64 (Lib.compareInt x y)) ∧ w' = w := Any.cmp_Compare_int Tryz.lays122 x y w
def Tryz.laysNm217_ren : Go.Shelf.Ren := ⟨fun | 17 => 85 | n => n, fun | 24 => 35 | 9 => 9 | 3 => 3 | 4 => 4 | 0 => 0 | n => n, fun | n => n⟩
theorem Tryz.laysNm217 : Go.Proofs.Lays2.n17 Tryz.prog Tryz.laysNm217_ren := {
  mixed := by kernel_rfl
  f17 := func85.trans (congrArg some (by kernel_rfl))
  t0 := underlying0
  a0 := isAgg0
  z0 := sizeOf0
  v0 := zeroValue0
  t3 := underlying3
  a3 := isAgg3
  z3 := sizeOf3
  v3 := zeroValue3
  t4 := underlying4
  a4 := isAgg4
  z4 := sizeOf4
  v4 := zeroValue4
  t9 := underlying9
  a9 := isAgg9
  z9 := sizeOf9
  v9 := zeroValue9
  t24 := underlying35
  a24 := isAgg35
  z24 := sizeOf35
  v24 := zeroValue35 }
open Go.RowKit Go.Lib Go.Sort in
/-- slices.Reverse at []string: "Reverse reverses the elements of the slice in place.": THE SLICE's CELLS HOLD 'zs.reverse' BEHIND THE CALL; all else is as it was, but for the count of draws (the exchange 's[i], s[j] = s[j], s[i]' draws its order, once a round). IN THE WORDS OF slices.Sort's CONTRACT: 'Holds': the cells hold zs and none is frozen; 'putRow': the world with those cells holding another array. A slice of length 0 that is not nil is among them ('zs = []'); nil: '.._nil'. (LAID: no walk: one application.) -/
theorem Tryz.slices_Reverse_string (blk off cap : Nat) (zs : List (List UInt8)) (w : World) (hH : Holds encStr w blk off zs.toArray) (hsz : zs.length ≤ 9223372036854775807) :
    Calls Tryz.prog 85 #[.slice (some ⟨blk, off, none⟩) zs.length cap] w fun e w' => e = .returned (.tuple #[]) ∧ ∃ n, w' = putRow encStr (Sort.ahead w n) blk off zs.reverse.toArray := Any.slices_Reverse_string Tryz.laysNm217 blk off cap zs w hH hsz
open Go.RowKit Go.Lib Go.Sort in
/-- The same at a slice of length 0, a nil one too: nothing is read, nothing written, nothing drawn. (LAID: no walk: one application.) -/
theorem Tryz.slices_Reverse_string_empty (a : Option Addr) (cap : Nat) (w : World) :
    Calls Tryz.prog 85 #[.slice a 0 cap] w fun e w' => e = .returned (.tuple #[]) ∧ w' = w := Any.slices_Reverse_string_empty Tryz.laysNm217 a cap w
end Go.Proofs


namespace Go.Proofs.YtjeepldonhgohaaGreatDoor
open Go.Proofs.Tryz
open Go Go.RowKit Gw
set_option linter.unusedVariables false
set_option linter.unusedSimpArgs false
set_option maxRecDepth 100000
attribute [local irreducible] Gw.At Gw.Nx Gw.Ops
def strV (l : List UInt8) : Value := .string (str l)
theorem str_app (a b : List UInt8) : str a ++ str b = str (a ++ b) := by
  apply ByteArray.ext
  simp [str]
theorem str_size (a : List UInt8) : (str a).size = a.length := by simp [str, ByteArray.size]
theorem str_list (a : List UInt8) : (str a).data.toList = a := by simp [str]
theorem join_nil (xs : List (List UInt8)) : Lib.join xs [] = xs.flatten := by
  unfold Lib.join
  induction xs with
  | nil => rfl
  | cons x r ih => cases r with
    | nil => simp
    | cons y r => rw [List.intercalate_cons_cons] ; rw [ih]; simp
theorem cell_in {w : World} {b o : Nat} {c : Array Value} {T : TypeId} {z : Nat × Nat} {cs : List Value} (hb : w.heap[b]? = some (.cells c T z)) (h : CellsIn c o cs) (j : Nat) (v : Value) (hj : cs[j]? = some v) : w.cell? ⟨b, o + j, none⟩ = some v := by
  have := cells_at hb h j v hj
  rcases Nat.eq_zero_or_pos j with rfl | h0
  · simpa [Addr.add] using this
  · simpa [Addr.add, Nat.ne_of_gt h0] using this
theorem join_spec (bk o cap : Nat) (cs : Array Value) (T : TypeId) (z : Nat × Nat) (xs : List (List UInt8)) (hc : CellsIn cs o (xs.map strV)) (hN : xs.length ≤ 140737488355328) (hcap : xs.length ≤ cap) (hlen : xs.flatten.length ≤ 140737488355328) :
    DoesR Tryz.prog 122 #[.slice (some ⟨bk, o, none⟩) xs.length cap, .string (str [])] [[(bk, .cells cs T z)]] (.string (str xs.flatten)) :=
  spec_below (Rl := fun v => v = .string (str xs.flatten)) (fun w hw => by
    have hb := hw (bk, .cells cs T z) (by simp)
    have h := Tryz.strings_Join bk o cap (xs.map str) (str []) w (fun j x hx => by
      refine cell_in hb hc j _ ?_
      rw [List.getElem?_map] at hx ⊢
      cases h1 : xs[j]? with
      | none => rw [h1] at hx; cases hx
      | some y => rw [h1] at hx; cases hx; rfl) (by
        rcases Nat.lt_or_ge bk w.heap.size with h1 | h1
        · exact h1
        · rw [Array.getElem?_eq_none h1] at hb; cases hb) (by simpa using hN) (by simpa using hcap) (by
        rw [List.map_map]
        have : (xs.map ((fun s : ByteArray => s.data.toList) ∘ str)) = xs := by simp [str, Function.comp_def]
        rw [this, str_list, join_nil]; exact hlen)
    rw [List.length_map] at h
    refine h.mono ?_
    rintro e w' ⟨rfl, hbw⟩
    refine ⟨_, rfl, ?_, hbw⟩
    rw [List.map_map]
    have : (xs.map ((fun s : ByteArray => s.data.toList) ∘ str)) = xs := by simp [str, Function.comp_def]
    rw [this, str_list, join_nil]; rfl) (fun v hv => ⟨hv, rfl⟩)
theorem sum_str (l : List UInt8) (hs : l.length ≤ 1099511627776) (Tg : TypeId) (zg : Nat × Nat) : DoesR Tryz.prog 31 #[.string (str l)] [[(0, .cells (kTab.map u32v).toArray Tg zg)]] (.string (str (sha l))) := by
  have := sum_spec (str l) (by rw [str_size]; exact hs) Tg zg
  rw [str_list] at this; exact this

theorem marked_in_spec (bk o cap bm : Nat) (cs : Array Value) (T Tm : TypeId) (z zm : Nat × Nat) (xs : List (List UInt8)) (m : List UInt8) (hc : CellsIn cs o (xs.map strV)) (hN : xs.length ≤ 140737488355328) (hcap : xs.length ≤ cap) (hlen : m.length + xs.flatten.length ≤ 1099511627776) (Tg : TypeId) (zg : Nat × Nat) :
    DoesR Tryz.prog 121 #[.slice (some ⟨bk, o, none⟩) xs.length cap, .pointer (some ⟨bm, 0, none⟩)] [[(bk, .cells cs T z)], [(bm, .cells #[strV m] Tm zm)], [(0, .cells (kTab.map u32v).toArray Tg zg)]] (.string (str (sha (m ++ xs.flatten)))) := by
 refine spec_enter func121 rfl ntmps121 rfl ?_
 intro u R
 unfold strV
 refine Zb [0, 1] ?_
 refine Zq <| Zg <| Za Y <| Z0 <| Zx <| Zq <| at_draw (n := 6) (0 :: 0 :: 2 :: 7 :: 15 :: 31 :: []) 20 (by kernel_rfl) (by kernel_rfl) rfl ?_
 refine Zj 1 0 rfl isAgg9 Y ?_
 refine Zi 3 1 rfl (p_move Y) <| Zz (l := [2]) ?_
 refine Zy 2 7 [0] [true] [(0, (_, _))] rfl Y rfl rfl rfl rfl (Zu [_, _] Y call122 Y rfl (join_spec bk o cap cs T z xs hc hN hcap (by omega))) ?hk_1 (fun _ _ h => h.elim) ?hl_1
 case hk_1 =>
  rintro _ _ ⟨rfl, rfl⟩
  refine ⟨Zk (keep_nil), ?_⟩
  (refine lin_v (D' := 15) 3 (p_add_str Y Y ?_) ?_; (focus (rw [str_size, str_size]; omega)))
  refine Zz (l := [4]) ?_
  refine Zy 15 31 [0] [false] [] rfl Y rfl rfl rfl rfl (Zu [_] Y call31 Y rfl ((str_app m xs.flatten) ▸ sum_str (m ++ xs.flatten) (by rw [List.length_append]; omega) Tg zg)) ?hk_2 (fun _ _ h => h.elim) ?hl_2
  case hk_2 =>
   rintro _ _ ⟨rfl, rfl⟩
   refine ⟨keep_nil, ?_⟩
   refine Zi 63 5 rfl (p_assign Y) <| lin_nil ?_
   refine Zx <| at_ret ?_
   refine nx_end1 rfl results121 Y (by exact ⟨rfl, rfl⟩)
  case hl_2 =>
   exact each_nil
 case hl_1 =>
  exact each_nil

theorem marked_spec (m : ByteArray) : Does Tryz.prog 92 #[.string m] [] (fun r H' => ∃ b, r = .func (.func 121) #[] #[.pointer (some ⟨b, 0, none⟩)] ∧ H' = [[(b, .cells #[.string m] 9 (0, 0))]]) := by
 refine spec_enter func92 rfl ntmps92 rfl ?_
 intro u R
 refine Zb [0] ?_
 refine Zq <| Zg <| Ze (w_box Y (cs := #[_]) rfl) ?_
 rintro _ _ ⟨b1, rfl, rfl⟩
 refine Za Y <| Z0 <| Zx <| Zq <| Zg <| Zv (p_makeFunc (vs := []) (us := [_]) Y Y) ?_
 refine Za Y <| Z0 <| Zx <| at_ret ?_
 refine nx_end1 rfl results92 Y (by exact ⟨_, rfl, rfl⟩)

end Go.Proofs.YtjeepldonhgohaaGreatDoor

namespace Go.Proofs.YtjeepldonhgohaaGreatDoor
open Go.Proofs.Tryz
open Go Go.RowKit Gw
set_option linter.unusedVariables false
set_option linter.unusedSimpArgs false
set_option maxRecDepth 100000
attribute [local irreducible] Gw.At Gw.Nx Gw.Ops
/-- The groups of 7 bits of z, the least significant one first, and whether a group is the last one. -/
def grps (z : Nat) : List (Nat × Bool) := if h : z < 128 then [(z, true)] else (z % 128, false) :: grps (z / 128)
termination_by z
decreasing_by omega
theorem grps_eq (z : Nat) : grps z = (z % 128, decide (z < 128)) :: (if z < 128 then [] else grps (z / 128)) := by
  rw [grps]
  by_cases h : z < 128
  · simp [h, Nat.mod_eq_of_lt h]
  · simp [h]
theorem grps_lt (z : Nat) : ∀ x ∈ grps z, x.1 < 128 := by
  induction z using Nat.strongRecOn with
  | _ z ih =>
    intro x hx
    rw [grps_eq] at hx
    rcases List.mem_cons.1 hx with rfl | hx
    · exact Nat.mod_lt _ (by decide)
    · by_cases h : z < 128
      · rw [if_pos h] at hx; cases hx
      · rw [if_neg h] at hx; exact ih (z / 128) (by omega) x hx
theorem grps_len (z k : Nat) (h : z < 128 ^ (k + 1)) : (grps z).length ≤ k + 1 := by
  induction k generalizing z with
  | zero => rw [grps_eq, if_pos (by simpa using h)]; simp
  | succ k ih =>
    rw [grps_eq]
    by_cases h1 : z < 128
    · rw [if_pos h1]; simp
    · rw [if_neg h1, List.length_cons]
      have : z / 128 < 128 ^ (k + 1) := by
        rw [Nat.pow_succ] at h
        exact Nat.div_lt_of_lt_mul (by rw [Nat.mul_comm]; exact h)
      have := ih _ this
      omega
/-- A group as a byte. -/
def gb (x : Nat × Bool) : UInt8 := UInt8.ofNat (if x.2 then x.1 else x.1 + 128)
theorem gb_val (x : Nat × Bool) (h : x.1 < 128) : u8v (gb x) = .int .u8 ((if x.2 then x.1 else x.1 + 128 : Nat) : Int) := by
  unfold u8v gb
  rw [UInt8.toNat_ofNat', Nat.mod_eq_of_lt (by split <;> omega)]
def zz (n : Int) : Nat := (if n < 0 then -(2 * n) - 1 else 2 * n).toNat
/-- The encoding of an integer. -/
def encI (n : Int) : List UInt8 := (grps (zz n)).map gb
theorem zz_lt (n : Int) (h1 : -4611686018427387903 ≤ n) (h2 : n ≤ 4611686018427387903) : zz n < 9223372036854775808 := by unfold zz; split <;> omega
theorem encI_pos (n : Int) : 0 < (encI n).length := by unfold encI; rw [grps_eq]; simp
theorem encI_len (n : Int) (h1 : -4611686018427387903 ≤ n) (h2 : n ≤ 4611686018427387903) : (encI n).length ≤ 9 := by
  unfold encI
  rw [List.length_map]
  exact grps_len (zz n) 8 (by have := zz_lt n h1 h2; omega)
theorem and127 (y : Nat) (h : y < 18446744073709551616) : bits .and .u64 (y : Int) 127 = ((y % 128 : Nat) : Int) := by
  have := u64_and_nat y 127 h (by decide)
  rw [nat_mask7] at this; exact this
theorem or128 (g : Nat) (h : g < 128) : bits .or .u8 (g : Int) 128 = ((g + 128 : Nat) : Int) := by
  have := u8_or_nat g 128 (by omega) (by decide)
  rw [Nat.or_comm, nat_join 7 128 g (by decide) h, Nat.add_comm] at this; exact this
theorem xor_ones (a : Nat) (h : a < 18446744073709551616) : a ^^^ 18446744073709551615 = 18446744073709551615 - a := by
  have h1 : BitVec.ofNat 64 a ^^^ BitVec.allOnes 64 = ~~~ BitVec.ofNat 64 a := BitVec.xor_allOnes
  have h2 := congrArg BitVec.toNat h1
  rw [BitVec.toNat_xor, BitVec.toNat_not, BitVec.toNat_ofNat, Nat.mod_eq_of_lt h] at h2
  exact h2
theorem zz_xor (n : Int) (h1 : -4611686018427387903 ≤ n) (h2 : n ≤ 4611686018427387903) : bits .xor .u64 (IntKind.u64.wrap (IntKind.u64.wrap n * 2 ^ (1 : Int).toNat)) (IntKind.u64.wrap (n / 2 ^ (63 : Int).toNat)) = (zz n : Int) := by
  rw [IntKind.wrap_u64, IntKind.wrap_u64, IntKind.wrap_u64]
  rw [show (2 : Int) ^ (1 : Int).toNat = 2 from rfl, show (2 : Int) ^ (63 : Int).toNat = 9223372036854775808 from rfl]
  by_cases h : n < 0
  · obtain ⟨m, hm⟩ : ∃ m : Nat, n = -(m : Int) := ⟨n.natAbs, by omega⟩
    have e1 : n % 18446744073709551616 * 2 % 18446744073709551616 = ((18446744073709551616 - 2 * m : Nat) : Int) := by omega
    have e2 : n / 9223372036854775808 % 18446744073709551616 = ((18446744073709551615 : Nat) : Int) := by omega
    rw [e1, e2, u64_xor_nat _ _ (by omega) (by omega), xor_ones _ (by omega)]
    unfold zz; rw [if_pos h]; omega
  · obtain ⟨m, hm⟩ : ∃ m : Nat, n = (m : Int) := ⟨n.natAbs, by omega⟩
    have e1 : n % 18446744073709551616 * 2 % 18446744073709551616 = ((2 * m : Nat) : Int) := by omega
    have e2 : n / 9223372036854775808 % 18446744073709551616 = ((0 : Nat) : Int) := by omega
    rw [e1, e2, u64_xor_nat _ _ (by omega) (by omega), Nat.xor_zero]
    unfold zz; rw [if_neg h]; omega
theorem at_nil {P : Program} {cx : Cx} {c : Code} {Q : Exit → Act → World → Prop} {env : Env} {H : Hp} (h : At P cx c Q env ([] :: H)) : At P cx c Q env H := at_flat (H' := [] :: H) rfl h
theorem mem_split {α : Type} {l pre post : List α} {x : α} (h : l = pre ++ x :: post) : x ∈ l := by rw [h]; simp

theorem groups_iter (bz z : Nat) (hz : z < 18446744073709551616) :
    IterSpec Tryz.prog 123 #[.pointer (some ⟨bz, 0, none⟩)] [[(bz, .cells #[.int .u64 (z : Int)] 134 (0, 0))]] (fun x => #[.int .u8 (x.1 : Int), .bool x.2]) (grps z) := by
 intro l J hy s hJ
 refine spec_enter func123 rfl ntmps123 rfl ?_
 intro u R
 refine Zb [0, 1] ?_
 refine at_block <| Zb [0, 1] ?_
 refine at_loopB (e0 := []) (H0 := _) (n := _) (fun m e H => ∃ (pre : List (Nat × Bool)) (y : Nat) (s : List Chunk), m = 0 + y ∧ (grps z = pre ++ grps y ∧ y < 18446744073709551616 ∧ J pre s) ∧ e = [] ∧ H = [[(bz, .cells #[.int .u64 (y : Int)] 134 (0, 0))], s]) (by exact ⟨[], z, s, rfl, ⟨rfl, hz, hJ⟩, rfl, rfl⟩) (by repeat (first | exact Pull.nil _ | (apply Pull.cons; (focus (repeat (first | exact One.here _ _ | apply One.there)))))) ?_
 rintro _ _ _ ⟨pre, y, s, rfl, ⟨hsp, hy64, hJ⟩, rfl, rfl⟩
 refine at_block <| Zq <| Zg <| Zl isAgg134 Y ?_
 refine Zv (p_lss_nat (n := 128) Y Y) <| Za Y <| Z0 <| Zx <| Zq <| Zq ?_
 have hyk := hy pre (y % 128, decide (y < 128)) (if y < 128 then [] else grps (y / 128)) s (by rw [hsp, ← grps_eq]) hJ
 refine Zg <| Zm Y <| Zl isAgg134 Y ?_
 refine op_w (p_and (m := (y : Int)) (n := 127) Y Y (and127 y hy64)) rfl rfl ?_
 (refine op_v (p_conv_nat_u8 underlying134 underlying5 Y ?_) ?_; (focus (omega)))
 refine Zm Y <| Ze (w_yield (vs := [_, _]) Y Y (hyk) (by repeat (first | exact Pull.nil _ | (apply Pull.cons; (focus (repeat (first | exact One.here _ _ | apply One.there))))))) ?_
 rintro _ _ ⟨_, ⟨s', rfl, rfl, hJ'⟩, rfl⟩
 refine Zv (p_not Y) <| Zm Y ?_
 refine ops_split_bool (t := 13) Y rfl (fun hb => ?_) (fun hb => ?_)
 ·
  cases hb
 ·
  refine Zf Y Y <| Zv (p_pick_f Y Y) <| Z0 <| Zn [0, 1, 15] ?_
  refine Zx ?_
  refine at_if Y (fun hl => ?_) (fun hl => ?_)
  ·
   refine at_ret <| Zt <| nx_block_ret <| Zt <| nx_block_ret ?_
   refine nx_end0 rfl results123 (by
         exact ⟨s', rfl, by
           have e : grps z = pre ++ [(y % 128, decide (y < 128))] := by rw [hsp, grps_eq y, if_pos hl]
           rw [e]; exact hJ'⟩)
  ·
   refine at_skip <| Zx <| Zg <| Zl isAgg134 Y ?_
   (refine op_v (p_shr_nat (n := 7) Y Y ?_) ?_; (focus (first | decide | (simp [IntKind.bits]; done) | (simp [IntKind.bits]; omega))))
   refine Ze (Zs sizeOf134 Y Y rfl) ?_
   rintro _ _ ⟨rfl, rfl⟩
   refine Z0 <| nx_block_normal <| Zn [0, 1] ?_
   refine nx_againB (e' := []) (m := _) (H' := _) (by exact ⟨pre ++ [(y % 128, decide (y < 128))], y / 2 ^ 7, s', rfl, ⟨by rw [hsp, grps_eq y, if_neg hl]; simp, by omega, hJ'⟩, rfl, rfl⟩)

theorem groups_spec (z : Int) : Does Tryz.prog 94 #[.int .u64 z] [] (fun r H' => ∃ b, r = .func (.func 123) #[] #[.pointer (some ⟨b, 0, none⟩)] ∧ H' = [[(b, .cells #[.int .u64 z] 134 (0, 0))]]) := by
 refine spec_enter func94 rfl ntmps94 rfl ?_
 intro u R
 refine Zb [0] ?_
 refine Zq <| Zg <| Ze (w_box Y (cs := #[_]) rfl) ?_
 rintro _ _ ⟨b1, rfl, rfl⟩
 refine Za Y <| Z0 <| Zx <| Zq <| Zg <| Zv (p_makeFunc (vs := []) (us := [_]) Y Y) ?_
 refine Za Y <| Z0 <| Zx <| at_ret ?_
 refine nx_end1 rfl results94 Y (by exact ⟨_, rfl, rfl⟩)

theorem putInt_spec (n : Int) (h1 : -4611686018427387903 ≤ n) (h2 : n ≤ 4611686018427387903) : DoesR Tryz.prog 61 #[.int .i64 n] [] (.tuple #[.string (str (encI n)), .int .i64 0]) := by
 have hml : maxLen = 9223372036854775807 := rfl
 have hzl := zz_lt n h1 h2
 have hgl := encI_len n h1 h2
 unfold encI at hgl
 rw [List.length_map] at hgl
 refine spec_enterM func61 rfl ntmps61 rfl ?_
 intro u R
 refine Zb [0] ?_
 refine Zq <| Zg <| Za Y <| Za Y <| Z0 <| Zx <| Zq <| Zq <| Zg <| Zm Y <| Zv (p_lss Y Y) <| Zm Y ?_
 refine ops_split (t := 9) Y rfl (fun hc1 => ?_) (fun hc1 => ?_)
 ·
  exfalso; omega
 ·
  refine Zf Y Y <| Yg (p_gtr Y Y) <| Zv (p_pick_f Y Y) <| Z0 <| Zx ?_
  refine at_if Y (fun hc2 => ?_) (fun hc2 => ?_)
  ·
   exfalso; omega
  ·
   refine at_skip <| Zx <| Zq <| Zg <| Ze (w_alloc zeroValue111 (cs := #[_]) rfl) ?_
   rintro _ _ ⟨bo, rfl, rfl⟩
   refine Z0 <| Zx <| Zq <| Zq <| Zg <| Zm Y <| Zv (p_conv_int underlying3 underlying134 Y rfl) ?_
   (refine op_v (p_shl Y Y ?_ ?_ rfl) ?_; (focus (first | decide | omega | (simp [IntKind.bits]; done) | (simp [IntKind.bits]; omega))); (focus (first | decide | omega | (simp [IntKind.bits]; done) | (simp [IntKind.bits]; omega))))
   refine Zm Y ?_
   (refine op_v (p_shr Y Y ?_ ?_ rfl) ?_; (focus (first | decide | omega | (simp [IntKind.bits]; done) | (simp [IntKind.bits]; omega))); (focus (first | decide | omega | (simp [IntKind.bits]; done) | (simp [IntKind.bits]; omega))))
   refine Zv (p_conv_int underlying3 underlying134 Y rfl) <| op_w (p_xor Y Y (zz_xor n h1 h2)) rfl rfl ?_
   refine Zc [_] Y call94 Y rfl (groups_spec _) ?_
   rintro _ _ ⟨_, ⟨bz, rfl, rfl⟩, rfl⟩
   refine Z0 <| Zn [4, 20] ?_
   refine Zx <| at_block <| Zb [4, 20] ?_
   refine at_nil ?_
   refine at_rangeAll (H0 := _) (R := _) (I := (fun pre H => ∃ v s, H = [[(bo, .cells #[v] 111 (0, 0))], s] ∧ Row 5 v ((pre.map gb).map u8v) s)) (asg := fun x => [(6, .bool x.2), (5, .int .u8 (x.1 : Int)), (22, .bool x.2), (21, .int .u8 (x.1 : Int))]) rfl Y call123 (groups_iter bz (zz n) (by omega)) Y rfl (by repeat (first | exact Pull.nil _ | (apply Pull.cons; (focus (repeat (first | exact One.here _ _ | apply One.there)))))) (⟨_, [], rfl, row_nil _⟩) ?ha_2 ?hbd_2 ?hk_2
   case ha_2 =>
    intro _ x _ _
    refine Zq <| Zg <| Za Y <| Z0 <| Zx <| Zg <| Za Y <| Z0 ?_
    exact nx_is
   case hbd_2 =>
    intro l pre x post u H1 R1 hxs hI
    obtain ⟨v, s, rfl, hr⟩ := hI
    have hx1 := grps_lt _ x (mem_split hxs)
    have hgv := gb_val x hx1
    have hpl := congrArg List.length hxs
    rw [List.length_append, List.length_cons] at hpl
    obtain ⟨gv, cv, rfl⟩ := hr.form
    refine at_block <| Zq <| Zq <| Zg <| Zm Y <| Zv (p_not Y) <| Z0 <| Zx ?_
    refine at_if_bool Y (fun hc5 => ?_) (fun hc5 => ?_)
    ·
     have hxb : x.2 = false := by simpa using hc5
     refine Zg <| Zm Y <| op_w (p_or (m := (x.1 : Int)) (n := 128) Y Y (or128 x.1 hx1)) rfl rfl ?_
     refine Za Y <| Z0 <| Zx <| Zg <| Zl isAgg111 Y ?_
     refine Zm Y <| Ze (w_buildSlice (vs := [_]) (cs := [_]) underlying111 sizeOf5 zeroValue5 Y rfl rfl rfl rfl rfl) ?_
     rintro _ _ ⟨b2, rfl, rfl⟩
     refine Ze (w_append (by_ := 1) (news := [_]) underlying111 (rfl : Tryz.prog.info? 5 = some Tryz.t5) rfl rfl rfl rfl Y hr Y (by repeat (first | exact One.here _ _ | apply One.there)) (by repeat (first | exact Has.here _ | apply Has.there)) (by rfl) rfl (by simp [Value.oneCell']) (by decide) (by (simp only [List.length_map]; omega)) (by (simp only [List.length_map]; omega))) ?_
     rintro _ _ ⟨sb, hrb, rfl⟩
     obtain ⟨gb, cb, rfl⟩ := hrb.form
     refine Ze (Zs sizeOf111 Y Y rfl) ?_
     rintro _ _ ⟨rfl, rfl⟩
     refine Z0 <| nx_block_normal ?_
     refine nx_round (H' := _) rfl (by
           exact ⟨_, _, rfl, by
             rw [List.map_append, List.map_append, List.map_singleton, List.map_singleton, hgv, hxb]; exact hrb⟩)
    ·
     have hxb : x.2 = true := by simpa using hc5
     refine at_skip <| Zx <| Zg <| Zl isAgg111 Y ?_
     refine Zm Y <| Ze (w_buildSlice (vs := [_]) (cs := [_]) underlying111 sizeOf5 zeroValue5 Y rfl rfl rfl rfl rfl) ?_
     rintro _ _ ⟨b4, rfl, rfl⟩
     refine Ze (w_append (by_ := 1) (news := [_]) underlying111 (rfl : Tryz.prog.info? 5 = some Tryz.t5) rfl rfl rfl rfl Y hr Y (by repeat (first | exact One.here _ _ | apply One.there)) (by repeat (first | exact Has.here _ | apply Has.there)) (by rfl) rfl (by simp [Value.oneCell']) (by decide) (by (simp only [List.length_map]; omega)) (by (simp only [List.length_map]; omega))) ?_
     rintro _ _ ⟨sb, hrb, rfl⟩
     obtain ⟨gb, cb, rfl⟩ := hrb.form
     refine Ze (Zs sizeOf111 Y Y rfl) ?_
     rintro _ _ ⟨rfl, rfl⟩
     refine Z0 <| nx_block_normal ?_
     refine nx_round (H' := _) rfl (by
           exact ⟨_, _, rfl, by
             rw [List.map_append, List.map_append, List.map_singleton, List.map_singleton, hgv, hxb]; exact hrb⟩)
   case hk_2 =>
    intro D1 H2 hI2
    obtain ⟨v, s, rfl, hr⟩ := hI2
    have hep := encI_pos n
    unfold encI at hep
    obtain ⟨gv, cv, cur, zv, rfl, rfl, hle, hcm, hcs, htk, hfr⟩ := hr.some (by rw [List.length_map]; exact hep)
    refine Zn [4] ?_
    refine nx_block_normal <| Zx <| Zq <| Zg <| Zl isAgg111 Y ?_
    refine Zo (by repeat (first | exact Has.here _ | apply Has.there)) (p_conv_bytes_str underlying111 underlying5 underlying9 Y (by exact ⟨htk, by simp⟩)) ?_
    refine Za Y <| Za Y <| Z0 <| Zx <| at_ret ?_
    refine nx_endM1 rfl (res2 results61 Y Y) (by repeat (first | exact One.here _ _ | apply One.there)) (by exact ⟨rfl, rfl⟩)

end Go.Proofs.YtjeepldonhgohaaGreatDoor
