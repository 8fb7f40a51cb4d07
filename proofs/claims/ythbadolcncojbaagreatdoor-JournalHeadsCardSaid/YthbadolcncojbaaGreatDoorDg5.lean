/- Contracts: digest.marked, Chain. -/
import Derived.Test.YthbadolcncojbaaGreatDoorEz
import Derived.Test.YthbadolcncojbaaGreatDoorDg4
import Derived.Test.YthbadolcncojbaaGreatDoorShelf

namespace Go.Proofs.YthbadolcncojbaaGreatDoor
open Go.Proofs.Tryz
open Go Go.RowKit Gw
set_option linter.unusedVariables false
set_option linter.unusedSimpArgs false
set_option maxRecDepth 100000
attribute [local irreducible] Gw.At Gw.Nx Gw.Ops
def strV (l : List UInt8) : Value := .string (str l)
theorem str_app (a b : List UInt8) : str a ++ str b = str (a ++ b) := by
  apply ByteArray.ext
  simp [str]
theorem str_size (a : List UInt8) : (str a).size = a.length := by simp [str, ByteArray.size]
theorem str_list (a : List UInt8) : (str a).data.toList = a := by simp [str]
theorem join_nil (xs : List (List UInt8)) : Lib.join xs [] = xs.flatten := by
  unfold Lib.join
  induction xs with
  | nil => rfl
  | cons x r ih => cases r with
    | nil => simp
    | cons y r => rw [List.intercalate_cons_cons] ; rw [ih]; simp
theorem cell_in {w : World} {b o : Nat} {c : Array Value} {T : TypeId} {z : Nat × Nat} {cs : List Value} (hb : w.heap[b]? = some (.cells c T z)) (h : CellsIn c o cs) (j : Nat) (v : Value) (hj : cs[j]? = some v) : w.cell? ⟨b, o + j, none⟩ = some v := by
  have := cells_at hb h j v hj
  rcases Nat.eq_zero_or_pos j with rfl | h0
  · simpa [Addr.add] using this
  · simpa [Addr.add, Nat.ne_of_gt h0] using this
theorem join_spec (bk o cap : Nat) (cs : Array Value) (T : TypeId) (z : Nat × Nat) (xs : List (List UInt8)) (hc : CellsIn cs o (xs.map strV)) (hN : xs.length ≤ 140737488355328) (hcap : xs.length ≤ cap) (hlen : xs.flatten.length ≤ 140737488355328) :
    DoesR Tryz.prog 172 #[.slice (some ⟨bk, o, none⟩) xs.length cap, .string (str [])] [[(bk, .cells cs T z)]] (.string (str xs.flatten)) :=
  spec_below (Rl := fun v => v = .string (str xs.flatten)) (fun w hw => by
    have hb := hw (bk, .cells cs T z) (by simp)
    have h := Tryz.strings_Join bk o cap (xs.map str) (str []) w (fun j x hx => by
      refine cell_in hb hc j _ ?_
      rw [List.getElem?_map] at hx ⊢
      cases h1 : xs[j]? with
      | none => rw [h1] at hx; cases hx
      | some y => rw [h1] at hx; cases hx; rfl) (by
        rcases Nat.lt_or_ge bk w.heap.size with h1 | h1
        · exact h1
        · rw [Array.getElem?_eq_none h1] at hb; cases hb) (by simpa using hN) (by simpa using hcap) (by
        rw [List.map_map]
        have : (xs.map ((fun s : ByteArray => s.data.toList) ∘ str)) = xs := by simp [str, Function.comp_def]
        rw [this, str_list, join_nil]; exact hlen)
    rw [List.length_map] at h
    refine h.mono ?_
    rintro e w' ⟨rfl, hbw⟩
    refine ⟨_, rfl, ?_, hbw⟩
    rw [List.map_map]
    have : (xs.map ((fun s : ByteArray => s.data.toList) ∘ str)) = xs := by simp [str, Function.comp_def]
    rw [this, str_list, join_nil]; rfl) (fun v hv => ⟨hv, rfl⟩)
def chainS (head rec : List UInt8) : List UInt8 := sha (2 :: head ++ rec)
theorem sum_str (l : List UInt8) (hs : l.length ≤ 1099511627776) (Tg : TypeId) (zg : Nat × Nat) : DoesR Tryz.prog 171 #[.string (str l)] [[(4, .cells (kTab.map u32v).toArray Tg zg)]] (.string (str (sha l))) := by
  have := sum_spec (str l) (by rw [str_size]; exact hs) Tg zg
  rw [str_list] at this; exact this

theorem marked_in_spec (bk o cap bm : Nat) (cs : Array Value) (T Tm : TypeId) (z zm : Nat × Nat) (xs : List (List UInt8)) (m : List UInt8) (hc : CellsIn cs o (xs.map strV)) (hN : xs.length ≤ 140737488355328) (hcap : xs.length ≤ cap) (hlen : m.length + xs.flatten.length ≤ 1099511627776) (Tg : TypeId) (zg : Nat × Nat) :
    DoesR Tryz.prog 170 #[.slice (some ⟨bk, o, none⟩) xs.length cap, .pointer (some ⟨bm, 0, none⟩)] [[(bk, .cells cs T z)], [(bm, .cells #[strV m] Tm zm)], [(4, .cells (kTab.map u32v).toArray Tg zg)]] (.string (str (sha (m ++ xs.flatten)))) := by
 refine spec_enter func170 rfl ntmps170 rfl ?_
 intro u R
 unfold strV
 refine Zb [0, 1] ?_
 refine Zq <| Zg <| Za Y <| Z0 <| Zx <| Zq <| at_draw (n := 6) (0 :: 0 :: 2 :: 7 :: 15 :: 31 :: []) 20 (by kernel_rfl) (by kernel_rfl) rfl ?_
 refine Zj 1 0 rfl isAgg9 Y ?_
 refine Zi 3 1 rfl (p_move Y) <| Zz (l := [2]) ?_
 refine Zy 2 7 [0] [true] [(0, (_, _))] rfl Y rfl rfl rfl rfl (Zu [_, _] Y call172 Y rfl (join_spec bk o cap cs T z xs hc hN hcap (by omega))) ?hk_1 (fun _ _ h => h.elim) ?hl_1
 case hk_1 =>
  rintro _ _ ⟨rfl, rfl⟩
  refine ⟨Zk (keep_nil), ?_⟩
  (refine lin_v (D' := 15) 3 (p_add_str Y Y ?_) ?_; (focus (rw [str_size, str_size]; omega)))
  refine Zz (l := [4]) ?_
  refine Zy 15 31 [0] [false] [] rfl Y rfl rfl rfl rfl (Zu [_] Y call171 Y rfl ((str_app m xs.flatten) ▸ sum_str (m ++ xs.flatten) (by rw [List.length_append]; omega) Tg zg)) ?hk_2 (fun _ _ h => h.elim) ?hl_2
  case hk_2 =>
   rintro _ _ ⟨rfl, rfl⟩
   refine ⟨keep_nil, ?_⟩
   refine Zi 63 5 rfl (p_assign Y) <| lin_nil ?_
   refine Zx <| at_ret ?_
   refine nx_end1 rfl results170 Y (by exact ⟨rfl, rfl⟩)
  case hl_2 =>
   exact each_nil
 case hl_1 =>
  exact each_nil

theorem marked_spec (m : ByteArray) : Does Tryz.prog 153 #[.string m] [] (fun r H' => ∃ b, r = .func (.func 170) #[] #[.pointer (some ⟨b, 0, none⟩)] ∧ H' = [[(b, .cells #[.string m] 9 (0, 0))]]) := by
 refine spec_enter func153 rfl ntmps153 rfl ?_
 intro u R
 refine Zb [0] ?_
 refine Zq <| Zg <| Ze (w_box Y (cs := #[_]) rfl) ?_
 rintro _ _ ⟨b1, rfl, rfl⟩
 refine Za Y <| Z0 <| Zx <| Zq <| Zg <| Zv (p_makeFunc (vs := []) (us := [_]) Y Y) ?_
 refine Za Y <| Z0 <| Zx <| at_ret ?_
 refine nx_end1 rfl results153 Y (by exact ⟨_, rfl, rfl⟩)

theorem chain_spec (h r : List UInt8) (hlen : h.length + r.length ≤ 1099511627775) (Tg : TypeId) (zg : Nat × Nat) :
    DoesR Tryz.prog 110 #[.string (str h), .string (str r)] [[(4, .cells (kTab.map u32v).toArray Tg zg)]] (.string (str (chainS h r))) := by
 refine spec_enter func110 rfl ntmps110 rfl ?_
 intro u R
 refine Zb [0, 1] ?_
 refine Zq <| Zg <| Za Y <| Z0 <| Zx <| Zq <| Zg <| Zc [_] Y call153 Y rfl (marked_spec _) ?_
 rintro _ _ ⟨_, ⟨bm, rfl, rfl⟩, rfl⟩
 refine Zm Y <| Zm Y <| Ze (w_buildSlice (vs := [_, _]) (cs := [_, _]) underlying43 sizeOf9 zeroValue9 Y rfl rfl rfl rfl rfl) ?_
 rintro _ _ ⟨bk, rfl, rfl⟩
 refine Zr [_] Y call170 Y rfl (marked_in_spec bk 0 2 bm #[strV h, strV r] _ _ _ _ [h, r] [2] rfl (by simp) (by simp) (by simp; omega) _ _) ?_
 rintro _ _ ⟨rfl, rfl⟩
 refine Za Y <| Z0 <| Zx <| at_ret ?_
 refine nx_end1 rfl results110 Y (by exact ⟨by simp [chainS], rfl⟩)

end Go.Proofs.YthbadolcncojbaaGreatDoor
