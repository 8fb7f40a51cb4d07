/- Arguments of four integers. -/
/- Arguments of five integers. -/
/- The law LeaseAgrees, as its card wants it. -/
import Derived.Test.YtkgmgmkbgnkdnaaGreatDoorEz
import Derived.Test.YtkgmgmkbgnkdnaaGreatDoorTk1
import Derived.Test.YtkgmgmkbgnkdnaaGreatDoorLa2
namespace Go.Proofs.YtkgmgmkbgnkdnaaGreatDoor
open Go.Proofs.Tryz
open Go Go.RowKit Gw
set_option linter.unusedVariables false
set_option linter.unusedSimpArgs false
set_option maxRecDepth 100000
attribute [local irreducible] Gw.At Gw.Nx Gw.Ops
open Go.ChangeShapes Go.WideShapes Go.Deep
theorem okWide_arr {P : Program} {w : World} {r : Reach} {base n : Nat} {t e : TypeId} {v : Value} (hu : P.underlying t = some (.array n e)) (h : Value.okWide P w r base t v) : ∃ cs, v = .agg cs ∧ cs.size = P.cellsOf t := by
  unfold Value.okWide at h
  rw [hu] at h
  obtain ⟨cs, rfl, h1, _⟩ := h
  exact ⟨cs, rfl, h1⟩
end Go.Proofs.YtkgmgmkbgnkdnaaGreatDoor

namespace Go.Proofs.YtkgmgmkbgnkdnaaGreatDoor
open Go.Proofs.Tryz
open Go Go.RowKit Gw
set_option linter.unusedVariables false
set_option linter.unusedSimpArgs false
set_option maxRecDepth 100000
attribute [local irreducible] Gw.At Gw.Nx Gw.Ops
open Go.ChangeShapes Go.WideShapes Go.Deep
theorem cFive : Tryz.prog.cellsOf 23 = 5 := by kernel_rfl
theorem list_five {l : List Value} (h : l.length = 5) : ∃ a b c d e, l = [a, b, c, d, e] := by
  match l, h with
  | [a, b, c, d, e], _ => exact ⟨a, b, c, d, e, rfl⟩
theorem open_arr5 {H : Type} {enc : TypeId × Value → H} {W : World} {base : Nat} {held : Bool} {fuel : Nat} {l : List Value} {x : DataW H × List MemPlace} (h : DataW.trod enc Tryz.prog W base (fun _ => true) held fuel 23 l = some x) (hl : l.length = 5) :
    ∃ a b c d e : Int, l = [.int .i64 a, .int .i64 b, .int .i64 c, .int .i64 d, .int .i64 e] ∧ (-9223372036854775808 ≤ a ∧ a ≤ 9223372036854775807) ∧ (-9223372036854775808 ≤ b ∧ b ≤ 9223372036854775807) ∧ (-9223372036854775808 ≤ c ∧ c ≤ 9223372036854775807) ∧ (-9223372036854775808 ≤ d ∧ d ≤ 9223372036854775807) ∧ (-9223372036854775808 ≤ e ∧ e ≤ 9223372036854775807) := by
  obtain ⟨ys, m, _, _, _, hyl, hf⟩ := DataW.trod_array underlying23 h
  have hj : ∀ j, j < 5 → ∃ n : Int, l[j]? = some (.int .i64 n) ∧ -9223372036854775808 ≤ n ∧ n ≤ 9223372036854775807 := fun j hj => by
    have f := hf j hj
    rw [cInt, Nat.mul_one, List.getElem?_eq_getElem (by omega)] at f
    have hj2 : j < l.length := by omega
    have e : (l.drop j).take 1 = [l[j]] := by rw [List.drop_eq_getElem_cons hj2]; rfl
    rw [e] at f
    obtain ⟨k, hk, _, hkw⟩ := DataW.trod_int underlying3 f
    injection hk with hk _
    exact ⟨k, by rw [List.getElem?_eq_getElem hj2, hk], bounds_i64 hkw⟩
  obtain ⟨v0, v1, v2, v3, v4, rfl⟩ := list_five hl
  obtain ⟨a, ha, ha2⟩ := hj 0 (by decide)
  obtain ⟨b, hb, hb2⟩ := hj 1 (by decide)
  obtain ⟨c, hc, hc2⟩ := hj 2 (by decide)
  obtain ⟨d, hd, hd2⟩ := hj 3 (by decide)
  obtain ⟨e, he, he2⟩ := hj 4 (by decide)
  simp at ha hb hc hd he
  subst ha hb hc hd he
  exact ⟨a, b, c, d, e, rfl, ha2, hb2, hc2, hd2, he2⟩

end Go.Proofs.YtkgmgmkbgnkdnaaGreatDoor


namespace Go.Proofs.YtkgmgmkbgnkdnaaGreatDoor
open Go.Proofs.Tryz
open Go Go.RowKit Gw
set_option linter.unusedVariables false
set_option linter.unusedSimpArgs false
set_option maxRecDepth 100000
attribute [local irreducible] Gw.At Gw.Nx Gw.Ops
theorem agrees_card (p : Option Addr) (cap : Nat) (ys : List (List Int)) (M : List Chunk) (hX : SixIn M (.slice p ys.length cap) ys) (a b c d e : Int) (ha : -9223372036854775808 ≤ a ∧ a ≤ 9223372036854775807) (hb : -9223372036854775808 ≤ b ∧ b ≤ 9223372036854775807) (hc : -9223372036854775808 ≤ c ∧ c ≤ 9223372036854775807) (hd : -9223372036854775808 ≤ d ∧ d ≤ 9223372036854775807) (he : -9223372036854775808 ≤ e ∧ e ≤ 9223372036854775807) (x : Int) (x1 : -9223372036854775808 ≤ x) (x2 : x ≤ 9223372036854775807) (y : Int) (y1 : -9223372036854775808 ≤ y) (y2 : y ≤ 9223372036854775807) (z : Int) (z1 : -9223372036854775808 ≤ z) (z2 : z ≤ 9223372036854775807) (Tg : TypeId) (zg : Nat × Nat) :
    DoesR Tryz.prog 3 #[.slice p ys.length cap, .agg #[.int .i64 a, .int .i64 b, .int .i64 c, .int .i64 d, .int .i64 e], .int .i64 x, .int .i64 y, .int .i64 z] [[(1, .cells (kTab.map u32v).toArray Tg zg)], M] (.bool true) :=
  agrees_law hX a b c d e x y z ha.1 ha.2 hb.1 hb.2 hc.1 hc.2 hd.1 hd.2 he.1 he.2 x1 x2 y1 y2 z1 z2 Tg zg

end Go.Proofs.YtkgmgmkbgnkdnaaGreatDoor
