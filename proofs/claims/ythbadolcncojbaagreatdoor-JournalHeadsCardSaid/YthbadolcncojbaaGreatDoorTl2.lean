/- What the rows list and what the arguments read as, in chunks. What the listed variables give; arguments beside them. -/
import Derived.Test.YthbadolcncojbaaGreatDoorEz
import Derived.Test.YthbadolcncojbaaGreatDoorSn2
import Derived.Test.YthbadolcncojbaaGreatDoorEx11
import Derived.ProofKit
import Derived.OpenShut
import Derived.ChangeOld
import Derived.Deep.Slices
import Derived.SliceStrings
import Derived.Lib.LaidTab
import Derived.Stop.LaidErr
import Derived.Test.YthbadolcncojbaaGreatDoorRows

namespace Go.Proofs.YthbadolcncojbaaGreatDoor
open Go.Proofs.Tryz
open Go Go.RowKit Gw
set_option linter.unusedVariables false
set_option linter.unusedSimpArgs false
set_option maxRecDepth 100000
attribute [local irreducible] Gw.At Gw.Nx Gw.Ops
open Go.ChangeShapes Go.WideShapes Go.Deep
theorem adr0 (ad : Addr) : ad.add 0 = ad := by simp [Addr.add]
theorem adr_spot {w : World} {a : Addr} {v : Value} (h : w.cell? a = some v) : a = ⟨a.block, a.off, none⟩ := by
  cases a with | mk b o s =>
  cases s with
  | none => rfl
  | some s =>
    simp only [World.cell?] at h
    split at h <;> simp at h
theorem cell_heap {w : World} {g i : Nat} {v : Value} (h : w.cell? ⟨g, i, none⟩ = some v) : ∃ cur T z, w.heap[g]? = some (.cells cur T z) ∧ cur[i]? = some v := by
  unfold World.cell? at h
  simp only at h
  split at h
  · rename_i c T z hc
    exact ⟨c, T, z, hc, by simpa using h⟩
  · cases h
section
variable {H : Type} {enc : TypeId × Value → H} {P : Program} {w : World} {base : Nat} {held : Bool}
end
/-- All the chunks of a world. -/
def wholeL (w : World) : List Chunk := (List.range w.heap.size).filterMap fun b => (w.heap[b]?).map fun o => (b, o)
theorem mem_whole {w : World} {b : Nat} {o : Obj} : (b, o) ∈ wholeL w ↔ w.heap[b]? = some o := by
  unfold wholeL
  rw [List.mem_filterMap]
  constructor
  · rintro ⟨a, _, ha⟩
    obtain ⟨o', h1, h2⟩ := Option.map_eq_some_iff.1 ha
    injection h2 with e1 e2
    subst e1 e2
    exact h1
  · intro h
    refine ⟨b, ?_, by rw [h]; rfl⟩
    rw [List.mem_range]
    rcases Nat.lt_or_ge b w.heap.size with h1 | h1
    · exact h1
    · simp [Array.getElem?_eq_none h1] at h
theorem whole_keys (w : World) : ((wholeL w).map (·.1)).Nodup := by
  have : ∀ l : List Nat, ((l.filterMap fun b => (w.heap[b]?).map fun o => (b, o)).map (·.1)).Sublist l := by
    intro l
    induction l with
    | nil => simp
    | cons a l ih =>
      rw [List.filterMap_cons]
      cases h : w.heap[a]? with
      | none => simp only [Option.map_none]; exact ih.cons a
      | some o => simp only [Option.map_some, List.map_cons]; exact ih.cons_cons a
  exact List.Nodup.sublist (this _) List.nodup_range
def restL (w : World) (ks : List Nat) : List Chunk := (wholeL w).filter fun c => !ks.contains c.1
theorem mem_rest {w : World} {ks : List Nat} {b : Nat} {o : Obj} (h : w.heap[b]? = some o) (hk : b ∉ ks) : (b, o) ∈ restL w ks := by
  unfold restL
  rw [List.mem_filter]
  exact ⟨mem_whole.2 h, by simp [hk]⟩
theorem law_below {P : Program} {f : FuncId} {args : Array Value} {v : Value} {w : World} (L : List Chunk) (hL : ∀ c ∈ L, w.heap[c.1]? = some c.2) (hn : (L.map (·.1)).Nodup) {H : Hp} (hH : H.flatten = L ++ restL w (L.map (·.1))) (h : DoesR P f args H v) :
    Calls P f args w fun e w' => e = .returned v ∧ Below w.heap.size w w' := by
  have hsat : Sat w (H ++ []) w := by
    refine ⟨rfl, rfl, rfl, ?_, ?_⟩
    · rw [List.append_nil, hH, List.map_append, List.nodup_append]
      refine ⟨hn, ?_, ?_⟩
      · exact List.Nodup.sublist (List.filter_sublist.map _) (whole_keys w)
      · intro a ha b hb e
        subst e
        obtain ⟨c, hc, rfl⟩ := List.mem_map.1 hb
        unfold restL at hc
        have := (List.mem_filter.1 hc).2
        simp only [Bool.not_eq_true', List.contains_eq_mem, decide_eq_false_iff_not] at this
        exact this ha
    · intro p hp
      rw [List.append_nil, hH, List.mem_append] at hp
      rcases hp with hp | hp
      · exact hL p hp
      · exact mem_whole.1 (List.mem_filter.1 hp).1
  refine Calls.mono (h w [] w hsat) fun e w' he => ?_
  rcases he with ⟨v', H', rfl, ⟨rfl, rfl⟩, hs⟩ | ⟨_, _, _, hf, _⟩
  · refine ⟨rfl, hs.os, hs.tape, hs.output, ?_, ?_⟩
    · rcases Nat.eq_zero_or_pos w.heap.size with h0 | h0
      · omega
      · have hlt : w.heap.size - 1 < w.heap.size := by omega
        have hg : w.heap[w.heap.size - 1]? = some w.heap[w.heap.size - 1] := Array.getElem?_eq_getElem hlt
        have : w'.heap[w.heap.size - 1]? = some w.heap[w.heap.size - 1] := by
          by_cases hk : (w.heap.size - 1) ∈ L.map (·.1)
          · obtain ⟨c, hc, hk⟩ := List.mem_map.1 hk
            have h1 := hs.get c (by rw [List.append_nil, hH]; exact List.mem_append_left _ hc)
            have h2 := hL c hc
            rw [hk] at h1 h2
            rw [h1, ← h2, hg]
          · exact hs.get (_, _) (by rw [List.append_nil, hH]; exact List.mem_append_right _ (mem_rest hg hk))
        rcases Nat.lt_or_ge (w.heap.size - 1) w'.heap.size with h1 | h1
        · omega
        · rw [Array.getElem?_eq_none h1] at this; cases this
    · intro k hk
      have hg : w.heap[k]? = some w.heap[k] := Array.getElem?_eq_getElem hk
      by_cases hm : k ∈ L.map (·.1)
      · obtain ⟨c, hc, rfl⟩ := List.mem_map.1 hm
        have h1 := hs.get c (by rw [List.append_nil, hH]; exact List.mem_append_left _ hc)
        rw [h1, hL c hc]
      · rw [hg]
        exact hs.get (_, _) (by rw [List.append_nil, hH]; exact List.mem_append_right _ (mem_rest hg hm))
  · exact hf.elim

open Go.ChangeShapes Go.WideShapes Go.Deep
theorem var_heap {P : Program} {w : World} {n : String} {g : Nat} {cs : Array Value} (hg : P.globalNamed n = some g) (h : w.var? P n = some cs) : ∃ T z, w.heap[g]? = some (.cells cs T z) := by
  unfold World.var? at h
  rw [hg, Option.bind_some] at h
  split at h
  · rename_i c T z hc
    injection h with e
    subst e
    exact ⟨T, z, hc⟩
  · cases h
theorem gRound : Tryz.prog.globalNamed "cachetier/digest.round" = some 4 := by kernel_rfl
theorem gErr : Tryz.prog.globalNamed "cachetier/journal.errDamaged" = some 0 := by kernel_rfl
theorem tRound : (Tryz.prog.globals[4]?).map (·.type) = some 292 := by kernel_rfl
theorem tErr : (Tryz.prog.globals[0]?).map (·.type) = some 125 := by kernel_rfl
theorem c32 : Tryz.prog.cellsOf 220 = 1 := by kernel_rfl
theorem cTab : Tryz.prog.cellsOf 292 = 64 := by kernel_rfl
theorem cErr : Tryz.prog.cellsOf 321 = 1 := by kernel_rfl
theorem cStr : Tryz.prog.cellsOf 9 = 1 := by kernel_rfl
theorem rowErr (u : TypeId) (h : Tryz.prog.typeName? 3 u = some "*errors.errorString") : u = 299 := typeName_ptr_named (nm := "errors.errorString") (by kernel_rfl) (by kernel_rfl) (by decide) u h
def roundZ : List Int := kTab.map fun x => (x.toNat : Int)
theorem round_data : (Rows.laid_cachetier_digest_round : DataW Unit) = Lib.tabData .u32 roundZ := by kernel_rfl
theorem round_cells : (roundZ.map fun z => Value.int .u32 z).toArray = (kTab.map u32v).toArray := by kernel_rfl
theorem of_laid {x : String × DataW Unit} {r : List (String × DataW Unit)} {W : World} (h : laidMet Tryz.prog (x :: ("cachetier/digest.round", Rows.laid_cachetier_digest_round) :: ("cachetier/journal.errDamaged", Rows.laid_cachetier_journal_errDamaged) :: r) W) :
    ∃ Tg zg pa Tx zx, W.heap[4]? = some (.cells (kTab.map u32v).toArray Tg zg) ∧ W.heap[0]? = some (.cells #[.iface 299 (.pointer (some pa))] Tx zx) := by
  have h1 := h.tail
  rw [round_data] at h1
  have h2 := Lib.tabIs_of_head gRound tRound underlying292 underlying220 c32 cTab h1
  unfold Lib.TabIs at h2
  rw [round_cells] at h2
  obtain ⟨Tg, zg, hb⟩ := var_heap gRound h2
  obtain ⟨pa, s, hv, _⟩ := laid_sentinel h1.tail gErr tErr underlying125 rowErr underlying299 underlying321 rfl rfl underlying9 cErr cStr
  obtain ⟨Tx, zx, hx⟩ := var_heap gErr hv
  exact ⟨Tg, zg, pa, Tx, zx, hb, hx⟩
def isArg : Value → Bool
  | .string _ => true
  | .slice _ _ _ => true
  | .bool _ => true
  | .int .i64 _ => true
  | _ => false
theorem glob_ne {W : World} {Tg Tx : TypeId} {zg zx : Nat × Nat} {pa : Addr} (h4 : W.heap[4]? = some (.cells (kTab.map u32v).toArray Tg zg)) (h0 : W.heap[0]? = some (.cells #[.iface 299 (.pointer (some pa))] Tx zx))
    {g o : Nat} {cur : Array Value} {T : TypeId} {z : Nat × Nat} {cs : List Value} (hb : W.heap[g]? = some (.cells cur T z)) (hin : CellsIn cur o cs) {y : Value} (hy : cs[0]? = some y) (ha : isArg y = true) : g ∉ [4, 0] := by
  have hc := hin.get 0 y hy
  intro hm
  simp only [List.mem_cons, List.not_mem_nil, or_false] at hm
  rcases hm with rfl | rfl
  · rw [h4] at hb
    injection hb with e
    injection e with e1 _ _
    subst e1
    rw [List.getElem?_toArray, List.getElem?_map] at hc
    obtain ⟨u, _, rfl⟩ := Option.map_eq_some_iff.1 hc
    simp [u32v, isArg] at ha
  · rw [h0] at hb
    injection hb with e
    injection e with e1 _ _
    subst e1
    rw [List.getElem?_toArray] at hc
    have := List.mem_of_getElem? hc
    simp only [List.mem_singleton] at this
    subst this
    simp [isArg] at ha
/-- A law's contract at a world that holds what the rows list. -/
theorem law_at {f : FuncId} {args : Array Value} {v : Value} {W : World} {Tg Tx : TypeId} {zg zx : Nat × Nat} {pa : Addr} (h4 : W.heap[4]? = some (.cells (kTab.map u32v).toArray Tg zg)) (h0 : W.heap[0]? = some (.cells #[.iface 299 (.pointer (some pa))] Tx zx))
    (h : DoesR Tryz.prog f args [[(4, .cells (kTab.map u32v).toArray Tg zg)], [(0, .cells #[.iface 299 (.pointer (some pa))] Tx zx)], restL W [4, 0]] v) :
    Calls Tryz.prog f args W fun e w' => e = .returned v ∧ Below W.heap.size W w' :=
  law_below [(4, .cells (kTab.map u32v).toArray Tg zg), (0, .cells #[.iface 299 (.pointer (some pa))] Tx zx)] (by
    intro c hc
    simp only [List.mem_cons, List.not_mem_nil, or_false] at hc
    rcases hc with rfl | rfl
    · exact h4
    · exact h0) (by simp) (by simp) h

end Go.Proofs.YthbadolcncojbaaGreatDoor
