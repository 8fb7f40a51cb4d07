/- What the listed variables give; arguments beside them. -/
import Derived.Test.YtddblcjcodejaaaDoorTl1
namespace Go.Proofs.YtddblcjcodejaaaDoor
open Go Go.RowKit Gw
set_option linter.unusedVariables false
set_option maxRecDepth 100000
attribute [local irreducible] Gw.At Gw.Nx Gw.Ops
open Go.ChangeShapes Go.WideShapes Go.Deep
theorem var_heap {P : Program} {w : World} {n : String} {g : Nat} {cs : Array Value} (hg : P.globalNamed n = some g) (h : w.var? P n = some cs) : ∃ T z, w.heap[g]? = some (.cells cs T z) := by
  unfold World.var? at h
  rw [hg, Option.bind_some] at h
  split at h
  · rename_i c T z hc
    injection h with e
    subst e
    exact ⟨T, z, hc⟩
  · cases h
theorem gRound : Tryd.prog.globalNamed "cachetier/digest.round" = some 4 := by kernel_rfl
theorem gErr : Tryd.prog.globalNamed "cachetier/journal.errDamaged" = some 0 := by kernel_rfl
theorem tRound : (Tryd.prog.globals[4]?).map (·.type) = some 147 := by kernel_rfl
theorem tErr : (Tryd.prog.globals[0]?).map (·.type) = some 69 := by kernel_rfl
theorem c32 : Tryd.prog.cellsOf 137 = 1 := by kernel_rfl
theorem cTab : Tryd.prog.cellsOf 147 = 64 := by kernel_rfl
theorem cErr : Tryd.prog.cellsOf 177 = 1 := by kernel_rfl
theorem cStr : Tryd.prog.cellsOf 9 = 1 := by kernel_rfl
theorem rowErr (u : TypeId) (h : Tryd.prog.typeName? 3 u = some "*errors.errorString") : u = 155 := typeName_ptr_named (nm := "errors.errorString") (by kernel_rfl) (by kernel_rfl) (by decide) u h
def roundZ : List Int := kTab.map fun x => (x.toNat : Int)
theorem round_data : (Rows.laid_cachetier_digest_round : DataW Unit) = Lib.tabData .u32 roundZ := by kernel_rfl
theorem round_cells : (roundZ.map fun z => Value.int .u32 z).toArray = (kTab.map u32v).toArray := by kernel_rfl
theorem of_laid {x : String × DataW Unit} {r : List (String × DataW Unit)} {W : World} (h : laidMet Tryd.prog (x :: ("cachetier/digest.round", Rows.laid_cachetier_digest_round) :: ("cachetier/journal.errDamaged", Rows.laid_cachetier_journal_errDamaged) :: r) W) :
    ∃ Tg zg pa Tx zx, W.heap[4]? = some (.cells (kTab.map u32v).toArray Tg zg) ∧ W.heap[0]? = some (.cells #[.iface 155 (.pointer (some pa))] Tx zx) := by
  have h1 := h.tail
  rw [round_data] at h1
  have h2 := Lib.tabIs_of_head gRound tRound Tryd.underlying147 Tryd.underlying137 c32 cTab h1
  unfold Lib.TabIs at h2
  rw [round_cells] at h2
  obtain ⟨Tg, zg, hb⟩ := var_heap gRound h2
  obtain ⟨pa, s, hv, _⟩ := laid_sentinel h1.tail gErr tErr Tryd.underlying69 rowErr Tryd.underlying155 Tryd.underlying177 rfl rfl Tryd.underlying9 cErr cStr
  obtain ⟨Tx, zx, hx⟩ := var_heap gErr hv
  exact ⟨Tg, zg, pa, Tx, zx, hb, hx⟩
def isArg : Value → Bool
  | .string _ => true
  | .slice _ _ _ => true
  | _ => false
theorem glob_ne {W : World} {Tg Tx : TypeId} {zg zx : Nat × Nat} {pa : Addr} (h4 : W.heap[4]? = some (.cells (kTab.map u32v).toArray Tg zg)) (h0 : W.heap[0]? = some (.cells #[.iface 155 (.pointer (some pa))] Tx zx))
    {g o : Nat} {cur : Array Value} {T : TypeId} {z : Nat × Nat} {cs : List Value} (hb : W.heap[g]? = some (.cells cur T z)) (hin : CellsIn cur o cs) {y : Value} (hy : cs[0]? = some y) (ha : isArg y = true) : g ∉ [4, 0] := by
  have hc := hin.get 0 y hy
  intro hm
  simp only [List.mem_cons, List.not_mem_nil, or_false] at hm
  rcases hm with rfl | rfl
  · rw [h4] at hb
    injection hb with e
    injection e with e1 _ _
    subst e1
    rw [List.getElem?_toArray, List.getElem?_map] at hc
    obtain ⟨u, _, rfl⟩ := Option.map_eq_some_iff.1 hc
    simp [u32v, isArg] at ha
  · rw [h0] at hb
    injection hb with e
    injection e with e1 _ _
    subst e1
    rw [List.getElem?_toArray] at hc
    have := List.mem_of_getElem? hc
    simp only [List.mem_singleton] at this
    subst this
    simp [isArg] at ha
theorem strs_in {W : World} {Tg Tx : TypeId} {zg zx : Nat × Nat} {pa : Addr} (h4 : W.heap[4]? = some (.cells (kTab.map u32v).toArray Tg zg)) (h0 : W.heap[0]? = some (.cells #[.iface 155 (.pointer (some pa))] Tx zx))
    {v : Value} {ls : List (List UInt8)} (h : StrsW W v ls) : StrsIn (restL W [4, 0]) v ls := by
  rcases h with h | ⟨hp, g, o, cap, cur, T, z, rfl, hb, hin, hl⟩
  · exact .inl h
  · refine .inr ⟨g, o, cap, cur, T, z, rfl, mem_rest hb ?_, hin, hl⟩
    obtain ⟨x, t, rfl⟩ : ∃ x t, ls = x :: t := by
      cases ls with
      | nil => simp at hp
      | cons x t => exact ⟨x, t, rfl⟩
    exact glob_ne h4 h0 hb hin (y := strV x) rfl rfl
theorem vals_in {W : World} {Tg Tx : TypeId} {zg zx : Nat × Nat} {pa : Addr} (h4 : W.heap[4]? = some (.cells (kTab.map u32v).toArray Tg zg)) (h0 : W.heap[0]? = some (.cells #[.iface 155 (.pointer (some pa))] Tx zx))
    {v : Value} {gs : List Value} (h : ValsW W v gs) (ha : ∀ y ∈ gs, isArg y = true) : ValsIn (restL W [4, 0]) v gs := by
  rcases h with h | ⟨hp, g, o, cap, cur, T, z, rfl, hb, hin, hl⟩
  · exact .inl h
  · refine .inr ⟨g, o, cap, cur, T, z, rfl, mem_rest hb ?_, hin, hl⟩
    obtain ⟨x, t, rfl⟩ : ∃ x t, gs = x :: t := by
      cases gs with
      | nil => simp at hp
      | cons x t => exact ⟨x, t, rfl⟩
    exact glob_ne h4 h0 hb hin (y := x) rfl (ha x (by simp))
theorem strs_arg {w : World} {v : Value} {ls : List (List UInt8)} (h : StrsW w v ls) : isArg v = true := by
  rcases h with ⟨p, cap, rfl, _⟩ | ⟨_, g, o, cap, cur, T, z, rfl, _⟩ <;> rfl
/-- A law's contract at a world that holds what the rows list. -/
theorem law_at {f : FuncId} {args : Array Value} {v : Value} {W : World} {Tg Tx : TypeId} {zg zx : Nat × Nat} {pa : Addr} (h4 : W.heap[4]? = some (.cells (kTab.map u32v).toArray Tg zg)) (h0 : W.heap[0]? = some (.cells #[.iface 155 (.pointer (some pa))] Tx zx))
    (h : DoesR Tryd.prog f args [[(4, .cells (kTab.map u32v).toArray Tg zg)], [(0, .cells #[.iface 155 (.pointer (some pa))] Tx zx)], restL W [4, 0]] v) :
    Calls Tryd.prog f args W fun e w' => e = .returned v ∧ Below W.heap.size W w' :=
  law_below [(4, .cells (kTab.map u32v).toArray Tg zg), (0, .cells #[.iface 155 (.pointer (some pa))] Tx zx)] (by
    intro c hc
    simp only [List.mem_cons, List.not_mem_nil, or_false] at hc
    rcases hc with rfl | rfl
    · exact h4
    · exact h0) (by simp) (by simp) h

end Go.Proofs.YtddblcjcodejaaaDoor
