/- What the rows list and what the arguments read as, in chunks. -/
/- Arguments of four integers. -/
/- Arguments of three integers, and of three times three. -/
/- Parts of the order of a table that are proofs; parts of slices. -/
/- What a root determines, unless two different strings have the same digest. -/
/- Two states with one root; a record undone. -/
/- What a proof that is accepted determines, unless two different strings have the same digest. -/
/- Damaged proofs. -/
import Derived.Test.YtjeepldonhgohaaGreatDoorEz
import Derived.Test.YtjeepldonhgohaaGreatDoorTr14
import Derived.ProofKit
import Derived.OpenShut
import Derived.ChangeOld
import Derived.Deep.Slices
import Derived.SliceStrings
import Derived.Lib.LaidTab
import Derived.Test.YtjeepldonhgohaaGreatDoorRows

namespace Go.Proofs.YtjeepldonhgohaaGreatDoor
open Go.Proofs.Tryz
open Go Go.RowKit Gw
set_option linter.unusedVariables false
set_option linter.unusedSimpArgs false
set_option maxRecDepth 100000
attribute [local irreducible] Gw.At Gw.Nx Gw.Ops
open Go.ChangeShapes Go.WideShapes Go.Deep
theorem adr0 (ad : Addr) : ad.add 0 = ad := by simp [Addr.add]
theorem adr_spot {w : World} {a : Addr} {v : Value} (h : w.cell? a = some v) : a = ⟨a.block, a.off, none⟩ := by
  cases a with | mk b o s =>
  cases s with
  | none => rfl
  | some s =>
    simp only [World.cell?] at h
    split at h <;> simp at h
theorem cell_heap {w : World} {g i : Nat} {v : Value} (h : w.cell? ⟨g, i, none⟩ = some v) : ∃ cur T z, w.heap[g]? = some (.cells cur T z) ∧ cur[i]? = some v := by
  unfold World.cell? at h
  simp only at h
  split at h
  · rename_i c T z hc
    exact ⟨c, T, z, hc, by simpa using h⟩
  · cases h
section
variable {H : Type} {enc : TypeId × Value → H} {P : Program} {w : World} {base : Nat} {held : Bool}
end
/-- All the chunks of a world. -/
def wholeL (w : World) : List Chunk := (List.range w.heap.size).filterMap fun b => (w.heap[b]?).map fun o => (b, o)
theorem mem_whole {w : World} {b : Nat} {o : Obj} : (b, o) ∈ wholeL w ↔ w.heap[b]? = some o := by
  unfold wholeL
  rw [List.mem_filterMap]
  constructor
  · rintro ⟨a, _, ha⟩
    obtain ⟨o', h1, h2⟩ := Option.map_eq_some_iff.1 ha
    injection h2 with e1 e2
    subst e1 e2
    exact h1
  · intro h
    refine ⟨b, ?_, by rw [h]; rfl⟩
    rw [List.mem_range]
    rcases Nat.lt_or_ge b w.heap.size with h1 | h1
    · exact h1
    · simp [Array.getElem?_eq_none h1] at h
theorem whole_keys (w : World) : ((wholeL w).map (·.1)).Nodup := by
  have : ∀ l : List Nat, ((l.filterMap fun b => (w.heap[b]?).map fun o => (b, o)).map (·.1)).Sublist l := by
    intro l
    induction l with
    | nil => simp
    | cons a l ih =>
      rw [List.filterMap_cons]
      cases h : w.heap[a]? with
      | none => simp only [Option.map_none]; exact ih.cons a
      | some o => simp only [Option.map_some, List.map_cons]; exact ih.cons_cons a
  exact List.Nodup.sublist (this _) List.nodup_range
def restL (w : World) (ks : List Nat) : List Chunk := (wholeL w).filter fun c => !ks.contains c.1
theorem mem_rest {w : World} {ks : List Nat} {b : Nat} {o : Obj} (h : w.heap[b]? = some o) (hk : b ∉ ks) : (b, o) ∈ restL w ks := by
  unfold restL
  rw [List.mem_filter]
  exact ⟨mem_whole.2 h, by simp [hk]⟩
theorem law_below {P : Program} {f : FuncId} {args : Array Value} {v : Value} {w : World} (L : List Chunk) (hL : ∀ c ∈ L, w.heap[c.1]? = some c.2) (hn : (L.map (·.1)).Nodup) {H : Hp} (hH : H.flatten = L ++ restL w (L.map (·.1))) (h : DoesR P f args H v) :
    Calls P f args w fun e w' => e = .returned v ∧ Below w.heap.size w w' := by
  have hsat : Sat w (H ++ []) w := by
    refine ⟨rfl, rfl, rfl, ?_, ?_⟩
    · rw [List.append_nil, hH, List.map_append, List.nodup_append]
      refine ⟨hn, ?_, ?_⟩
      · exact List.Nodup.sublist (List.filter_sublist.map _) (whole_keys w)
      · intro a ha b hb e
        subst e
        obtain ⟨c, hc, rfl⟩ := List.mem_map.1 hb
        unfold restL at hc
        have := (List.mem_filter.1 hc).2
        simp only [Bool.not_eq_true', List.contains_eq_mem, decide_eq_false_iff_not] at this
        exact this ha
    · intro p hp
      rw [List.append_nil, hH, List.mem_append] at hp
      rcases hp with hp | hp
      · exact hL p hp
      · exact mem_whole.1 (List.mem_filter.1 hp).1
  refine Calls.mono (h w [] w hsat) fun e w' he => ?_
  rcases he with ⟨v', H', rfl, ⟨rfl, rfl⟩, hs⟩ | ⟨_, _, _, hf, _⟩
  · refine ⟨rfl, hs.os, hs.tape, hs.output, ?_, ?_⟩
    · rcases Nat.eq_zero_or_pos w.heap.size with h0 | h0
      · omega
      · have hlt : w.heap.size - 1 < w.heap.size := by omega
        have hg : w.heap[w.heap.size - 1]? = some w.heap[w.heap.size - 1] := Array.getElem?_eq_getElem hlt
        have : w'.heap[w.heap.size - 1]? = some w.heap[w.heap.size - 1] := by
          by_cases hk : (w.heap.size - 1) ∈ L.map (·.1)
          · obtain ⟨c, hc, hk⟩ := List.mem_map.1 hk
            have h1 := hs.get c (by rw [List.append_nil, hH]; exact List.mem_append_left _ hc)
            have h2 := hL c hc
            rw [hk] at h1 h2
            rw [h1, ← h2, hg]
          · exact hs.get (_, _) (by rw [List.append_nil, hH]; exact List.mem_append_right _ (mem_rest hg hk))
        rcases Nat.lt_or_ge (w.heap.size - 1) w'.heap.size with h1 | h1
        · omega
        · rw [Array.getElem?_eq_none h1] at this; cases this
    · intro k hk
      have hg : w.heap[k]? = some w.heap[k] := Array.getElem?_eq_getElem hk
      by_cases hm : k ∈ L.map (·.1)
      · obtain ⟨c, hc, rfl⟩ := List.mem_map.1 hm
        have h1 := hs.get c (by rw [List.append_nil, hH]; exact List.mem_append_left _ hc)
        rw [h1, hL c hc]
      · rw [hg]
        exact hs.get (_, _) (by rw [List.append_nil, hH]; exact List.mem_append_right _ (mem_rest hg hm))
  · exact hf.elim

theorem var_heap {P : Program} {w : World} {n : String} {g : Nat} {cs : Array Value} (hg : P.globalNamed n = some g) (h : w.var? P n = some cs) : ∃ T z, w.heap[g]? = some (.cells cs T z) := by
  unfold World.var? at h
  rw [hg, Option.bind_some] at h
  split at h
  · rename_i c T z hc
    injection h with e
    subst e
    exact ⟨T, z, hc⟩
  · cases h

theorem gRound : Tryz.prog.globalNamed "cachetier/digest.round" = some 0 := by kernel_rfl
theorem tRound : (Tryz.prog.globals[0]?).map (·.type) = some 167 := by kernel_rfl
theorem c32 : Tryz.prog.cellsOf 108 = 1 := by kernel_rfl
theorem cTab : Tryz.prog.cellsOf 167 = 64 := by kernel_rfl
def roundZ : List Int := kTab.map fun x => (x.toNat : Int)
theorem round_data : (Rows.laid_cachetier_digest_round : DataW Unit) = Lib.tabData .u32 roundZ := by kernel_rfl
theorem round_cells : (roundZ.map fun z => Value.int .u32 z).toArray = (kTab.map u32v).toArray := by kernel_rfl
theorem of_laid1 {r : List (String × DataW Unit)} {W : World} (h : laidMet Tryz.prog (("cachetier/digest.round", Rows.laid_cachetier_digest_round) :: r) W) :
    ∃ Tg zg, W.heap[0]? = some (.cells (kTab.map u32v).toArray Tg zg) := by
  rw [round_data] at h
  have h2 := Lib.tabIs_of_head gRound tRound underlying167 underlying108 c32 cTab h
  unfold Lib.TabIs at h2
  rw [round_cells] at h2
  obtain ⟨Tg, zg, hb⟩ := var_heap gRound h2
  exact ⟨Tg, zg, hb⟩
def isArg : Value → Bool
  | .string _ => true
  | .slice _ _ _ => true
  | .bool _ => true
  | .int .i64 _ => true
  | _ => false
theorem glob_ne1 {W : World} {Tg : TypeId} {zg : Nat × Nat} (h4 : W.heap[0]? = some (.cells (kTab.map u32v).toArray Tg zg))
    {g i : Nat} {cur : Array Value} {T : TypeId} {z : Nat × Nat} (hb : W.heap[g]? = some (.cells cur T z)) {y : Value} (hc : cur[i]? = some y) (ha : isArg y = true) : g ∉ [0] := by
  intro hm
  simp only [List.mem_cons, List.not_mem_nil, or_false] at hm
  subst hm
  rw [h4] at hb
  injection hb with e
  injection e with e1 _ _
  subst e1
  rw [List.getElem?_toArray, List.getElem?_map] at hc
  obtain ⟨u, _, rfl⟩ := Option.map_eq_some_iff.1 hc
  simp [u32v, isArg] at ha
/-- A law's contract at a world that holds what the rows list. -/
theorem law_at1 {f : FuncId} {args : Array Value} {v : Value} {W : World} {Tg : TypeId} {zg : Nat × Nat} (h4 : W.heap[0]? = some (.cells (kTab.map u32v).toArray Tg zg))
    (h : DoesR Tryz.prog f args [[(0, .cells (kTab.map u32v).toArray Tg zg)], restL W [0]] v) :
    Calls Tryz.prog f args W fun e w' => e = .returned v ∧ Below W.heap.size W w' :=
  law_below [(0, .cells (kTab.map u32v).toArray Tg zg)] (by
    intro c hc
    simp only [List.mem_cons, List.not_mem_nil, or_false] at hc
    subst hc; exact h4) (by simp) (by simp) h
theorem list_choose {α : Type} : ∀ (n : Nat) (p : Nat → α → Prop), (∀ i, i < n → ∃ o, p i o) → ∃ os : List α, os.length = n ∧ ∀ i o, os[i]? = some o → p i o
  | 0, _, _ => ⟨[], rfl, fun i o h => by cases h⟩
  | n + 1, p, h => by
    obtain ⟨os, h1, h2⟩ := list_choose n p (fun i hi => h i (by omega))
    obtain ⟨o, ho⟩ := h n (by omega)
    refine ⟨os ++ [o], by simp [h1], fun i o' hi => ?_⟩
    rw [List.getElem?_append] at hi
    split at hi
    · exact h2 i o' hi
    · rename_i hlt
      have : i = n := by
        have := (List.getElem?_eq_some_iff.1 hi).1
        simp at this; omega
      subst this
      rw [h1, Nat.sub_self] at hi
      simp only [List.getElem?_cons_zero, Option.some.injEq] at hi
      subst hi; exact ho
section
variable {H : Type} {enc : TypeId × Value → H} {P : Program} {W : World} {base : Nat} {held : Bool}
/-- A slice, its elements' cells one after another. -/
theorem open_cells {t e : TypeId} {s fuel : Nat} {cs : List Value} {x : DataW H × List MemPlace} (ht : P.underlying t = some (.slice e)) (hc : P.cellsOf e = s) (hs : 0 < s) (h : DataW.trod enc P W base (fun _ => true) held fuel t cs = some x) :
    ∃ p len cap, cs = [.slice p len cap] ∧ (len ≤ maxLen ∧ len ≤ cap) ∧ ∀ i, i < len → ∃ cs' n z, cs'.length = s ∧ DataW.trod enc P W base (fun _ => true) held n e cs' = some z ∧
      ∃ g o cur T zz, p = some ⟨g, o, none⟩ ∧ W.heap[g]? = some (.cells cur T zz) ∧ ∀ j, j < s → cur[o + i * s + j]? = cs'[j]? := by
  rcases open_slice ht h with ⟨rfl, _⟩ | ⟨a, len, cap, m, n, D, Pl, rfl, _, hl, hm, hmm, _, hel⟩
  · exact ⟨none, 0, 0, rfl, ⟨Nat.zero_le _, Nat.le_refl _⟩, fun i hi => by omega⟩
  · simp only [if_true] at hmm
    subst hmm
    refine ⟨some a, len, m, rfl, ⟨by omega, hl⟩, fun i hi => ?_⟩
    have hsp2 : a = ⟨a.block, a.off, none⟩ := by
      obtain ⟨cs0, g1, _⟩ := hel 0 (by omega)
      rw [hc] at g1
      obtain ⟨_, glen, gg⟩ := World.cells?_some g1
      have g9 := gg 0 hs
      rw [List.getElem?_eq_getElem (l := cs0) (i := 0) (by omega), Nat.zero_mul, adr0, adr0] at g9
      exact adr_spot g9
    obtain ⟨cs', h1, h2⟩ := hel i (by omega)
    rw [hc] at h1
    obtain ⟨_, hlen, hg⟩ := World.cells?_some h1
    refine ⟨cs', n, _, hlen, h2, ?_⟩
    have h9 := hg 0 hs
    rw [List.getElem?_eq_getElem (l := cs') (i := 0) (by omega), hsp2, add_addr, add_addr] at h9
    obtain ⟨cur, T, zz, hb, _⟩ := cell_heap h9
    refine ⟨a.block, a.off, cur, T, zz, by rw [← hsp2], hb, fun j hj => ?_⟩
    have h8 := hg j hj
    rw [List.getElem?_eq_getElem (l := cs') (i := j) (by omega)] at h8 ⊢
    rw [hsp2, add_addr, add_addr] at h8
    obtain ⟨cur2, T2, zz2, hb2, hc2⟩ := cell_heap h8
    rw [hb] at hb2
    injection hb2 with e
    injection e with e1 _ _
    rw [e1]; exact hc2
end

theorem cInt : Tryz.prog.cellsOf 3 = 1 := by kernel_rfl
theorem cSix : Tryz.prog.cellsOf 92 = 6 := by kernel_rfl

theorem open_sixes1 {H : Type} {enc : TypeId × Value → H} {W : World} {base : Nat} {held : Bool} {Tg : TypeId} {zg : Nat × Nat} (h4 : W.heap[0]? = some (.cells (kTab.map u32v).toArray Tg zg)) {fuel : Nat} {cs : List Value} {x : DataW H × List MemPlace} (h : DataW.trod enc Tryz.prog W base (fun _ => true) held fuel 22 cs = some x) :
    ∃ v xs, cs = [v] ∧ SixIn (restL W [0]) v xs := by
  obtain ⟨p, len, cap, rfl, hl, hel⟩ := open_cells underlying22 cSix (by decide) h
  obtain ⟨xs, h1, h2⟩ := list_choose len (fun i (z : List Int) => z.length = 6 ∧ (∀ n ∈ z, -9223372036854775808 ≤ n ∧ n ≤ 9223372036854775807) ∧ ∃ g o cur T zz, p = some ⟨g, o, none⟩ ∧ (g, Obj.cells cur T zz) ∈ restL W [0] ∧ ∀ (j : Nat) (n : Int), z[j]? = some n → cur[o + i * 6 + j]? = some (.int .i64 n)) (fun i hi => by
    obtain ⟨cs', n, z, hlen, ht, g, o, cur, T, zz, hp, hb, hc⟩ := hel i hi
    obtain ⟨ys, m, _, _, _, hyl, hf⟩ := DataW.trod_array underlying92 ht
    obtain ⟨ns, hn1, hn2⟩ := list_choose 6 (fun j (n : Int) => (-9223372036854775808 ≤ n ∧ n ≤ 9223372036854775807) ∧ cs'[j]? = some (.int .i64 n)) (fun j hj => by
      have f := hf j hj
      rw [cInt, Nat.mul_one, List.getElem?_eq_getElem (by omega)] at f
      have hj2 : j < cs'.length := by omega
      have e : (cs'.drop j).take 1 = [cs'[j]] := by rw [List.drop_eq_getElem_cons hj2]; rfl
      rw [e] at f
      obtain ⟨k, hk, _, hkw⟩ := DataW.trod_int underlying3 f
      injection hk with hk _
      exact ⟨k, bounds_i64 hkw, by rw [List.getElem?_eq_getElem hj2, hk]⟩)
    have hat : ∀ (j : Nat) (n : Int), ns[j]? = some n → cur[o + i * 6 + j]? = some (.int .i64 n) := fun j n hj => by
      have hlt := (List.getElem?_eq_some_iff.1 hj).1
      rw [hc j (by omega)]
      exact (hn2 j n hj).2
    obtain ⟨n0, hn0⟩ : ∃ n, ns[0]? = some n := ⟨_, List.getElem?_eq_getElem (by omega)⟩
    exact ⟨ns, hn1, fun n hmem => by
      obtain ⟨j, hj⟩ := List.getElem?_of_mem hmem
      exact (hn2 j n hj).1, g, o, cur, T, zz, hp, mem_rest hb (glob_ne1 h4 hb (hat 0 n0 hn0) rfl), hat⟩)
  subst h1
  exact ⟨_, xs, rfl, p, cap, rfl, hl, h2⟩

end Go.Proofs.YtjeepldonhgohaaGreatDoor

namespace Go.Proofs.YtjeepldonhgohaaGreatDoor
open Go.Proofs.Tryz
open Go Go.RowKit Gw
set_option linter.unusedVariables false
set_option linter.unusedSimpArgs false
set_option maxRecDepth 100000
attribute [local irreducible] Gw.At Gw.Nx Gw.Ops
open Go.ChangeShapes Go.WideShapes Go.Deep
theorem okWide_arr {P : Program} {w : World} {r : Reach} {base n : Nat} {t e : TypeId} {v : Value} (hu : P.underlying t = some (.array n e)) (h : Value.okWide P w r base t v) : ∃ cs, v = .agg cs ∧ cs.size = P.cellsOf t := by
  unfold Value.okWide at h
  rw [hu] at h
  obtain ⟨cs, rfl, h1, _⟩ := h
  exact ⟨cs, rfl, h1⟩
theorem cFour : Tryz.prog.cellsOf 23 = 4 := by kernel_rfl
theorem list_four {l : List Value} (h : l.length = 4) : ∃ a b c d, l = [a, b, c, d] := by
  match l, h with
  | [a, b, c, d], _ => exact ⟨a, b, c, d, rfl⟩
theorem open_arr4 {H : Type} {enc : TypeId × Value → H} {W : World} {base : Nat} {held : Bool} {fuel : Nat} {l : List Value} {x : DataW H × List MemPlace} (h : DataW.trod enc Tryz.prog W base (fun _ => true) held fuel 23 l = some x) (hl : l.length = 4) :
    ∃ a b c d : Int, l = [.int .i64 a, .int .i64 b, .int .i64 c, .int .i64 d] ∧ (-9223372036854775808 ≤ a ∧ a ≤ 9223372036854775807) ∧ (-9223372036854775808 ≤ b ∧ b ≤ 9223372036854775807) ∧ (-9223372036854775808 ≤ c ∧ c ≤ 9223372036854775807) ∧ (-9223372036854775808 ≤ d ∧ d ≤ 9223372036854775807) := by
  obtain ⟨ys, m, _, _, _, hyl, hf⟩ := DataW.trod_array underlying23 h
  have hj : ∀ j, j < 4 → ∃ n : Int, l[j]? = some (.int .i64 n) ∧ -9223372036854775808 ≤ n ∧ n ≤ 9223372036854775807 := fun j hj => by
    have f := hf j hj
    rw [cInt, Nat.mul_one, List.getElem?_eq_getElem (by omega)] at f
    have hj2 : j < l.length := by omega
    have e : (l.drop j).take 1 = [l[j]] := by rw [List.drop_eq_getElem_cons hj2]; rfl
    rw [e] at f
    obtain ⟨k, hk, _, hkw⟩ := DataW.trod_int underlying3 f
    injection hk with hk _
    exact ⟨k, by rw [List.getElem?_eq_getElem hj2, hk], bounds_i64 hkw⟩
  obtain ⟨v0, v1, v2, v3, rfl⟩ := list_four hl
  obtain ⟨a, ha, ha2⟩ := hj 0 (by decide)
  obtain ⟨b, hb, hb2⟩ := hj 1 (by decide)
  obtain ⟨c, hc, hc2⟩ := hj 2 (by decide)
  obtain ⟨d, hd, hd2⟩ := hj 3 (by decide)
  simp at ha hb hc hd
  subst ha hb hc hd
  exact ⟨a, b, c, d, rfl, ha2, hb2, hc2, hd2⟩

end Go.Proofs.YtjeepldonhgohaaGreatDoor

namespace Go.Proofs.YtjeepldonhgohaaGreatDoor
open Go.Proofs.Tryz
open Go Go.RowKit Gw
set_option linter.unusedVariables false
set_option linter.unusedSimpArgs false
set_option maxRecDepth 100000
attribute [local irreducible] Gw.At Gw.Nx Gw.Ops
open Go.ChangeShapes Go.WideShapes Go.Deep
theorem cThree : Tryz.prog.cellsOf 47 = 3 := by kernel_rfl
theorem list_three {l : List Value} (h : l.length = 3) : ∃ a b c, l = [a, b, c] := by
  match l, h with
  | [a, b, c], _ => exact ⟨a, b, c, rfl⟩
theorem open_arr3 {H : Type} {enc : TypeId × Value → H} {W : World} {base : Nat} {held : Bool} {fuel : Nat} {l : List Value} {x : DataW H × List MemPlace} (h : DataW.trod enc Tryz.prog W base (fun _ => true) held fuel 47 l = some x) (hl : l.length = 3) :
    ∃ a b c : Int, l = [.int .i64 a, .int .i64 b, .int .i64 c] ∧ (-9223372036854775808 ≤ a ∧ a ≤ 9223372036854775807) ∧ (-9223372036854775808 ≤ b ∧ b ≤ 9223372036854775807) ∧ (-9223372036854775808 ≤ c ∧ c ≤ 9223372036854775807) := by
  obtain ⟨ys, m, _, _, _, hyl, hf⟩ := DataW.trod_array underlying47 h
  have hj : ∀ j, j < 3 → ∃ n : Int, l[j]? = some (.int .i64 n) ∧ -9223372036854775808 ≤ n ∧ n ≤ 9223372036854775807 := fun j hj => by
    have f := hf j hj
    rw [cInt, Nat.mul_one, List.getElem?_eq_getElem (by omega)] at f
    have hj2 : j < l.length := by omega
    have e : (l.drop j).take 1 = [l[j]] := by rw [List.drop_eq_getElem_cons hj2]; rfl
    rw [e] at f
    obtain ⟨k, hk, _, hkw⟩ := DataW.trod_int underlying3 f
    injection hk with hk _
    exact ⟨k, by rw [List.getElem?_eq_getElem hj2, hk], bounds_i64 hkw⟩
  obtain ⟨v0, v1, v2, rfl⟩ := list_three hl
  obtain ⟨a, ha, ha2⟩ := hj 0 (by decide)
  obtain ⟨b, hb, hb2⟩ := hj 1 (by decide)
  obtain ⟨c, hc, hc2⟩ := hj 2 (by decide)
  simp at ha hb hc
  subst ha hb hc
  exact ⟨a, b, c, rfl, ha2, hb2, hc2⟩

theorem cNine : Tryz.prog.cellsOf 55 = 9 := by kernel_rfl
theorem list_nine {l : List Value} (h : l.length = 9) : l = (l.drop 0).take 3 ++ ((l.drop 3).take 3 ++ (l.drop 6).take 3) := by
  match l, h with
  | [_, _, _, _, _, _, _, _, _], _ => rfl
theorem open_arr33 {H : Type} {enc : TypeId × Value → H} {W : World} {base : Nat} {held : Bool} {fuel : Nat} {l : List Value} {x : DataW H × List MemPlace} (h : DataW.trod enc Tryz.prog W base (fun _ => true) held fuel 55 l = some x) (hl : l.length = 9) :
    ∃ a b c d e f g h i : Int, l = [.int .i64 a, .int .i64 b, .int .i64 c, .int .i64 d, .int .i64 e, .int .i64 f, .int .i64 g, .int .i64 h, .int .i64 i] ∧ (-9223372036854775808 ≤ a ∧ a ≤ 9223372036854775807) ∧ (-9223372036854775808 ≤ b ∧ b ≤ 9223372036854775807) ∧ (-9223372036854775808 ≤ c ∧ c ≤ 9223372036854775807) ∧ (-9223372036854775808 ≤ d ∧ d ≤ 9223372036854775807) ∧ (-9223372036854775808 ≤ e ∧ e ≤ 9223372036854775807) ∧ (-9223372036854775808 ≤ f ∧ f ≤ 9223372036854775807) ∧ (-9223372036854775808 ≤ g ∧ g ≤ 9223372036854775807) ∧ (-9223372036854775808 ≤ h ∧ h ≤ 9223372036854775807) ∧ (-9223372036854775808 ≤ i ∧ i ≤ 9223372036854775807) := by
  obtain ⟨ys, m, _, _, _, hyl, hf⟩ := DataW.trod_array underlying55 h
  have hj : ∀ j, j < 3 → ∃ a b c : Int, (l.drop (j * 3)).take 3 = [.int .i64 a, .int .i64 b, .int .i64 c] ∧ (-9223372036854775808 ≤ a ∧ a ≤ 9223372036854775807) ∧ (-9223372036854775808 ≤ b ∧ b ≤ 9223372036854775807) ∧ (-9223372036854775808 ≤ c ∧ c ≤ 9223372036854775807) := fun j hj => by
    have f := hf j hj
    rw [cThree] at f
    obtain ⟨y, hy⟩ : ∃ y, ys[j]? = some y := ⟨_, List.getElem?_eq_getElem (by omega)⟩
    rw [hy] at f
    exact open_arr3 f (by rw [List.length_take, List.length_drop]; omega)
  have e := list_nine hl
  obtain ⟨a, b, c, h1, q1⟩ := hj 0 (by decide)
  obtain ⟨d, e2, f, h2, q2⟩ := hj 1 (by decide)
  obtain ⟨g, h9, i, h3, q3⟩ := hj 2 (by decide)
  simp only [Nat.zero_mul, Nat.one_mul] at h1 h2
  change (l.drop 6).take 3 = _ at h3
  rw [h1, h2, h3] at e
  exact ⟨a, b, c, d, e2, f, g, h9, i, e, q1.1, q1.2.1, q1.2.2, q2.1, q2.2.1, q2.2.2, q3.1, q3.2.1, q3.2.2⟩

end Go.Proofs.YtjeepldonhgohaaGreatDoor

namespace Go.Proofs.YtjeepldonhgohaaGreatDoor
open Go.Proofs.Tryz
open Go Go.RowKit Gw
set_option linter.unusedVariables false
set_option linter.unusedSimpArgs false
set_option maxRecDepth 100000
attribute [local irreducible] Gw.At Gw.Nx Gw.Ops
/-- The proof of a part of the order. -/
def partT (rs : List RowM) (t c : Nat) (lo hi : Int) (f e : Nat) : RP := ⟨(t : Int), (c : Int), lo, hi, ((ordL rs (t : Int) c).length : Nat), (f : Nat), ((ordL rs (t : Int) c).drop f).take (e - f), pathsT (ordL rs (t : Int) c) f (e - f), sumL rs⟩
structure PartOk (rs : List RowM) (t c : Nat) (lo hi : Int) (f e : Nat) : Prop where
  fe : f ≤ e
  el : e ≤ (ordL rs (t : Int) c).length
  ne : 0 < (ordL rs (t : Int) c).length → f < e
  low : ∀ (j : Nat) (r : RowM), (ordL rs (t : Int) c)[j]? = some r → f < j → j < e → lo ≤ valN r c
  high : ∀ (j : Nat) (r : RowM), (ordL rs (t : Int) c)[j]? = some r → f ≤ j → j + 1 < e → valN r c ≤ hi
  first : ∀ r, (ordL rs (t : Int) c)[f]? = some r → f = 0 ∨ valN r c < lo
  last : ∀ r, f < e → (ordL rs (t : Int) c)[e - 1]? = some r → e = (ordL rs (t : Int) c).length ∨ hi < valN r c
theorem part_len {rs : List RowM} {t c f e : Nat} {lo hi : Int} (h : PartOk rs t c lo hi f e) : (partT rs t c lo hi f e).rows.length = e - f := by
  have := h.el
  show (((ordL rs (t : Int) c).drop _).take _).length = _
  rw [List.length_take, List.length_drop]
  omega
theorem comp_part {rs : List RowM} (hs : SortedR rs) (hn : rs.length ≤ 2000) (hok : ∀ r ∈ rs, r.ok) (t c : Nat) (ht : t ≤ 3) (hc : c ≤ 3) {lo hi : Int} {f e : Nat} (hlh : lo ≤ hi) (h : PartOk rs t c lo hi f e) : Comp (partT rs t c lo hi f e) := by
  have h5 := part_len h
  have h1 := h.fe
  have h2 := h.el
  have h3 := h.ne
  have hll := ordL_len hs (t : Int) c
  have hv : ∀ r : RowM, valL r ((c : Nat) : Int) = valN r c := fun r => valL_N r c hc
  refine ⟨⟨⟨?_, ?_⟩, ?_, ?_⟩, hlh, ⟨?_, ?_⟩, ⟨?_, ?_⟩, ?_, ?_, ?_, ?_, ?_⟩
  · show (0 : Int) ≤ (t : Int); omega
  · show (t : Int) < 4; omega
  · show (0 : Int) ≤ (c : Int); omega
  · show (c : Int) < 4; omega
  · show (0 : Int) ≤ ((ordL rs (t : Int) c).length : Int); omega
  · show ((ordL rs (t : Int) c).length : Int) ≤ 2000; omega
  · show (0 : Int) ≤ ((f : Nat) : Int); omega
  · show ((f : Nat) : Int) ≤ ((ordL rs (t : Int) c).length : Int); omega
  · rw [h5]; show _ ≤ ((ordL rs (t : Int) c).length : Int) - ((f : Nat) : Int); omega
  · rw [h5]; intro h0; show ((ordL rs (t : Int) c).length : Int) = 0; omega
  · intro j r hr
    obtain ⟨hj, hr2⟩ := slice_at hr
    have hm := ord_mem (List.mem_of_getElem? hr2)
    have hlo := h.low _ r hr2
    have hhi := h.high _ r hr2
    refine ⟨⟨hok r hm.1, hm.2, ?_, ?_⟩, ?_⟩
    · intro h; change valL r (c : Int) < lo at h; rw [hv] at h; omega
    · intro h; change hi < valL r (c : Int) at h; rw [hv] at h; rw [h5]; omega
    · intro hj0 q hq
      obtain ⟨_, hq2⟩ := slice_at hq
      have := at_lt (ord_strict hs (t : Int) c) (by omega) hq2 hr2
      unfold After
      show valL q (c : Int) < valL r (c : Int) ∨ valL q (c : Int) = valL r (c : Int) ∧ q.k < r.k
      rw [hv, hv]
      exact this
  · intro r hr
    obtain ⟨_, hr2⟩ := slice_at hr
    have hlo := h.first r hr2
    show ((f : Nat) : Int) = 0 ∨ valL r (c : Int) < lo
    rw [hv]
    omega
  · intro r hr
    rw [h5] at hr ⊢
    obtain ⟨hj, hr2⟩ := slice_at hr
    rw [show f + (e - f - 1) = e - 1 by omega] at hr2
    have hhi := h.last r (by omega) hr2
    show ((f : Nat) : Int) + _ = ((ordL rs (t : Int) c).length : Int) ∨ hi < valL r (c : Int)
    rw [hv]
    omega
theorem part_rows {rs : List RowM} (hs : SortedR rs) (hn : rs.length ≤ 2000) (hok : ∀ r ∈ rs, r.ok) (t c : Nat) (ht : t ≤ 3) (hc : c ≤ 3) {lo hi : Int} {f e : Nat} (hlh : lo ≤ hi) (h : PartOk rs t c lo hi f e) : rowsT (partT rs t c lo hi f e) = rangeL rs (t : Int) c lo hi := by
  have hcm := comp_part hs hn hok t c ht hc hlh h
  have h1 := h.fe
  have h2 := h.el
  have h3 := h.ne
  have hv : ∀ r : RowM, valL r ((c : Nat) : Int) = valN r c := fun r => valL_N r c hc
  rw [← filt_ord hs hok t c ht hc lo hi hlh, rows_t hcm]
  show (((ordL rs (t : Int) c).drop f).take (e - f)).filter _ = _
  have e0 : ordL rs (t : Int) c = (ordL rs (t : Int) c).take f ++ (((ordL rs (t : Int) c).drop f).take (e - f) ++ (ordL rs (t : Int) c).drop e) := by
    have e1 : (ordL rs (t : Int) c).drop e = ((ordL rs (t : Int) c).drop f).drop (e - f) := by
      rw [List.drop_drop]; congr 1; omega
    rw [e1, List.take_append_drop, List.take_append_drop]
  conv => rhs; rw [e0]
  rw [List.filter_append, List.filter_append]
  have z1 : ((ordL rs (t : Int) c).take f).filter (inR (t : Int) c lo hi) = [] := by
    rw [List.filter_eq_nil_iff]
    intro r hr h9
    obtain ⟨i, hi9⟩ := List.getElem?_of_mem hr
    rw [List.getElem?_take] at hi9
    split at hi9
    · have hlt := (List.getElem?_eq_some_iff.1 hi9).1
      obtain ⟨x, hx⟩ : ∃ x, (ordL rs (t : Int) c)[f]? = some x := ⟨_, List.getElem?_eq_getElem (by omega)⟩
      have a1 := h.first x hx
      have a2 := ord_mono hs (show i ≤ f by omega) hi9 hx
      have := of_decide_eq_true h9
      omega
    · cases hi9
  have z2 : ((ordL rs (t : Int) c).drop e).filter (inR (t : Int) c lo hi) = [] := by
    rw [List.filter_eq_nil_iff]
    intro r hr h9
    obtain ⟨i, hi9⟩ := List.getElem?_of_mem hr
    rw [List.getElem?_drop] at hi9
    have hlt := (List.getElem?_eq_some_iff.1 hi9).1
    obtain ⟨x, hx⟩ : ∃ x, (ordL rs (t : Int) c)[e - 1]? = some x := ⟨_, List.getElem?_eq_getElem (by omega)⟩
    have a1 := h.last x (h3 (by omega)) hx
    have a2 := ord_mono hs (show e - 1 ≤ e + i by omega) hx hi9
    have := of_decide_eq_true h9
    omega
  rw [z1, z2, List.nil_append, List.append_nil]
  refine List.filter_congr ?_
  intro r hr
  have hm := ord_mem (List.mem_of_mem_drop (List.mem_of_mem_take hr))
  unfold inB inR
  show decide (lo ≤ valL r (c : Int) ∧ valL r (c : Int) ≤ hi) = _
  rw [hv]
  exact decide_eq_decide.2 ⟨fun h => ⟨hm.2, h⟩, fun h => h.2⟩
theorem cut_any {g o c sz a : Nat} (h : a < c) : cutAt (some ⟨g, o, none⟩) a c sz = some ⟨g, o + a * sz, none⟩ := by
  unfold cutAt; rw [if_neg (by omega), Option.map_some, add_addr]
theorem RowsU.sub {M : List Chunk} {p : Option Addr} {n cap a b : Nat} {rs : List RowM} (h : RowsU M (.slice p n cap) rs) (ha : a ≤ b) (hb : b ≤ rs.length) : RowsU M (.slice (cutAt p a cap 5) (b - a) (cap - a)) ((rs.drop a).take (b - a)) := by
  obtain ⟨p', cap', e, hl2, hg⟩ := h
  injection e with e1 e2 e3
  subst e1 e2 e3
  refine ⟨_, _, by rw [List.length_take, List.length_drop, Nat.min_eq_left (by omega)], by rw [List.length_take, List.length_drop]; omega, fun i x hx => ?_⟩
  rw [List.getElem?_take] at hx
  split at hx
  · rw [List.getElem?_drop] at hx
    obtain ⟨g, off, cur, T, zz, rfl, hm, hsz, hex⟩ := hg (a + i) x hx
    rw [cut_any (by omega)]
    exact ⟨g, _, cur, T, zz, rfl, hm, by omega, by rw [show off + a * 5 + i * 5 = off + (a + i) * 5 by omega]; exact hex⟩
  · cases hx
theorem PathsU.sub {M : List Chunk} {p : Option Addr} {n cap a b : Nat} {ps : List (List Bs)} (h : PathsU M (.slice p n cap) ps) (ha : a ≤ b) (hb : b ≤ ps.length) : PathsU M (.slice (cutAt p a cap 1) (b - a) (cap - a)) ((ps.drop a).take (b - a)) := by
  obtain ⟨p', cap', e, hl2, hg⟩ := h
  injection e with e1 e2 e3
  subst e1 e2 e3
  refine ⟨_, _, by rw [List.length_take, List.length_drop, Nat.min_eq_left (by omega)], by rw [List.length_take, List.length_drop]; omega, fun i x hx => ?_⟩
  rw [List.getElem?_take] at hx
  split at hx
  · rw [List.getElem?_drop] at hx
    obtain ⟨q, c, hu, g, off, cur, T, zz, rfl, hm, hex⟩ := hg (a + i) x hx
    rw [cut_any (by omega)]
    exact ⟨q, c, hu, g, _, cur, T, zz, rfl, hm, by rw [show off + a * 1 + i = off + (a + i) by omega]; exact hex⟩
  · cases hx

end Go.Proofs.YtjeepldonhgohaaGreatDoor

namespace Go.Proofs.YtjeepldonhgohaaGreatDoor
open Go.Proofs.Tryz
open Go Go.RowKit Gw
set_option linter.unusedVariables false
set_option linter.unusedSimpArgs false
set_option maxRecDepth 100000
attribute [local irreducible] Gw.At Gw.Nx Gw.Ops
theorem gb_head {z w : Nat} (h : gb (z % 128, decide (z < 128)) = gb (w % 128, decide (w < 128))) : z % 128 = w % 128 ∧ (z < 128 ↔ w < 128) := by
  unfold gb at h
  have h2 := congrArg UInt8.toNat h
  rw [UInt8.toNat_ofNat', UInt8.toNat_ofNat'] at h2
  by_cases hz : z < 128 <;> by_cases hw : w < 128 <;> simp [hz, hw] at h2 ⊢ <;> omega
theorem grps_inj : ∀ (n z w : Nat) (x y : List UInt8), z ≤ n → (grps z).map gb ++ x = (grps w).map gb ++ y → z = w ∧ x = y
  | n, z, w, x, y, hn, h => by
    rw [grps_eq z, grps_eq w, List.map_cons, List.map_cons, List.cons_append, List.cons_append] at h
    injection h with h1 h2
    obtain ⟨h3, h4⟩ := gb_head h1
    by_cases hz : z < 128
    · have hw := h4.1 hz
      rw [if_pos hz, if_pos hw] at h2
      exact ⟨by omega, by simpa using h2⟩
    · have hw : ¬ w < 128 := fun hw => hz (h4.2 hw)
      rw [if_neg hz, if_neg hw] at h2
      match n, hn with
      | 0, hn => omega
      | n + 1, hn =>
        obtain ⟨h5, h6⟩ := grps_inj n (z / 128) (w / 128) x y (by omega) h2
        exact ⟨by omega, h6⟩
theorem zz_inj {a b : Int} (h : zz a = zz b) : a = b := by
  unfold zz at h
  by_cases ha : a < 0 <;> by_cases hb : b < 0 <;> simp [ha, hb] at h <;> omega
theorem encI_inj {a b : Int} {x y : List UInt8} (h : encI a ++ x = encI b ++ y) : a = b ∧ x = y := by
  obtain ⟨h1, h2⟩ := grps_inj _ _ _ _ _ (Nat.le_refl _) h
  exact ⟨zz_inj h1, h2⟩
theorem encRow_inj {r s : RowM} (h : encRow r = encRow s) : r = s := by
  have e : ∀ q : RowM, encRow q = encI q.t ++ (encI q.k ++ (encI q.v.a ++ (encI q.v.b ++ (encI q.v.c ++ [])))) := fun q => by simp [encRow, putAll]
  rw [e, e] at h
  obtain ⟨h1, h⟩ := encI_inj h
  obtain ⟨h2, h⟩ := encI_inj h
  obtain ⟨h3, h⟩ := encI_inj h
  obtain ⟨h4, h⟩ := encI_inj h
  obtain ⟨h5, _⟩ := encI_inj h
  obtain ⟨t, k, ⟨a, b, c⟩⟩ := r
  obtain ⟨t', k', ⟨a', b', c'⟩⟩ := s
  simp only at h1 h2 h3 h4 h5
  subst h1 h2 h3 h4 h5; rfl
/-- The strings whose digests are computed for a root. -/
def hashedT (l : List Bs) : List Bs :=
  if h : 2 ≤ l.length then hashedT (l.take (leftN l.length)) ++ hashedT (l.drop (leftN l.length)) ++ [1 :: (rootT (l.take (leftN l.length)) ++ rootT (l.drop (leftN l.length)))]
  else match l with
    | [] => [[]]
    | x :: _ => [0 :: x]
termination_by l.length
decreasing_by
  · have := left_lt h; rw [List.length_take]; omega
  · have := left_pos l.length; rw [List.length_drop]; omega
theorem hashed_nil : hashedT [] = [[]] := by rw [hashedT]; rfl
theorem hashed_one (x : Bs) : hashedT [x] = [0 :: x] := by rw [hashedT]; rfl
theorem hashed_more {l : List Bs} (h : 2 ≤ l.length) : hashedT l = hashedT (l.take (leftN l.length)) ++ hashedT (l.drop (leftN l.length)) ++ [1 :: (rootT (l.take (leftN l.length)) ++ rootT (l.drop (leftN l.length)))] := by
  rw [hashedT, dif_pos h]
theorem hashed_len : ∀ (n : Nat) (l : List Bs), l.length ≤ n → (hashedT l).length ≤ 2 * l.length + 1 ∧ (0 < l.length → (hashedT l).length + 1 ≤ 2 * l.length)
  | n, l, hn => by
    rcases Nat.lt_or_ge l.length 2 with h | h
    · match l, h with
      | [], _ => rw [hashed_nil]; simp
      | [x], _ => rw [hashed_one]; simp
    · have h1 := left_lt h
      have h2 := left_pos l.length
      match n, hn with
      | 0, hn => omega
      | n + 1, hn =>
        have a1 := hashed_len n (l.take (leftN l.length)) (by rw [List.length_take]; omega)
        have a2 := hashed_len n (l.drop (leftN l.length)) (by rw [List.length_drop]; omega)
        rw [List.length_take] at a1
        rw [List.length_drop] at a2
        rw [hashed_more h, List.length_append, List.length_append, List.length_singleton]
        omega
theorem hashed_ok : ∀ (n : Nat) (l : List Bs) (m : Nat), l.length ≤ n → 65 ≤ m → (∀ s ∈ l, s.length + 1 ≤ m) → ∀ s ∈ hashedT l, s.length ≤ m
  | n, l, m, hn, hm, hl, s, hs => by
    rcases Nat.lt_or_ge l.length 2 with h | h
    · match l, h with
      | [], _ => rw [hashed_nil, List.mem_singleton] at hs; subst hs; simp
      | [x], _ => rw [hashed_one, List.mem_singleton] at hs; subst hs; have := hl x (by simp); rw [List.length_cons]; omega
    · have h1 := left_lt h
      have h2 := left_pos l.length
      match n, hn with
      | 0, hn => omega
      | n + 1, hn =>
        rw [hashed_more h, List.mem_append, List.mem_append, List.mem_singleton] at hs
        rcases hs with (hs | hs) | hs
        · exact hashed_ok n _ m (by rw [List.length_take]; omega) hm (fun s h => hl s (List.mem_of_mem_take h)) s hs
        · exact hashed_ok n _ m (by rw [List.length_drop]; omega) hm (fun s h => hl s (List.mem_of_mem_drop h)) s hs
        · subst hs
          rw [List.length_cons, List.length_append, root_len, root_len]; omega
/-- Two different strings, one of each list, have the same digest. -/
def Coll (a b : List Bs) : Prop := ∃ x ∈ a, ∃ y ∈ b, x ≠ y ∧ sha x = sha y
theorem Coll.mono {a b a' b' : List Bs} (h : Coll a b) (ha : ∀ x ∈ a, x ∈ a') (hb : ∀ x ∈ b, x ∈ b') : Coll a' b' := by
  obtain ⟨x, hx, y, hy, h⟩ := h
  exact ⟨x, ha x hx, y, hb y hy, h⟩
theorem node_bind {a b c d : Bs} (ha : a.length = 32) (hc : c.length = 32) {A B : List Bs} (h1 : (1 :: (a ++ b)) ∈ A) (h2 : (1 :: (c ++ d)) ∈ B) (h : sha (1 :: (a ++ b)) = sha (1 :: (c ++ d))) : (a = c ∧ b = d) ∨ Coll A B := by
  by_cases e : (1 :: (a ++ b) : Bs) = 1 :: (c ++ d)
  · injection e with _ e
    exact .inl (List.append_inj e (by omega))
  · exact .inr ⟨_, h1, _, h2, e, h⟩
theorem leaf_bind {a c : Bs} {A B : List Bs} (h1 : (0 :: a) ∈ A) (h2 : (0 :: c) ∈ B) (h : sha (0 :: a) = sha (0 :: c)) : a = c ∨ Coll A B := by
  by_cases e : (0 :: a : Bs) = 0 :: c
  · injection e with _ e
    exact .inl e
  · exact .inr ⟨_, h1, _, h2, e, h⟩
theorem root_bind : ∀ (n : Nat) (a b : List Bs), a.length ≤ n → a.length = b.length → rootT a = rootT b → a = b ∨ Coll (hashedT a) (hashedT b)
  | n, a, b, hn, hab, h => by
    rcases Nat.lt_or_ge a.length 2 with h2 | h2
    · match a, b, hab, h2 with
      | [], [], _, _ => exact .inl rfl
      | [x], [y], _, _ =>
        rw [root_one, root_one] at h
        rw [hashed_one, hashed_one]
        rcases leaf_bind (List.mem_singleton.2 rfl) (List.mem_singleton.2 rfl) h with e | e
        · exact .inl (by rw [e])
        · exact .inr e
    · have l1 := left_lt h2
      have l2 := left_pos a.length
      match n, hn with
      | 0, hn => omega
      | n + 1, hn =>
        have hb2 : 2 ≤ b.length := by omega
        rw [root_more h2, root_more hb2, ← hab] at h
        rw [hashed_more h2, hashed_more hb2, ← hab]
        rcases node_bind (root_len _) (root_len _) (List.mem_append_right _ (List.mem_singleton.2 rfl)) (List.mem_append_right _ (List.mem_singleton.2 rfl)) h with ⟨e1, e2⟩ | e
        · rcases root_bind n (a.take (leftN a.length)) (b.take (leftN a.length)) (by rw [List.length_take]; omega) (by rw [List.length_take, List.length_take, hab]) e1 with f1 | f1
          · rcases root_bind n (a.drop (leftN a.length)) (b.drop (leftN a.length)) (by rw [List.length_drop]; omega) (by rw [List.length_drop, List.length_drop, hab]) e2 with f2 | f2
            · exact .inl (by rw [← List.take_append_drop (leftN a.length) a, f1, f2, List.take_append_drop])
            · exact .inr (f2.mono (fun x hx => List.mem_append_left _ (List.mem_append_right _ hx)) (fun x hx => List.mem_append_left _ (List.mem_append_right _ hx)))
          · exact .inr (f1.mono (fun x hx => List.mem_append_left _ (List.mem_append_left _ hx)) (fun x hx => List.mem_append_left _ (List.mem_append_left _ hx)))
        · exact .inr e
/-- The strings whose digests are computed when a path, read from its end, is followed. -/
def pathR (s : Bs) : Nat → Nat → List Bs → List Bs
  | _, _, [] => [0 :: s]
  | n, i, x :: rp => if n ≤ 1 then [0 :: s] else if i < leftN n then pathR s (leftN n) i rp ++ [1 :: (sha ((pathR s (leftN n) i rp).getLastD []) ++ x)] else pathR s (n - leftN n) (i - leftN n) rp ++ [1 :: (x ++ sha ((pathR s (n - leftN n) (i - leftN n) rp).getLastD []))]
theorem sha_len' (l : Bs) : (sha l).length = 32 := sha_len l
theorem val_path {s : Bs} : ∀ (rp : List Bs) (n i : Nat) (v : Bs), valR s n i rp = some v → v = sha ((pathR s n i rp).getLastD []) := by
  intro rp
  induction rp with
  | nil =>
    intro n i v h
    unfold valR at h
    split at h
    · injection h with h; rw [← h]; rfl
    · cases h
  | cons x rp ih =>
    intro n i v h
    unfold valR at h
    split at h
    · cases h
    · rename_i hn
      split at h
      · rename_i hi
        obtain ⟨w, hw, rfl⟩ := Option.map_eq_some_iff.1 h
        rw [pathR, if_neg hn, if_pos hi, List.getLastD_concat, ← ih _ _ _ hw]; rfl
      · rename_i hi
        obtain ⟨w, hw, rfl⟩ := Option.map_eq_some_iff.1 h
        rw [pathR, if_neg hn, if_neg hi, List.getLastD_concat, ← ih _ _ _ hw]; rfl
theorem path_leaf (s : Bs) : ∀ (rp : List Bs) (n i : Nat), (0 :: s) ∈ pathR s n i rp := by
  intro rp
  induction rp with
  | nil => intro n i; exact List.mem_singleton.2 rfl
  | cons x rp ih =>
    intro n i
    rw [pathR]
    split
    · exact List.mem_singleton.2 rfl
    · split
      · exact List.mem_append_left _ (ih _ _)
      · exact List.mem_append_left _ (ih _ _)
theorem val_bind {s : Bs} : ∀ (rp : List Bs) (l : List Bs) (i : Nat), i < l.length → (∀ x ∈ rp, x.length = 32) → valR s l.length i rp = some (rootT l) → (l[i]? = some s ∧ rp = (proofT l i).reverse) ∨ Coll (pathR s l.length i rp) (hashedT l) := by
  intro rp
  induction rp with
  | nil =>
    intro l i hi hr h
    unfold valR at h
    split at h
    · rename_i hn
      match l, hi, hn with
      | [x], hi, _ =>
        injection h with h
        rw [root_one] at h
        rw [hashed_one]
        rcases leaf_bind (a := s) (c := x) (path_leaf s _ _ _) (List.mem_singleton.2 rfl) h with e | e
        · obtain rfl : i = 0 := by simpa using hi
          exact .inl ⟨by rw [e]; rfl, by rw [proof_one (by simp)]; rfl⟩
        · exact .inr e
    · cases h
  | cons x rp ih =>
    intro l i hi hr h
    unfold valR at h
    split at h
    · cases h
    · rename_i hn
      have h2 : 2 ≤ l.length := by omega
      have l1 := left_lt h2
      have l2 := left_pos l.length
      have hx := hr x (by simp)
      have hr2 : ∀ y ∈ rp, y.length = 32 := fun y hy => hr y (List.mem_cons_of_mem _ hy)
      rw [root_more h2] at h
      rw [hashed_more h2]
      split at h
      · rename_i hi2
        obtain ⟨w, hw, hwe⟩ := Option.map_eq_some_iff.1 h
        have hwp := val_path rp _ _ _ hw
        have hwl : w.length = 32 := by rw [hwp]; exact sha_len' _
        rw [pathR, if_neg hn, if_pos hi2, ← hwp]
        rcases node_bind hwl (root_len _) (List.mem_append_right _ (List.mem_singleton.2 rfl)) (List.mem_append_right _ (List.mem_singleton.2 rfl)) hwe with ⟨e1, e2⟩ | e
        · have hlt : (l.take (leftN l.length)).length = leftN l.length := by rw [List.length_take]; omega
          rw [e1] at hw
          have := ih (l.take (leftN l.length)) i (by rw [hlt]; exact hi2) hr2 (by rw [hlt]; exact hw)
          rw [hlt] at this
          rcases this with ⟨f1, f2⟩ | f
          · rw [List.getElem?_take, if_pos hi2] at f1
            exact .inl ⟨f1, by rw [proof_first h2 hi2, List.reverse_append, ← f2, ← e2]; rfl⟩
          · exact .inr (f.mono (fun y hy => List.mem_append_left _ hy) (fun y hy => List.mem_append_left _ (List.mem_append_left _ hy)))
        · exact .inr e
      · rename_i hi2
        obtain ⟨w, hw, hwe⟩ := Option.map_eq_some_iff.1 h
        have hwp := val_path rp _ _ _ hw
        have hwl : w.length = 32 := by rw [hwp]; exact sha_len' _
        rw [pathR, if_neg hn, if_neg hi2, ← hwp]
        rcases node_bind hx (root_len _) (List.mem_append_right _ (List.mem_singleton.2 rfl)) (List.mem_append_right _ (List.mem_singleton.2 rfl)) hwe with ⟨e1, e2⟩ | e
        · have hlt : (l.drop (leftN l.length)).length = l.length - leftN l.length := List.length_drop ..
          rw [e2] at hw
          have := ih (l.drop (leftN l.length)) (i - leftN l.length) (by rw [hlt]; omega) hr2 (by rw [hlt]; exact hw)
          rw [hlt] at this
          rcases this with ⟨f1, f2⟩ | f
          · rw [List.getElem?_drop, show leftN l.length + (i - leftN l.length) = i by omega] at f1
            exact .inl ⟨f1, by rw [proof_second h2 hi2, List.reverse_append, ← f2, ← e1]; rfl⟩
          · exact .inr (f.mono (fun y hy => List.mem_append_left _ hy) (fun y hy => List.mem_append_left _ (List.mem_append_right _ hy)))
        · exact .inr e
/-- The strings whose digests are computed for the root of a state. -/
def allT (rs : List RowM) : List Bs := hashedT (sumL rs) ++ tcs.flatMap fun x => hashedT (encL (ordL rs (x.1 : Int) x.2))
theorem all_sum {rs : List RowM} : ∀ x ∈ hashedT (sumL rs), x ∈ allT rs := fun x hx => List.mem_append_left _ hx
theorem all_ord {rs : List RowM} {t c : Nat} (ht : t < 4) (hc : c < 4) : ∀ x ∈ hashedT (encL (ordL rs (t : Int) c)), x ∈ allT rs := fun x hx =>
  List.mem_append_right _ (List.mem_flatMap.2 ⟨(t, c), List.mem_of_getElem? (tc_at t ht c hc), hx⟩)

end Go.Proofs.YtjeepldonhgohaaGreatDoor

namespace Go.Proofs.YtjeepldonhgohaaGreatDoor
open Go.Proofs.Tryz
open Go Go.RowKit Gw
set_option linter.unusedVariables false
set_option linter.unusedSimpArgs false
set_option maxRecDepth 100000
attribute [local irreducible] Gw.At Gw.Nx Gw.Ops
theorem sum_at (rs : List RowM) {t c : Nat} (ht : t < 4) (hc : c < 4) : (sumL rs)[4 * t + c]? = some (summ rs (t, c)) := by
  unfold sumL
  rw [List.getElem?_map, tc_at t ht c hc]; rfl
end Go.Proofs.YtjeepldonhgohaaGreatDoor

namespace Go.Proofs.YtjeepldonhgohaaGreatDoor
open Go.Proofs.Tryz
open Go Go.RowKit Gw
set_option linter.unusedVariables false
set_option linter.unusedSimpArgs false
set_option maxRecDepth 100000
attribute [local irreducible] Gw.At Gw.Nx Gw.Ops
/-- What a proof that is right for the root of a state says of the state. -/
structure Bound (rs : List RowM) (x : RP) : Prop where
  roots : x.roots = sumL rs
  ct : x.ct = ((ordL rs x.tb x.cl.toNat).length : Int)
  row : ∀ (k : Nat) (r : RowM), x.rows[k]? = some r → (ordL rs x.tb x.cl.toNat)[x.fi.toNat + k]? = some r
  path : ∀ (k : Nat) (pf : List Bs), k < x.rows.length → x.paths[k]? = some pf → pf = proofT (encL (ordL rs x.tb x.cl.toNat)) (x.fi.toNat + k)
def pathC (x : RP) (k : Nat) : List Bs := match x.rows[k]?, x.paths[k]? with
  | some r, some pf => pathR (encRow r) x.ct.toNat (x.fi.toNat + k) pf.reverse
  | _, _ => []
/-- The strings whose digests are computed when a proof is verified. -/
def computedT (x : RP) : List Bs := (hashedT x.roots ++ [[]]) ++ (List.range (min x.rows.length x.paths.length)).flatMap (pathC x)
theorem pathC_at {x : RP} {k : Nat} {r : RowM} {pf : List Bs} (hr : x.rows[k]? = some r) (hp : x.paths[k]? = some pf) : pathC x k = pathR (encRow r) x.ct.toNat (x.fi.toNat + k) pf.reverse := by
  unfold pathC; rw [hr, hp]
theorem comp_root {x : RP} : ∀ y ∈ hashedT x.roots, y ∈ computedT x := fun _ h => List.mem_append_left _ (List.mem_append_left _ h)
theorem comp_path {x : RP} {k : Nat} {r : RowM} {pf : List Bs} (hr : x.rows[k]? = some r) (hp : x.paths[k]? = some pf) : ∀ y ∈ pathR (encRow r) x.ct.toNat (x.fi.toNat + k) pf.reverse, y ∈ computedT x := fun y h => by
  have h1 := (List.getElem?_eq_some_iff.1 hr).1
  have h2 := (List.getElem?_eq_some_iff.1 hp).1
  exact List.mem_append_right _ (List.mem_flatMap.2 ⟨k, List.mem_range.2 (by omega), by rw [pathC_at hr hp]; exact h⟩)
theorem odd_all {pf : List Bs} (h : pf.any oddS = false) : ∀ y ∈ pf, y.length = 32 := fun y hy => by
  have := List.any_eq_false.1 h y hy
  unfold oddS at this
  simpa using this
theorem ver_bind {rs : List RowM} {x : RP} (h : VerP (rootS rs) x) : Bound rs x ∨ Coll (computedT x) (allT rs) := by
  by_cases hc : Coll (computedT x) (allT rs)
  · exact .inr hc
  left
  obtain ⟨⟨ht0, ht4⟩, hc0, hc4⟩ := h.comp.tc
  obtain ⟨t, ht⟩ := nat_of ht0
  obtain ⟨c, hcl⟩ := nat_of hc0
  have htl : t < 4 := by omega
  have hcl4 : c < 4 := by omega
  have e1 : x.roots = sumL rs := by
    rcases root_bind _ x.roots (sumL rs) (Nat.le_refl _) (by rw [sumL_len, h.n16]) h.root with e | e
    · exact e
    · exact absurd (e.mono comp_root all_sum) hc
  obtain ⟨d, hd, hr, hz, hv⟩ := h.sum
  rw [ht, hcl, Int.toNat_natCast, Int.toNat_natCast, e1, sum_at rs htl hcl4] at hr
  injection hr with hr
  unfold summ at hr
  obtain ⟨e2, e3⟩ := encI_inj hr
  have e4 : ordL rs x.tb x.cl.toNat = ordL rs (t : Int) c := by rw [ht, hcl, Int.toNat_natCast]
  have hrow : ∀ (k : Nat) (r : RowM) (pf : List Bs), x.rows[k]? = some r → x.paths[k]? = some pf → (ordL rs (t : Int) c)[x.fi.toNat + k]? = some r ∧ pf = proofT (encL (ordL rs (t : Int) c)) (x.fi.toNat + k) := by
    intro k r pf hk hp
    have hkl := (List.getElem?_eq_some_iff.1 hk).1
    have hn := h.comp.n
    have hf := h.comp.fi
    have hv1 := hv (by omega) k r pf hk hp
    unfold verT at hv1
    rw [Bool.and_eq_true, Bool.not_eq_true', decide_eq_true_eq] at hv1
    obtain ⟨h32, hval⟩ := hv1
    have hct : (encL (ordL rs (t : Int) c)).length = x.ct.toNat := by rw [encL_len]; simp only at e2; omega
    have hb := val_bind (s := encRow r) pf.reverse (encL (ordL rs (t : Int) c)) (x.fi.toNat + k) (by rw [hct]; omega) (fun y hy => odd_all h32 y (List.mem_reverse.1 hy)) (by rw [hct, hval, e3])
    rw [hct] at hb
    rcases hb with ⟨f1, f2⟩ | f
    · unfold encL at f1
      rw [List.getElem?_map] at f1
      obtain ⟨q, hq, he⟩ := Option.map_eq_some_iff.1 f1
      rw [encRow_inj he] at hq
      exact ⟨hq, List.reverse_inj.1 f2⟩
    · exact absurd (f.mono (comp_path hk hp) (all_ord htl hcl4)) hc
  refine ⟨e1, by rw [e4]; exact e2.symm, fun k r hk => ?_, fun k pf hkl hp => ?_⟩
  · have hkl := (List.getElem?_eq_some_iff.1 hk).1
    rw [e4]
    exact (hrow k r _ hk (List.getElem?_eq_getElem (by rw [h.np]; exact hkl))).1
  · rw [e4]
    exact (hrow k _ pf (List.getElem?_eq_getElem hkl) hp).2
theorem bound_part {rs : List RowM} {x : RP} (hb : Bound rs x) (hc : Comp x) : PartOk rs x.tb.toNat x.cl.toNat x.lo x.hi x.fi.toNat (x.fi.toNat + x.rows.length) ∧ x.rows = ((ordL rs x.tb x.cl.toNat).drop x.fi.toNat).take x.rows.length := by
  obtain ⟨⟨ht0, ht4⟩, hc0, hc4⟩ := hc.tc
  have hft := hb.row
  have hfp := hb.ct
  have hcn := hc.n
  have hcf := hc.fi
  have hno := hc.none
  have e4 : ordL rs ((x.tb.toNat : Nat) : Int) x.cl.toNat = ordL rs x.tb x.cl.toNat := by rw [show ((x.tb.toNat : Nat) : Int) = x.tb by omega]
  have hv : ∀ r : RowM, valL r x.cl = valN r x.cl.toNat := fun r => by
    have := valL_N r x.cl.toNat (by omega)
    rwa [show ((x.cl.toNat : Nat) : Int) = x.cl by omega] at this
  have hat : ∀ j, x.fi.toNat ≤ j → j < x.fi.toNat + x.rows.length → ∀ r, (ordL rs x.tb x.cl.toNat)[j]? = some r → x.rows[j - x.fi.toNat]? = some r := by
    intro j h1 h2 r hr
    obtain ⟨q, hq⟩ : ∃ q, x.rows[j - x.fi.toNat]? = some q := ⟨_, List.getElem?_eq_getElem (by omega)⟩
    have := hft _ q hq
    rw [show x.fi.toNat + (j - x.fi.toNat) = j by omega, hr] at this
    rw [hq, this]
  refine ⟨⟨by omega, by rw [e4]; omega, fun h0 => ?_, fun j r hr h1 h2 => ?_, fun j r hr h1 h2 => ?_, fun r hr => ?_, fun r h1 hr => ?_⟩, ?_⟩
  · rw [e4] at h0
    by_cases h9 : x.rows.length = 0
    · have := hno h9; omega
    · omega
  · rw [e4] at hr
    have h3 := (hc.all _ r (hat j (by omega) h2 r hr)).1.2.2.1
    rw [hv] at h3
    omega
  · rw [e4] at hr
    have h3 := (hc.all _ r (hat j h1 (by omega) r hr)).1.2.2.2
    rw [hv] at h3
    omega
  · rw [e4] at hr
    have hlt := (List.getElem?_eq_some_iff.1 hr).1
    by_cases h9 : x.rows.length = 0
    · have := hno h9; omega
    · have h3 := hc.first r (by have := hat x.fi.toNat (Nat.le_refl _) (by omega) r hr; rwa [Nat.sub_self] at this)
      rw [hv] at h3
      omega
  · rw [e4] at hr ⊢
    have h3 := hc.last r (by have := hat (x.fi.toNat + x.rows.length - 1) (by omega) (by omega) r hr; rwa [show x.fi.toNat + x.rows.length - 1 - x.fi.toNat = x.rows.length - 1 by omega] at this)
    rw [hv] at h3
    omega
  · apply List.ext_getElem?
    intro j
    rw [List.getElem?_take]
    split
    · rename_i hj
      obtain ⟨q, hq⟩ : ∃ q, x.rows[j]? = some q := ⟨_, List.getElem?_eq_getElem hj⟩
      rw [List.getElem?_drop, hft j q hq, hq]
    · exact List.getElem?_eq_none (by omega)
/-- An accepted proof is about exactly the rows of its range. -/
theorem bound_rows {rs : List RowM} (hs : SortedR rs) (hn : rs.length ≤ 2000) (hok : ∀ r ∈ rs, r.ok) {x : RP} (hb : Bound rs x) (hc : Comp x) : rowsT x = rangeL rs x.tb x.cl.toNat x.lo x.hi := by
  obtain ⟨h1, h2⟩ := bound_part hb hc
  obtain ⟨⟨ht0, ht4⟩, hc0, hc4⟩ := hc.tc
  have h3 := part_rows hs hn hok x.tb.toNat x.cl.toNat (by omega) (by omega) hc.lh h1
  have h4 := comp_part hs hn hok x.tb.toNat x.cl.toNat (by omega) (by omega) hc.lh h1
  rw [show ((x.tb.toNat : Nat) : Int) = x.tb by omega] at h3
  rw [← h3, rows_t hc, rows_t h4]
  have e1 : (partT rs x.tb.toNat x.cl.toNat x.lo x.hi x.fi.toNat (x.fi.toNat + x.rows.length)).rows = x.rows := by
    show ((ordL rs ((x.tb.toNat : Nat) : Int) x.cl.toNat).drop x.fi.toNat).take (x.fi.toNat + x.rows.length - x.fi.toNat) = x.rows
    rw [show ((x.tb.toNat : Nat) : Int) = x.tb by omega, show x.fi.toNat + x.rows.length - x.fi.toNat = x.rows.length by omega]
    exact h2.symm
  rw [e1]
  refine List.filter_congr fun r _ => ?_
  unfold inB
  show decide (x.lo ≤ valL r x.cl ∧ valL r x.cl ≤ x.hi) = decide (x.lo ≤ valL r ((x.cl.toNat : Nat) : Int) ∧ valL r ((x.cl.toNat : Nat) : Int) ≤ x.hi)
  rw [show ((x.cl.toNat : Nat) : Int) = x.cl by omega]
end Go.Proofs.YtjeepldonhgohaaGreatDoor

namespace Go.Proofs.YtjeepldonhgohaaGreatDoor
open Go.Proofs.Tryz
open Go Go.RowKit Gw
set_option linter.unusedVariables false
set_option linter.unusedSimpArgs false
set_option maxRecDepth 100000
attribute [local irreducible] Gw.At Gw.Nx Gw.Ops
def bumpV (r : RowM) (j : Nat) : RowM := ⟨r.t, r.k, ⟨if j = 0 then r.v.a + 1 else r.v.a, if j = 1 then r.v.b + 1 else r.v.b, if j = 2 then r.v.c + 1 else r.v.c⟩⟩
/-- Two entries of a list change places. -/
def swapL {α : Type} (l : List α) (k : Nat) : List α := match l[0]?, l[k]? with
  | some x, some y => (l.set 0 y).set k x
  | _, _ => l
/-- A damaged proof: what is changed, where, and how. -/
def damK (x : RP) (kind k : Nat) (c : Int) : RP :=
  if kind = 0 then { x with fi := x.fi + 1 }
  else if kind = 1 then { x with ct := x.ct - 1 }
  else if kind = 2 then { x with lo := x.lo - 1 - (pickN c 5 : Int) }
  else if kind = 3 then { x with hi := x.hi + 1 + (pickN c 5 : Int) }
  else if kind = 4 then { x with rows := match x.rows[k]? with
    | some r => x.rows.set k (bumpV r (pickN c 3))
    | none => x.rows }
  else if kind = 5 then { x with rows := x.rows.eraseIdx k, paths := x.paths.eraseIdx k }
  else if kind = 6 then { x with rows := swapL x.rows k, paths := swapL x.paths k }
  else if kind = 7 then { x with paths := match x.paths[k]? with
    | some l => x.paths.set k (l.set 0 (sha [120]))
    | none => x.paths }
  else if kind = 8 then { x with roots := x.roots.set (pickN c x.roots.length) (sha [121]) }
  else if kind = 9 then { x with cl := (pickN c 4 : Int) }
  else if kind = 10 then { x with rows := [], paths := [], ct := 0, fi := 0 }
  else x
def damT (x : RP) (a b c : Int) : RP := damK x (pickN a 12) (pickN b (max x.rows.length 1)) c
end Go.Proofs.YtjeepldonhgohaaGreatDoor
