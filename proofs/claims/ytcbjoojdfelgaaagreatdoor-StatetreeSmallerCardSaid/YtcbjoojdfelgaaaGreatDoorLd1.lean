/- What the rows list and what the arguments read as, in chunks. -/
/- Arguments of four integers. -/
/- Parts of the order of a table that are proofs; parts of slices. -/
/- The records that integers determine, as a function. -/
import Derived.Test.YtcbjoojdfelgaaaGreatDoorEz
import Derived.Test.YtcbjoojdfelgaaaGreatDoorTr14
import Derived.ProofKit
import Derived.OpenShut
import Derived.ChangeOld
import Derived.Deep.Slices
import Derived.SliceStrings
import Derived.Lib.LaidTab
import Derived.Test.YtcbjoojdfelgaaaGreatDoorRows
import Derived.Test.YtcbjoojdfelgaaaGreatDoorEx19

namespace Go.Proofs.YtcbjoojdfelgaaaGreatDoor
open Go.Proofs.Tryz
open Go Go.RowKit Gw
set_option linter.unusedVariables false
set_option linter.unusedSimpArgs false
set_option maxRecDepth 100000
attribute [local irreducible] Gw.At Gw.Nx Gw.Ops
open Go.ChangeShapes Go.WideShapes Go.Deep
theorem adr0 (ad : Addr) : ad.add 0 = ad := by simp [Addr.add]
theorem adr_spot {w : World} {a : Addr} {v : Value} (h : w.cell? a = some v) : a = ⟨a.block, a.off, none⟩ := by
  cases a with | mk b o s =>
  cases s with
  | none => rfl
  | some s =>
    simp only [World.cell?] at h
    split at h <;> simp at h
theorem cell_heap {w : World} {g i : Nat} {v : Value} (h : w.cell? ⟨g, i, none⟩ = some v) : ∃ cur T z, w.heap[g]? = some (.cells cur T z) ∧ cur[i]? = some v := by
  unfold World.cell? at h
  simp only at h
  split at h
  · rename_i c T z hc
    exact ⟨c, T, z, hc, by simpa using h⟩
  · cases h
section
variable {H : Type} {enc : TypeId × Value → H} {P : Program} {w : World} {base : Nat} {held : Bool}
end
/-- All the chunks of a world. -/
def wholeL (w : World) : List Chunk := (List.range w.heap.size).filterMap fun b => (w.heap[b]?).map fun o => (b, o)
theorem mem_whole {w : World} {b : Nat} {o : Obj} : (b, o) ∈ wholeL w ↔ w.heap[b]? = some o := by
  unfold wholeL
  rw [List.mem_filterMap]
  constructor
  · rintro ⟨a, _, ha⟩
    obtain ⟨o', h1, h2⟩ := Option.map_eq_some_iff.1 ha
    injection h2 with e1 e2
    subst e1 e2
    exact h1
  · intro h
    refine ⟨b, ?_, by rw [h]; rfl⟩
    rw [List.mem_range]
    rcases Nat.lt_or_ge b w.heap.size with h1 | h1
    · exact h1
    · simp [Array.getElem?_eq_none h1] at h
theorem whole_keys (w : World) : ((wholeL w).map (·.1)).Nodup := by
  have : ∀ l : List Nat, ((l.filterMap fun b => (w.heap[b]?).map fun o => (b, o)).map (·.1)).Sublist l := by
    intro l
    induction l with
    | nil => simp
    | cons a l ih =>
      rw [List.filterMap_cons]
      cases h : w.heap[a]? with
      | none => simp only [Option.map_none]; exact ih.cons a
      | some o => simp only [Option.map_some, List.map_cons]; exact ih.cons_cons a
  exact List.Nodup.sublist (this _) List.nodup_range
def restL (w : World) (ks : List Nat) : List Chunk := (wholeL w).filter fun c => !ks.contains c.1
theorem mem_rest {w : World} {ks : List Nat} {b : Nat} {o : Obj} (h : w.heap[b]? = some o) (hk : b ∉ ks) : (b, o) ∈ restL w ks := by
  unfold restL
  rw [List.mem_filter]
  exact ⟨mem_whole.2 h, by simp [hk]⟩
theorem law_below {P : Program} {f : FuncId} {args : Array Value} {v : Value} {w : World} (L : List Chunk) (hL : ∀ c ∈ L, w.heap[c.1]? = some c.2) (hn : (L.map (·.1)).Nodup) {H : Hp} (hH : H.flatten = L ++ restL w (L.map (·.1))) (h : DoesR P f args H v) :
    Calls P f args w fun e w' => e = .returned v ∧ Below w.heap.size w w' := by
  have hsat : Sat w (H ++ []) w := by
    refine ⟨rfl, rfl, rfl, ?_, ?_⟩
    · rw [List.append_nil, hH, List.map_append, List.nodup_append]
      refine ⟨hn, ?_, ?_⟩
      · exact List.Nodup.sublist (List.filter_sublist.map _) (whole_keys w)
      · intro a ha b hb e
        subst e
        obtain ⟨c, hc, rfl⟩ := List.mem_map.1 hb
        unfold restL at hc
        have := (List.mem_filter.1 hc).2
        simp only [Bool.not_eq_true', List.contains_eq_mem, decide_eq_false_iff_not] at this
        exact this ha
    · intro p hp
      rw [List.append_nil, hH, List.mem_append] at hp
      rcases hp with hp | hp
      · exact hL p hp
      · exact mem_whole.1 (List.mem_filter.1 hp).1
  refine Calls.mono (h w [] w hsat) fun e w' he => ?_
  rcases he with ⟨v', H', rfl, ⟨rfl, rfl⟩, hs⟩ | ⟨_, _, _, hf, _⟩
  · refine ⟨rfl, hs.os, hs.tape, hs.output, ?_, ?_⟩
    · rcases Nat.eq_zero_or_pos w.heap.size with h0 | h0
      · omega
      · have hlt : w.heap.size - 1 < w.heap.size := by omega
        have hg : w.heap[w.heap.size - 1]? = some w.heap[w.heap.size - 1] := Array.getElem?_eq_getElem hlt
        have : w'.heap[w.heap.size - 1]? = some w.heap[w.heap.size - 1] := by
          by_cases hk : (w.heap.size - 1) ∈ L.map (·.1)
          · obtain ⟨c, hc, hk⟩ := List.mem_map.1 hk
            have h1 := hs.get c (by rw [List.append_nil, hH]; exact List.mem_append_left _ hc)
            have h2 := hL c hc
            rw [hk] at h1 h2
            rw [h1, ← h2, hg]
          · exact hs.get (_, _) (by rw [List.append_nil, hH]; exact List.mem_append_right _ (mem_rest hg hk))
        rcases Nat.lt_or_ge (w.heap.size - 1) w'.heap.size with h1 | h1
        · omega
        · rw [Array.getElem?_eq_none h1] at this; cases this
    · intro k hk
      have hg : w.heap[k]? = some w.heap[k] := Array.getElem?_eq_getElem hk
      by_cases hm : k ∈ L.map (·.1)
      · obtain ⟨c, hc, rfl⟩ := List.mem_map.1 hm
        have h1 := hs.get c (by rw [List.append_nil, hH]; exact List.mem_append_left _ hc)
        rw [h1, hL c hc]
      · rw [hg]
        exact hs.get (_, _) (by rw [List.append_nil, hH]; exact List.mem_append_right _ (mem_rest hg hm))
  · exact hf.elim

theorem var_heap {P : Program} {w : World} {n : String} {g : Nat} {cs : Array Value} (hg : P.globalNamed n = some g) (h : w.var? P n = some cs) : ∃ T z, w.heap[g]? = some (.cells cs T z) := by
  unfold World.var? at h
  rw [hg, Option.bind_some] at h
  split at h
  · rename_i c T z hc
    injection h with e
    subst e
    exact ⟨T, z, hc⟩
  · cases h

theorem gRound : Tryz.prog.globalNamed "cachetier/digest.round" = some 0 := by kernel_rfl
theorem tRound : (Tryz.prog.globals[0]?).map (·.type) = some 155 := by kernel_rfl
theorem c32 : Tryz.prog.cellsOf 109 = 1 := by kernel_rfl
theorem cTab : Tryz.prog.cellsOf 155 = 64 := by kernel_rfl
def roundZ : List Int := kTab.map fun x => (x.toNat : Int)
theorem round_data : (Rows.laid_cachetier_digest_round : DataW Unit) = Lib.tabData .u32 roundZ := by kernel_rfl
theorem round_cells : (roundZ.map fun z => Value.int .u32 z).toArray = (kTab.map u32v).toArray := by kernel_rfl
theorem of_laid1 {r : List (String × DataW Unit)} {W : World} (h : laidMet Tryz.prog (("cachetier/digest.round", Rows.laid_cachetier_digest_round) :: r) W) :
    ∃ Tg zg, W.heap[0]? = some (.cells (kTab.map u32v).toArray Tg zg) := by
  rw [round_data] at h
  have h2 := Lib.tabIs_of_head gRound tRound underlying155 underlying109 c32 cTab h
  unfold Lib.TabIs at h2
  rw [round_cells] at h2
  obtain ⟨Tg, zg, hb⟩ := var_heap gRound h2
  exact ⟨Tg, zg, hb⟩
def isArg : Value → Bool
  | .string _ => true
  | .slice _ _ _ => true
  | .bool _ => true
  | .int .i64 _ => true
  | _ => false
theorem glob_ne1 {W : World} {Tg : TypeId} {zg : Nat × Nat} (h4 : W.heap[0]? = some (.cells (kTab.map u32v).toArray Tg zg))
    {g i : Nat} {cur : Array Value} {T : TypeId} {z : Nat × Nat} (hb : W.heap[g]? = some (.cells cur T z)) {y : Value} (hc : cur[i]? = some y) (ha : isArg y = true) : g ∉ [0] := by
  intro hm
  simp only [List.mem_cons, List.not_mem_nil, or_false] at hm
  subst hm
  rw [h4] at hb
  injection hb with e
  injection e with e1 _ _
  subst e1
  rw [List.getElem?_toArray, List.getElem?_map] at hc
  obtain ⟨u, _, rfl⟩ := Option.map_eq_some_iff.1 hc
  simp [u32v, isArg] at ha
/-- A law's contract at a world that holds what the rows list. -/
theorem law_at1 {f : FuncId} {args : Array Value} {v : Value} {W : World} {Tg : TypeId} {zg : Nat × Nat} (h4 : W.heap[0]? = some (.cells (kTab.map u32v).toArray Tg zg))
    (h : DoesR Tryz.prog f args [[(0, .cells (kTab.map u32v).toArray Tg zg)], restL W [0]] v) :
    Calls Tryz.prog f args W fun e w' => e = .returned v ∧ Below W.heap.size W w' :=
  law_below [(0, .cells (kTab.map u32v).toArray Tg zg)] (by
    intro c hc
    simp only [List.mem_cons, List.not_mem_nil, or_false] at hc
    subst hc; exact h4) (by simp) (by simp) h
theorem list_choose {α : Type} : ∀ (n : Nat) (p : Nat → α → Prop), (∀ i, i < n → ∃ o, p i o) → ∃ os : List α, os.length = n ∧ ∀ i o, os[i]? = some o → p i o
  | 0, _, _ => ⟨[], rfl, fun i o h => by cases h⟩
  | n + 1, p, h => by
    obtain ⟨os, h1, h2⟩ := list_choose n p (fun i hi => h i (by omega))
    obtain ⟨o, ho⟩ := h n (by omega)
    refine ⟨os ++ [o], by simp [h1], fun i o' hi => ?_⟩
    rw [List.getElem?_append] at hi
    split at hi
    · exact h2 i o' hi
    · rename_i hlt
      have : i = n := by
        have := (List.getElem?_eq_some_iff.1 hi).1
        simp at this; omega
      subst this
      rw [h1, Nat.sub_self] at hi
      simp only [List.getElem?_cons_zero, Option.some.injEq] at hi
      subst hi; exact ho
section
variable {H : Type} {enc : TypeId × Value → H} {P : Program} {W : World} {base : Nat} {held : Bool}
/-- A slice, its elements' cells one after another. -/
theorem open_cells {t e : TypeId} {s fuel : Nat} {cs : List Value} {x : DataW H × List MemPlace} (ht : P.underlying t = some (.slice e)) (hc : P.cellsOf e = s) (hs : 0 < s) (h : DataW.trod enc P W base (fun _ => true) held fuel t cs = some x) :
    ∃ p len cap, cs = [.slice p len cap] ∧ (len ≤ maxLen ∧ len ≤ cap) ∧ ∀ i, i < len → ∃ cs' n z, cs'.length = s ∧ DataW.trod enc P W base (fun _ => true) held n e cs' = some z ∧
      ∃ g o cur T zz, p = some ⟨g, o, none⟩ ∧ W.heap[g]? = some (.cells cur T zz) ∧ ∀ j, j < s → cur[o + i * s + j]? = cs'[j]? := by
  rcases open_slice ht h with ⟨rfl, _⟩ | ⟨a, len, cap, m, n, D, Pl, rfl, _, hl, hm, hmm, _, hel⟩
  · exact ⟨none, 0, 0, rfl, ⟨Nat.zero_le _, Nat.le_refl _⟩, fun i hi => by omega⟩
  · simp only [if_true] at hmm
    subst hmm
    refine ⟨some a, len, m, rfl, ⟨by omega, hl⟩, fun i hi => ?_⟩
    have hsp2 : a = ⟨a.block, a.off, none⟩ := by
      obtain ⟨cs0, g1, _⟩ := hel 0 (by omega)
      rw [hc] at g1
      obtain ⟨_, glen, gg⟩ := World.cells?_some g1
      have g9 := gg 0 hs
      rw [List.getElem?_eq_getElem (l := cs0) (i := 0) (by omega), Nat.zero_mul, adr0, adr0] at g9
      exact adr_spot g9
    obtain ⟨cs', h1, h2⟩ := hel i (by omega)
    rw [hc] at h1
    obtain ⟨_, hlen, hg⟩ := World.cells?_some h1
    refine ⟨cs', n, _, hlen, h2, ?_⟩
    have h9 := hg 0 hs
    rw [List.getElem?_eq_getElem (l := cs') (i := 0) (by omega), hsp2, add_addr, add_addr] at h9
    obtain ⟨cur, T, zz, hb, _⟩ := cell_heap h9
    refine ⟨a.block, a.off, cur, T, zz, by rw [← hsp2], hb, fun j hj => ?_⟩
    have h8 := hg j hj
    rw [List.getElem?_eq_getElem (l := cs') (i := j) (by omega)] at h8 ⊢
    rw [hsp2, add_addr, add_addr] at h8
    obtain ⟨cur2, T2, zz2, hb2, hc2⟩ := cell_heap h8
    rw [hb] at hb2
    injection hb2 with e
    injection e with e1 _ _
    rw [e1]; exact hc2
end

theorem cInt : Tryz.prog.cellsOf 3 = 1 := by kernel_rfl
theorem cSix : Tryz.prog.cellsOf 80 = 6 := by kernel_rfl

theorem open_sixes1 {H : Type} {enc : TypeId × Value → H} {W : World} {base : Nat} {held : Bool} {Tg : TypeId} {zg : Nat × Nat} (h4 : W.heap[0]? = some (.cells (kTab.map u32v).toArray Tg zg)) {fuel : Nat} {cs : List Value} {x : DataW H × List MemPlace} (h : DataW.trod enc Tryz.prog W base (fun _ => true) held fuel 22 cs = some x) :
    ∃ v xs, cs = [v] ∧ SixIn (restL W [0]) v xs := by
  obtain ⟨p, len, cap, rfl, hl, hel⟩ := open_cells underlying22 cSix (by decide) h
  obtain ⟨xs, h1, h2⟩ := list_choose len (fun i (z : List Int) => z.length = 6 ∧ (∀ n ∈ z, -9223372036854775808 ≤ n ∧ n ≤ 9223372036854775807) ∧ ∃ g o cur T zz, p = some ⟨g, o, none⟩ ∧ (g, Obj.cells cur T zz) ∈ restL W [0] ∧ ∀ (j : Nat) (n : Int), z[j]? = some n → cur[o + i * 6 + j]? = some (.int .i64 n)) (fun i hi => by
    obtain ⟨cs', n, z, hlen, ht, g, o, cur, T, zz, hp, hb, hc⟩ := hel i hi
    obtain ⟨ys, m, _, _, _, hyl, hf⟩ := DataW.trod_array underlying80 ht
    obtain ⟨ns, hn1, hn2⟩ := list_choose 6 (fun j (n : Int) => (-9223372036854775808 ≤ n ∧ n ≤ 9223372036854775807) ∧ cs'[j]? = some (.int .i64 n)) (fun j hj => by
      have f := hf j hj
      rw [cInt, Nat.mul_one, List.getElem?_eq_getElem (by omega)] at f
      have hj2 : j < cs'.length := by omega
      have e : (cs'.drop j).take 1 = [cs'[j]] := by rw [List.drop_eq_getElem_cons hj2]; rfl
      rw [e] at f
      obtain ⟨k, hk, _, hkw⟩ := DataW.trod_int underlying3 f
      injection hk with hk _
      exact ⟨k, bounds_i64 hkw, by rw [List.getElem?_eq_getElem hj2, hk]⟩)
    have hat : ∀ (j : Nat) (n : Int), ns[j]? = some n → cur[o + i * 6 + j]? = some (.int .i64 n) := fun j n hj => by
      have hlt := (List.getElem?_eq_some_iff.1 hj).1
      rw [hc j (by omega)]
      exact (hn2 j n hj).2
    obtain ⟨n0, hn0⟩ : ∃ n, ns[0]? = some n := ⟨_, List.getElem?_eq_getElem (by omega)⟩
    exact ⟨ns, hn1, fun n hmem => by
      obtain ⟨j, hj⟩ := List.getElem?_of_mem hmem
      exact (hn2 j n hj).1, g, o, cur, T, zz, hp, mem_rest hb (glob_ne1 h4 hb (hat 0 n0 hn0) rfl), hat⟩)
  subst h1
  exact ⟨_, xs, rfl, p, cap, rfl, hl, h2⟩

end Go.Proofs.YtcbjoojdfelgaaaGreatDoor

namespace Go.Proofs.YtcbjoojdfelgaaaGreatDoor
open Go.Proofs.Tryz
open Go Go.RowKit Gw
set_option linter.unusedVariables false
set_option linter.unusedSimpArgs false
set_option maxRecDepth 100000
attribute [local irreducible] Gw.At Gw.Nx Gw.Ops
open Go.ChangeShapes Go.WideShapes Go.Deep
theorem okWide_arr {P : Program} {w : World} {r : Reach} {base n : Nat} {t e : TypeId} {v : Value} (hu : P.underlying t = some (.array n e)) (h : Value.okWide P w r base t v) : ∃ cs, v = .agg cs ∧ cs.size = P.cellsOf t := by
  unfold Value.okWide at h
  rw [hu] at h
  obtain ⟨cs, rfl, h1, _⟩ := h
  exact ⟨cs, rfl, h1⟩
theorem cFour : Tryz.prog.cellsOf 49 = 4 := by kernel_rfl
theorem list_four {l : List Value} (h : l.length = 4) : ∃ a b c d, l = [a, b, c, d] := by
  match l, h with
  | [a, b, c, d], _ => exact ⟨a, b, c, d, rfl⟩
theorem open_arr4 {H : Type} {enc : TypeId × Value → H} {W : World} {base : Nat} {held : Bool} {fuel : Nat} {l : List Value} {x : DataW H × List MemPlace} (h : DataW.trod enc Tryz.prog W base (fun _ => true) held fuel 49 l = some x) (hl : l.length = 4) :
    ∃ a b c d : Int, l = [.int .i64 a, .int .i64 b, .int .i64 c, .int .i64 d] ∧ (-9223372036854775808 ≤ a ∧ a ≤ 9223372036854775807) ∧ (-9223372036854775808 ≤ b ∧ b ≤ 9223372036854775807) ∧ (-9223372036854775808 ≤ c ∧ c ≤ 9223372036854775807) ∧ (-9223372036854775808 ≤ d ∧ d ≤ 9223372036854775807) := by
  obtain ⟨ys, m, _, _, _, hyl, hf⟩ := DataW.trod_array underlying49 h
  have hj : ∀ j, j < 4 → ∃ n : Int, l[j]? = some (.int .i64 n) ∧ -9223372036854775808 ≤ n ∧ n ≤ 9223372036854775807 := fun j hj => by
    have f := hf j hj
    rw [cInt, Nat.mul_one, List.getElem?_eq_getElem (by omega)] at f
    have hj2 : j < l.length := by omega
    have e : (l.drop j).take 1 = [l[j]] := by rw [List.drop_eq_getElem_cons hj2]; rfl
    rw [e] at f
    obtain ⟨k, hk, _, hkw⟩ := DataW.trod_int underlying3 f
    injection hk with hk _
    exact ⟨k, by rw [List.getElem?_eq_getElem hj2, hk], bounds_i64 hkw⟩
  obtain ⟨v0, v1, v2, v3, rfl⟩ := list_four hl
  obtain ⟨a, ha, ha2⟩ := hj 0 (by decide)
  obtain ⟨b, hb, hb2⟩ := hj 1 (by decide)
  obtain ⟨c, hc, hc2⟩ := hj 2 (by decide)
  obtain ⟨d, hd, hd2⟩ := hj 3 (by decide)
  simp at ha hb hc hd
  subst ha hb hc hd
  exact ⟨a, b, c, d, rfl, ha2, hb2, hc2, hd2⟩

end Go.Proofs.YtcbjoojdfelgaaaGreatDoor

namespace Go.Proofs.YtcbjoojdfelgaaaGreatDoor
open Go.Proofs.Tryz
open Go Go.RowKit Gw
set_option linter.unusedVariables false
set_option linter.unusedSimpArgs false
set_option maxRecDepth 100000
attribute [local irreducible] Gw.At Gw.Nx Gw.Ops
/-- The proof of a part of the order. -/
def partT (rs : List RowM) (t c : Nat) (lo hi : Int) (f e : Nat) : RP := ⟨(t : Int), (c : Int), lo, hi, ((ordL rs (t : Int) c).length : Nat), (f : Nat), ((ordL rs (t : Int) c).drop f).take (e - f), pathsT (ordL rs (t : Int) c) f (e - f), sumL rs⟩
structure PartOk (rs : List RowM) (t c : Nat) (lo hi : Int) (f e : Nat) : Prop where
  fe : f ≤ e
  el : e ≤ (ordL rs (t : Int) c).length
  ne : 0 < (ordL rs (t : Int) c).length → f < e
  low : ∀ (j : Nat) (r : RowM), (ordL rs (t : Int) c)[j]? = some r → f < j → j < e → lo ≤ valN r c
  high : ∀ (j : Nat) (r : RowM), (ordL rs (t : Int) c)[j]? = some r → f ≤ j → j + 1 < e → valN r c ≤ hi
  first : ∀ r, (ordL rs (t : Int) c)[f]? = some r → f = 0 ∨ valN r c < lo
  last : ∀ r, f < e → (ordL rs (t : Int) c)[e - 1]? = some r → e = (ordL rs (t : Int) c).length ∨ hi < valN r c
theorem part_prove (rs : List RowM) (t c : Nat) (lo hi : Int) : proveT rs t c lo hi = partT rs t c lo hi (fromT (ordL rs (t : Int) c) c lo) (toT (ordL rs (t : Int) c) c hi) := rfl
theorem part_ok {rs : List RowM} (hs : SortedR rs) (t c : Nat) (lo hi : Int) (hlh : lo ≤ hi) : PartOk rs t c lo hi (fromT (ordL rs (t : Int) c) c lo) (toT (ordL rs (t : Int) c) c hi) := by
  have h1 := first_mono hs t c lo hi hlh
  have h2 := first_le (geV c lo) (ordL rs (t : Int) c)
  have h3 := first_le (gtV c hi) (ordL rs (t : Int) c)
  have h4 := prove_nums hs t c lo hi hlh
  have hf : fromT (ordL rs (t : Int) c) c lo = firstN (geV c lo) (ordL rs (t : Int) c) - 1 := rfl
  have hto : toT (ordL rs (t : Int) c) c hi = min (firstN (gtV c hi) (ordL rs (t : Int) c) + 1) (ordL rs (t : Int) c).length := rfl
  refine ⟨h4.1, h4.2.1, h4.2.2, fun j r hr hj _ => (lo_at hs t c lo hr).1 (by omega), fun j r hr _ hj => (hi_at hs t c hi hr).2 (by omega), fun r hr => ?_, fun r hfe hr => ?_⟩
  · have := (lo_at hs t c lo hr).2; omega
  · have := (hi_at hs t c hi hr).1; omega
theorem part_len {rs : List RowM} {t c f e : Nat} {lo hi : Int} (h : PartOk rs t c lo hi f e) : (partT rs t c lo hi f e).rows.length = e - f := by
  have := h.el
  show (((ordL rs (t : Int) c).drop _).take _).length = _
  rw [List.length_take, List.length_drop]
  omega
theorem comp_part {rs : List RowM} (hs : SortedR rs) (hn : rs.length ≤ 2000) (hok : ∀ r ∈ rs, r.ok) (t c : Nat) (ht : t ≤ 3) (hc : c ≤ 3) {lo hi : Int} {f e : Nat} (hlh : lo ≤ hi) (h : PartOk rs t c lo hi f e) : Comp (partT rs t c lo hi f e) := by
  have h5 := part_len h
  have h1 := h.fe
  have h2 := h.el
  have h3 := h.ne
  have hll := ordL_len hs (t : Int) c
  have hv : ∀ r : RowM, valL r ((c : Nat) : Int) = valN r c := fun r => valL_N r c hc
  refine ⟨⟨⟨?_, ?_⟩, ?_, ?_⟩, hlh, ⟨?_, ?_⟩, ⟨?_, ?_⟩, ?_, ?_, ?_, ?_, ?_⟩
  · show (0 : Int) ≤ (t : Int); omega
  · show (t : Int) < 4; omega
  · show (0 : Int) ≤ (c : Int); omega
  · show (c : Int) < 4; omega
  · show (0 : Int) ≤ ((ordL rs (t : Int) c).length : Int); omega
  · show ((ordL rs (t : Int) c).length : Int) ≤ 2000; omega
  · show (0 : Int) ≤ ((f : Nat) : Int); omega
  · show ((f : Nat) : Int) ≤ ((ordL rs (t : Int) c).length : Int); omega
  · rw [h5]; show _ ≤ ((ordL rs (t : Int) c).length : Int) - ((f : Nat) : Int); omega
  · rw [h5]; intro h0; show ((ordL rs (t : Int) c).length : Int) = 0; omega
  · intro j r hr
    obtain ⟨hj, hr2⟩ := slice_at hr
    have hm := ord_mem (List.mem_of_getElem? hr2)
    have hlo := h.low _ r hr2
    have hhi := h.high _ r hr2
    refine ⟨⟨hok r hm.1, hm.2, ?_, ?_⟩, ?_⟩
    · intro h; change valL r (c : Int) < lo at h; rw [hv] at h; omega
    · intro h; change hi < valL r (c : Int) at h; rw [hv] at h; rw [h5]; omega
    · intro hj0 q hq
      obtain ⟨_, hq2⟩ := slice_at hq
      have := at_lt (ord_strict hs (t : Int) c) (by omega) hq2 hr2
      unfold After
      show valL q (c : Int) < valL r (c : Int) ∨ valL q (c : Int) = valL r (c : Int) ∧ q.k < r.k
      rw [hv, hv]
      exact this
  · intro r hr
    obtain ⟨_, hr2⟩ := slice_at hr
    have hlo := h.first r hr2
    show ((f : Nat) : Int) = 0 ∨ valL r (c : Int) < lo
    rw [hv]
    omega
  · intro r hr
    rw [h5] at hr ⊢
    obtain ⟨hj, hr2⟩ := slice_at hr
    rw [show f + (e - f - 1) = e - 1 by omega] at hr2
    have hhi := h.last r (by omega) hr2
    show ((f : Nat) : Int) + _ = ((ordL rs (t : Int) c).length : Int) ∨ hi < valL r (c : Int)
    rw [hv]
    omega
theorem ver_part {rs : List RowM} (hs : SortedR rs) (hn : rs.length ≤ 2000) (hok : ∀ r ∈ rs, r.ok) (t c : Nat) (ht : t ≤ 3) (hc : c ≤ 3) {lo hi : Int} {f e : Nat} (hlh : lo ≤ hi) (h : PartOk rs t c lo hi f e) : VerP (rootS rs) (partT rs t c lo hi f e) := by
  have h5 := part_len h
  refine ⟨comp_part hs hn hok t c ht hc hlh h, sumL_len rs, ?_, rfl, rootT (encL (ordL rs (t : Int) c)), root_len _, ?_, ?_, ?_⟩
  · rw [h5]; exact pathsT_len _ _ _
  · show (sumL rs)[4 * (t : Int).toNat + (c : Int).toNat]? = some (encI ((ordL rs (t : Int) c).length : Int) ++ _)
    rw [Int.toNat_natCast, Int.toNat_natCast]
    unfold sumL
    rw [List.getElem?_map, tc_at t (by omega) c (by omega)]
    rfl
  · intro h0
    change ((ordL rs (t : Int) c).length : Int) = 0 at h0
    rw [List.eq_nil_of_length_eq_zero (show (ordL rs (t : Int) c).length = 0 by omega)]; rfl
  · intro _ k r pf hr hp
    obtain ⟨hk, hr2⟩ := slice_at hr
    change (pathsT (ordL rs (t : Int) c) f _)[k]? = some pf at hp
    unfold pathsT at hp
    rw [List.getElem?_map, List.getElem?_range hk] at hp
    injection hp with hp
    subst hp
    show verT _ ((ordL rs (t : Int) c).length : Int).toNat (((f : Nat) : Int).toNat + k) _ _ = true
    rw [Int.toNat_natCast, Int.toNat_natCast, ← encL_len (ordL rs (t : Int) c)]
    refine ver_proof ?_
    unfold encL
    rw [List.getElem?_map, hr2]; rfl
theorem part_rows {rs : List RowM} (hs : SortedR rs) (hn : rs.length ≤ 2000) (hok : ∀ r ∈ rs, r.ok) (t c : Nat) (ht : t ≤ 3) (hc : c ≤ 3) {lo hi : Int} {f e : Nat} (hlh : lo ≤ hi) (h : PartOk rs t c lo hi f e) : rowsT (partT rs t c lo hi f e) = rangeL rs (t : Int) c lo hi := by
  have hcm := comp_part hs hn hok t c ht hc hlh h
  have h1 := h.fe
  have h2 := h.el
  have h3 := h.ne
  have hv : ∀ r : RowM, valL r ((c : Nat) : Int) = valN r c := fun r => valL_N r c hc
  rw [← filt_ord hs hok t c ht hc lo hi hlh, rows_t hcm]
  show (((ordL rs (t : Int) c).drop f).take (e - f)).filter _ = _
  have e0 : ordL rs (t : Int) c = (ordL rs (t : Int) c).take f ++ (((ordL rs (t : Int) c).drop f).take (e - f) ++ (ordL rs (t : Int) c).drop e) := by
    have e1 : (ordL rs (t : Int) c).drop e = ((ordL rs (t : Int) c).drop f).drop (e - f) := by
      rw [List.drop_drop]; congr 1; omega
    rw [e1, List.take_append_drop, List.take_append_drop]
  conv => rhs; rw [e0]
  rw [List.filter_append, List.filter_append]
  have z1 : ((ordL rs (t : Int) c).take f).filter (inR (t : Int) c lo hi) = [] := by
    rw [List.filter_eq_nil_iff]
    intro r hr h9
    obtain ⟨i, hi9⟩ := List.getElem?_of_mem hr
    rw [List.getElem?_take] at hi9
    split at hi9
    · have hlt := (List.getElem?_eq_some_iff.1 hi9).1
      obtain ⟨x, hx⟩ : ∃ x, (ordL rs (t : Int) c)[f]? = some x := ⟨_, List.getElem?_eq_getElem (by omega)⟩
      have a1 := h.first x hx
      have a2 := ord_mono hs (show i ≤ f by omega) hi9 hx
      have := of_decide_eq_true h9
      omega
    · cases hi9
  have z2 : ((ordL rs (t : Int) c).drop e).filter (inR (t : Int) c lo hi) = [] := by
    rw [List.filter_eq_nil_iff]
    intro r hr h9
    obtain ⟨i, hi9⟩ := List.getElem?_of_mem hr
    rw [List.getElem?_drop] at hi9
    have hlt := (List.getElem?_eq_some_iff.1 hi9).1
    obtain ⟨x, hx⟩ : ∃ x, (ordL rs (t : Int) c)[e - 1]? = some x := ⟨_, List.getElem?_eq_getElem (by omega)⟩
    have a1 := h.last x (h3 (by omega)) hx
    have a2 := ord_mono hs (show e - 1 ≤ e + i by omega) hx hi9
    have := of_decide_eq_true h9
    omega
  rw [z1, z2, List.nil_append, List.append_nil]
  refine List.filter_congr ?_
  intro r hr
  have hm := ord_mem (List.mem_of_mem_drop (List.mem_of_mem_take hr))
  unfold inB inR
  show decide (lo ≤ valL r (c : Int) ∧ valL r (c : Int) ≤ hi) = _
  rw [hv]
  exact decide_eq_decide.2 ⟨fun h => ⟨hm.2, h⟩, fun h => h.2⟩
/-- Where the shortened proof begins and ends. -/
theorem part_less {rs : List RowM} (hs : SortedR rs) {t c : Nat} {lo hi low high : Int} {f e a b : Nat} (h : PartOk rs t c lo hi f e) (h1 : lo ≤ low) (h2 : high ≤ hi) (ha : a ≤ b) (hb : b ≤ e - f) (hne : 0 < e - f → a < b)
    (hlo : ∀ r, a + 1 < b → (ordL rs (t : Int) c)[f + (a + 1)]? = some r → low ≤ valN r c) (hfi : a = 0 ∨ ∀ r, (ordL rs (t : Int) c)[f + a]? = some r → valN r c < low)
    (hhi : ∀ r, a + 2 ≤ b → (ordL rs (t : Int) c)[f + (b - 2)]? = some r → valN r c ≤ high) (hla : b = e - f ∨ ∀ r, (ordL rs (t : Int) c)[f + (b - 1)]? = some r → high < valN r c) : PartOk rs t c low high (f + a) (f + b) := by
  have g1 := h.fe
  have g2 := h.el
  have g3 := h.ne
  refine ⟨by omega, by omega, fun h0 => by have := g3 h0; omega, fun j r hr hj hj2 => ?_, fun j r hr hj hj2 => ?_, fun r hr => ?_, fun r hfe hr => ?_⟩
  · obtain ⟨x, hx⟩ : ∃ x, (ordL rs (t : Int) c)[f + (a + 1)]? = some x := ⟨_, List.getElem?_eq_getElem (by omega)⟩
    have := hlo x (by omega) hx
    have := ord_mono hs (show f + (a + 1) ≤ j by omega) hx hr
    omega
  · obtain ⟨x, hx⟩ : ∃ x, (ordL rs (t : Int) c)[f + (b - 2)]? = some x := ⟨_, List.getElem?_eq_getElem (by omega)⟩
    have := hhi x (by omega) hx
    have := ord_mono hs (show j ≤ f + (b - 2) by omega) hr hx
    omega
  · rcases hfi with h9 | h9
    · subst h9
      have := h.first r hr
      omega
    · exact .inr (h9 r hr)
  · rcases hla with h9 | h9
    · rw [show f + b - 1 = e - 1 by omega] at hr
      have := h.last r (by omega) hr
      omega
    · rw [show f + b - 1 = f + (b - 1) by omega] at hr
      exact .inr (h9 r hr)
theorem part_sub (rs : List RowM) (t c : Nat) (lo hi low high : Int) {f e a b : Nat} (ha : a ≤ b) (hb : b ≤ e - f) :
    (partT rs t c low high (f + a) (f + b)).rows = ((partT rs t c lo hi f e).rows.drop a).take (b - a) ∧ (partT rs t c low high (f + a) (f + b)).paths = ((partT rs t c lo hi f e).paths.drop a).take (b - a) := by
  constructor
  · show ((ordL rs (t : Int) c).drop (f + a)).take (f + b - (f + a)) = ((((ordL rs (t : Int) c).drop f).take (e - f)).drop a).take (b - a)
    rw [List.drop_take, List.take_take, List.drop_drop]
    congr 1; omega
  · show pathsT (ordL rs (t : Int) c) (f + a) (f + b - (f + a)) = ((pathsT (ordL rs (t : Int) c) f (e - f)).drop a).take (b - a)
    apply list_eq
    · rw [List.length_take, List.length_drop, pathsT_len, pathsT_len]; omega
    · intro j hj
      rw [pathsT_len] at hj
      unfold pathsT
      rw [List.getElem?_take, if_pos (by omega), List.getElem?_drop, List.getElem?_map, List.getElem?_map, List.getElem?_range hj, List.getElem?_range (by omega)]
      show some (proofT _ (f + a + j)) = some (proofT _ (f + (a + j)))
      rw [Nat.add_assoc]
theorem cut_any {g o c sz a : Nat} (h : a < c) : cutAt (some ⟨g, o, none⟩) a c sz = some ⟨g, o + a * sz, none⟩ := by
  unfold cutAt; rw [if_neg (by omega), Option.map_some, add_addr]
theorem RowsU.sub {M : List Chunk} {p : Option Addr} {n cap a b : Nat} {rs : List RowM} (h : RowsU M (.slice p n cap) rs) (ha : a ≤ b) (hb : b ≤ rs.length) : RowsU M (.slice (cutAt p a cap 5) (b - a) (cap - a)) ((rs.drop a).take (b - a)) := by
  obtain ⟨p', cap', e, hl2, hg⟩ := h
  injection e with e1 e2 e3
  subst e1 e2 e3
  refine ⟨_, _, by rw [List.length_take, List.length_drop, Nat.min_eq_left (by omega)], by rw [List.length_take, List.length_drop]; omega, fun i x hx => ?_⟩
  rw [List.getElem?_take] at hx
  split at hx
  · rw [List.getElem?_drop] at hx
    obtain ⟨g, off, cur, T, zz, rfl, hm, hsz, hex⟩ := hg (a + i) x hx
    rw [cut_any (by omega)]
    exact ⟨g, _, cur, T, zz, rfl, hm, by omega, by rw [show off + a * 5 + i * 5 = off + (a + i) * 5 by omega]; exact hex⟩
  · cases hx
theorem PathsU.sub {M : List Chunk} {p : Option Addr} {n cap a b : Nat} {ps : List (List Bs)} (h : PathsU M (.slice p n cap) ps) (ha : a ≤ b) (hb : b ≤ ps.length) : PathsU M (.slice (cutAt p a cap 1) (b - a) (cap - a)) ((ps.drop a).take (b - a)) := by
  obtain ⟨p', cap', e, hl2, hg⟩ := h
  injection e with e1 e2 e3
  subst e1 e2 e3
  refine ⟨_, _, by rw [List.length_take, List.length_drop, Nat.min_eq_left (by omega)], by rw [List.length_take, List.length_drop]; omega, fun i x hx => ?_⟩
  rw [List.getElem?_take] at hx
  split at hx
  · rw [List.getElem?_drop] at hx
    obtain ⟨q, c, hu, g, off, cur, T, zz, rfl, hm, hex⟩ := hg (a + i) x hx
    rw [cut_any (by omega)]
    exact ⟨q, c, hu, g, _, cur, T, zz, rfl, hm, by rw [show off + a * 1 + i = off + (a + i) by omega]; exact hex⟩
  · cases hx

end Go.Proofs.YtcbjoojdfelgaaaGreatDoor

namespace Go.Proofs.YtcbjoojdfelgaaaGreatDoor
open Go.Proofs.Tryz
open Go Go.RowKit Gw
set_option linter.unusedVariables false
set_option linter.unusedSimpArgs false
set_option maxRecDepth 100000
attribute [local irreducible] Gw.At Gw.Nx Gw.Ops
/-- An integer made not negative. -/
def absN (z : Int) : Nat := if z < 0 then (-(z + 1)).toNat else z.toNat
theorem abs_neg {z : Int} (h : z < 0) : (-(z + 1)).toNat = absN z := (if_pos h).symm
theorem abs_pos {z : Int} (h : ¬ z < 0) : z.toNat = absN z := (if_neg h).symm
def hasC (had : Bool) (m : Nat) : Bool := !had || decide (0 < m % 4)
def newV (m : Nat) : V3 := ⟨((m / 4 % 10 : Nat) : Int), ((1 + m / 40 % 9 : Nat) : Int), ((m / 400 % 40 : Nat) : Int) - 20⟩
def chgOf (gr : RowM × Bool) (n m : Nat) : Chg := ⟨((n % 3 : Nat) : Int), ((1 + n / 3 % 9 : Nat) : Int), gr.2, gr.1.v, hasC gr.2 m, if hasC gr.2 m then newV m else V3.zero⟩
def chgAt (rs : List RowM) (n m : Nat) : Chg := chgOf (getL rs ((n % 3 : Nat) : Int) ((1 + n / 3 % 9 : Nat) : Int)) n m
def sameTK (c y : Chg) : Bool := decide (y.t = c.t ∧ y.k = c.k)
def skipC (cs : List Chg) (c : Chg) (k n : Nat) : Prop := cs.any (sameTK c) = true ∨ (c.had = true ∧ c.has = true ∧ c.o = c.n) ∨ (0 < k ∧ n % 5 = 0)
instance (cs : List Chg) (c : Chg) (k n : Nat) : Decidable (skipC cs c k n) := inferInstanceAs (Decidable (_ ∨ _))
def behind (c y : Chg) : Prop := c.t < y.t ∨ y.t = c.t ∧ c.k < y.k
instance (c y : Chg) : Decidable (behind c y) := inferInstanceAs (Decidable (_ ∨ _))
def posC (cs : List Chg) (c : Chg) : Nat → Nat
  | 0 => 0
  | j + 1 => match cs[j]? with
    | some y => if behind c y then posC cs c j else j + 1
    | none => j + 1
theorem pos_step {cs : List Chg} {c y : Chg} {j : Nat} (h0 : 0 < j) (hy : cs[j - 1]? = some y) (h : behind c y) : posC cs c j = posC cs c (j - 1) := by
  obtain ⟨k, rfl⟩ : ∃ k, j = k + 1 := ⟨j - 1, by omega⟩
  rw [Nat.add_sub_cancel] at hy ⊢
  rw [posC, hy]; exact if_pos h
theorem pos_stop {cs : List Chg} {c y : Chg} {j : Nat} (h0 : 0 < j) (hy : cs[j - 1]? = some y) (h : ¬ behind c y) : posC cs c j = j := by
  obtain ⟨k, rfl⟩ : ∃ k, j = k + 1 := ⟨j - 1, by omega⟩
  rw [Nat.add_sub_cancel] at hy
  rw [posC, hy]; exact if_neg h
theorem pos_zero {cs : List Chg} {c : Chg} {j : Nat} (h0 : ¬ 0 < j) : posC cs c j = j := by
  obtain rfl : j = 0 := by omega
  rfl
noncomputable def stepC (rs : List RowM) (z : List Int) (k : Nat) (cs : List Chg) : List Chg :=
  if skipC cs (chgAt rs (absN (z.getD (2 * k) 0)) (absN (z.getD (2 * k + 1) 0))) k (absN (z.getD (2 * k) 0)) then cs
  else cs.take (posC cs (chgAt rs (absN (z.getD (2 * k) 0)) (absN (z.getD (2 * k + 1) 0))) cs.length) ++ [chgAt rs (absN (z.getD (2 * k) 0)) (absN (z.getD (2 * k + 1) 0))] ++ cs.drop (posC cs (chgAt rs (absN (z.getD (2 * k) 0)) (absN (z.getD (2 * k + 1) 0))) cs.length)
noncomputable def chgsOf (rs : List RowM) (z : List Int) : Nat → List Chg
  | 0 => []
  | k + 1 => stepC rs z k (chgsOf rs z k)
theorem at_getD {z : List Int} {i : Nat} {n : Int} (h : z[i]? = some n) : z.getD i 0 = n := by rw [List.getD_eq_getElem?_getD, h]; rfl
theorem chgs_skip {rs : List RowM} {z : List Int} {k n m : Nat} {za zb : Int} {cs : List Chg} {c : Chg} (hcs : cs = chgsOf rs z k) (ha : z[2 * k]? = some za) (hb : z[2 * k + 1]? = some zb) (hn : n = absN za) (hm : m = absN zb) (hc : c = chgAt rs n m) (h : skipC cs c k n) : cs = chgsOf rs z (k + 1) := by
  subst hn hm hc
  show _ = stepC rs z k (chgsOf rs z k)
  unfold stepC
  rw [at_getD ha, at_getD hb, ← hcs, if_pos h]
theorem chgs_put {rs : List RowM} {z : List Int} {k n m j : Nat} {za zb : Int} {cs : List Chg} {c : Chg} (hcs : cs = chgsOf rs z k) (ha : z[2 * k]? = some za) (hb : z[2 * k + 1]? = some zb) (hn : n = absN za) (hm : m = absN zb) (hc : c = chgAt rs n m) (h : ¬ skipC cs c k n) (hj : posC cs c cs.length = j) : cs.take j ++ [c] ++ cs.drop j = chgsOf rs z (k + 1) := by
  subst hn hm hc hj
  show _ = stepC rs z k (chgsOf rs z k)
  unfold stepC
  rw [at_getD ha, at_getD hb, ← hcs, if_neg h]
def rowsC (L : List (List Chg)) : List RowM := L.foldl putAllR []
theorem rowsC_of (l : List RecM) : rowsC (l.map RecM.cs) = rowsOf l := by unfold rowsC rowsOf; rw [List.foldl_map]
noncomputable instance (rs : List RowM) (p q : Int) (cs : List Chg) : Decidable (AppOk rs p q cs) := Classical.propDecidable _
noncomputable def logStep (L : List (List Chg)) (z : List Int) : List (List Chg) :=
  if AppOk (rowsC L) (L.length : Int) ((L.length : Int) + 1) (chgsOf (rowsC L) z 3) then L ++ [chgsOf (rowsC L) z 3] else L
/-- The changes of the records that integers determine. -/
noncomputable def logF (xs : List (List Int)) : List (List Chg) := xs.foldl logStep []
theorem logF_snoc {xs : List (List Int)} {i : Nat} {z : List Int} (hz : xs[i]? = some z) : logF (xs.take (i + 1)) = logStep (logF (xs.take i)) z := by
  unfold logF
  rw [List.take_add_one, hz, List.foldl_append]; rfl
theorem log_yes {xs : List (List Int)} {i : Nat} {z : List Int} {rcs : List RecM} {r : RecM} (hz : xs[i]? = some z) (hl : rcs.map RecM.cs = logF (xs.take i)) (hc : r.cs = chgsOf (rowsOf rcs) z 3) (h : AppOk (rowsOf rcs) (rcs.length : Int) ((rcs.length : Int) + 1) r.cs) : (rcs ++ [r]).map RecM.cs = logF (xs.take (i + 1)) := by
  rw [logF_snoc hz, ← hl]
  unfold logStep
  rw [rowsC_of, List.length_map, ← hc, if_pos h, List.map_append]; rfl
theorem log_no {xs : List (List Int)} {i : Nat} {z : List Int} {rcs : List RecM} {cs : List Chg} (hz : xs[i]? = some z) (hl : rcs.map RecM.cs = logF (xs.take i)) (hc : cs = chgsOf (rowsOf rcs) z 3) (h : ¬ AppOk (rowsOf rcs) (rcs.length : Int) ((rcs.length : Int) + 1) cs) : rcs.map RecM.cs = logF (xs.take (i + 1)) := by
  rw [logF_snoc hz, ← hl]
  unfold logStep
  rw [rowsC_of, List.length_map, ← hc, if_neg h]
theorem any_tk {cs : List Chg} {p : Chg → Bool} {i : Nat} {x : Chg} (hx : cs[i]? = some x) : (cs.take (i + 1)).any p = ((cs.take i).any p || p x) := by
  rw [List.take_add_one, hx, List.any_append]; simp
theorem any_one {cs : List Chg} {p : Chg → Bool} {i : Nat} {x : Chg} {b b' : Bool} (hx : cs[i]? = some x) (hb : b = (cs.take i).any p) (h : b' = (b || p x)) : b' = (cs.take (i + 1)).any p := by
  rw [any_tk hx, ← hb, h]

end Go.Proofs.YtcbjoojdfelgaaaGreatDoor
