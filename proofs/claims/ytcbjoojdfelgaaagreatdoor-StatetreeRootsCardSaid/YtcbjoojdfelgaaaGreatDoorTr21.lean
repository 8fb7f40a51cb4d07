/- What the rows list and what the arguments read as, in chunks. -/
/- Parts of the order of a table that are proofs; parts of slices. -/
/- What a root determines, unless two different strings have the same digest. -/
/- Two states with one root; a record undone. -/
import Derived.Test.YtcbjoojdfelgaaaGreatDoorEz
import Derived.Test.YtcbjoojdfelgaaaGreatDoorTr14
import Derived.ProofKit
import Derived.OpenShut
import Derived.ChangeOld
import Derived.Deep.Slices
import Derived.SliceStrings
import Derived.Lib.LaidTab
import Derived.Test.YtcbjoojdfelgaaaGreatDoorRows

namespace Go.Proofs.YtcbjoojdfelgaaaGreatDoor
open Go.Proofs.Tryz
open Go Go.RowKit Gw
set_option linter.unusedVariables false
set_option linter.unusedSimpArgs false
set_option maxRecDepth 100000
attribute [local irreducible] Gw.At Gw.Nx Gw.Ops
open Go.ChangeShapes Go.WideShapes Go.Deep
theorem adr0 (ad : Addr) : ad.add 0 = ad := by simp [Addr.add]
theorem adr_spot {w : World} {a : Addr} {v : Value} (h : w.cell? a = some v) : a = ⟨a.block, a.off, none⟩ := by
  cases a with | mk b o s =>
  cases s with
  | none => rfl
  | some s =>
    simp only [World.cell?] at h
    split at h <;> simp at h
theorem cell_heap {w : World} {g i : Nat} {v : Value} (h : w.cell? ⟨g, i, none⟩ = some v) : ∃ cur T z, w.heap[g]? = some (.cells cur T z) ∧ cur[i]? = some v := by
  unfold World.cell? at h
  simp only at h
  split at h
  · rename_i c T z hc
    exact ⟨c, T, z, hc, by simpa using h⟩
  · cases h
section
variable {H : Type} {enc : TypeId × Value → H} {P : Program} {w : World} {base : Nat} {held : Bool}
end
/-- All the chunks of a world. -/
def wholeL (w : World) : List Chunk := (List.range w.heap.size).filterMap fun b => (w.heap[b]?).map fun o => (b, o)
theorem mem_whole {w : World} {b : Nat} {o : Obj} : (b, o) ∈ wholeL w ↔ w.heap[b]? = some o := by
  unfold wholeL
  rw [List.mem_filterMap]
  constructor
  · rintro ⟨a, _, ha⟩
    obtain ⟨o', h1, h2⟩ := Option.map_eq_some_iff.1 ha
    injection h2 with e1 e2
    subst e1 e2
    exact h1
  · intro h
    refine ⟨b, ?_, by rw [h]; rfl⟩
    rw [List.mem_range]
    rcases Nat.lt_or_ge b w.heap.size with h1 | h1
    · exact h1
    · simp [Array.getElem?_eq_none h1] at h
theorem whole_keys (w : World) : ((wholeL w).map (·.1)).Nodup := by
  have : ∀ l : List Nat, ((l.filterMap fun b => (w.heap[b]?).map fun o => (b, o)).map (·.1)).Sublist l := by
    intro l
    induction l with
    | nil => simp
    | cons a l ih =>
      rw [List.filterMap_cons]
      cases h : w.heap[a]? with
      | none => simp only [Option.map_none]; exact ih.cons a
      | some o => simp only [Option.map_some, List.map_cons]; exact ih.cons_cons a
  exact List.Nodup.sublist (this _) List.nodup_range
def restL (w : World) (ks : List Nat) : List Chunk := (wholeL w).filter fun c => !ks.contains c.1
theorem mem_rest {w : World} {ks : List Nat} {b : Nat} {o : Obj} (h : w.heap[b]? = some o) (hk : b ∉ ks) : (b, o) ∈ restL w ks := by
  unfold restL
  rw [List.mem_filter]
  exact ⟨mem_whole.2 h, by simp [hk]⟩
theorem law_below {P : Program} {f : FuncId} {args : Array Value} {v : Value} {w : World} (L : List Chunk) (hL : ∀ c ∈ L, w.heap[c.1]? = some c.2) (hn : (L.map (·.1)).Nodup) {H : Hp} (hH : H.flatten = L ++ restL w (L.map (·.1))) (h : DoesR P f args H v) :
    Calls P f args w fun e w' => e = .returned v ∧ Below w.heap.size w w' := by
  have hsat : Sat w (H ++ []) w := by
    refine ⟨rfl, rfl, rfl, ?_, ?_⟩
    · rw [List.append_nil, hH, List.map_append, List.nodup_append]
      refine ⟨hn, ?_, ?_⟩
      · exact List.Nodup.sublist (List.filter_sublist.map _) (whole_keys w)
      · intro a ha b hb e
        subst e
        obtain ⟨c, hc, rfl⟩ := List.mem_map.1 hb
        unfold restL at hc
        have := (List.mem_filter.1 hc).2
        simp only [Bool.not_eq_true', List.contains_eq_mem, decide_eq_false_iff_not] at this
        exact this ha
    · intro p hp
      rw [List.append_nil, hH, List.mem_append] at hp
      rcases hp with hp | hp
      · exact hL p hp
      · exact mem_whole.1 (List.mem_filter.1 hp).1
  refine Calls.mono (h w [] w hsat) fun e w' he => ?_
  rcases he with ⟨v', H', rfl, ⟨rfl, rfl⟩, hs⟩ | ⟨_, _, _, hf, _⟩
  · refine ⟨rfl, hs.os, hs.tape, hs.output, ?_, ?_⟩
    · rcases Nat.eq_zero_or_pos w.heap.size with h0 | h0
      · omega
      · have hlt : w.heap.size - 1 < w.heap.size := by omega
        have hg : w.heap[w.heap.size - 1]? = some w.heap[w.heap.size - 1] := Array.getElem?_eq_getElem hlt
        have : w'.heap[w.heap.size - 1]? = some w.heap[w.heap.size - 1] := by
          by_cases hk : (w.heap.size - 1) ∈ L.map (·.1)
          · obtain ⟨c, hc, hk⟩ := List.mem_map.1 hk
            have h1 := hs.get c (by rw [List.append_nil, hH]; exact List.mem_append_left _ hc)
            have h2 := hL c hc
            rw [hk] at h1 h2
            rw [h1, ← h2, hg]
          · exact hs.get (_, _) (by rw [List.append_nil, hH]; exact List.mem_append_right _ (mem_rest hg hk))
        rcases Nat.lt_or_ge (w.heap.size - 1) w'.heap.size with h1 | h1
        · omega
        · rw [Array.getElem?_eq_none h1] at this; cases this
    · intro k hk
      have hg : w.heap[k]? = some w.heap[k] := Array.getElem?_eq_getElem hk
      by_cases hm : k ∈ L.map (·.1)
      · obtain ⟨c, hc, rfl⟩ := List.mem_map.1 hm
        have h1 := hs.get c (by rw [List.append_nil, hH]; exact List.mem_append_left _ hc)
        rw [h1, hL c hc]
      · rw [hg]
        exact hs.get (_, _) (by rw [List.append_nil, hH]; exact List.mem_append_right _ (mem_rest hg hm))
  · exact hf.elim

theorem var_heap {P : Program} {w : World} {n : String} {g : Nat} {cs : Array Value} (hg : P.globalNamed n = some g) (h : w.var? P n = some cs) : ∃ T z, w.heap[g]? = some (.cells cs T z) := by
  unfold World.var? at h
  rw [hg, Option.bind_some] at h
  split at h
  · rename_i c T z hc
    injection h with e
    subst e
    exact ⟨T, z, hc⟩
  · cases h

theorem gRound : Tryz.prog.globalNamed "cachetier/digest.round" = some 0 := by kernel_rfl
theorem tRound : (Tryz.prog.globals[0]?).map (·.type) = some 155 := by kernel_rfl
theorem c32 : Tryz.prog.cellsOf 109 = 1 := by kernel_rfl
theorem cTab : Tryz.prog.cellsOf 155 = 64 := by kernel_rfl
def roundZ : List Int := kTab.map fun x => (x.toNat : Int)
theorem round_data : (Rows.laid_cachetier_digest_round : DataW Unit) = Lib.tabData .u32 roundZ := by kernel_rfl
theorem round_cells : (roundZ.map fun z => Value.int .u32 z).toArray = (kTab.map u32v).toArray := by kernel_rfl
theorem of_laid1 {r : List (String × DataW Unit)} {W : World} (h : laidMet Tryz.prog (("cachetier/digest.round", Rows.laid_cachetier_digest_round) :: r) W) :
    ∃ Tg zg, W.heap[0]? = some (.cells (kTab.map u32v).toArray Tg zg) := by
  rw [round_data] at h
  have h2 := Lib.tabIs_of_head gRound tRound underlying155 underlying109 c32 cTab h
  unfold Lib.TabIs at h2
  rw [round_cells] at h2
  obtain ⟨Tg, zg, hb⟩ := var_heap gRound h2
  exact ⟨Tg, zg, hb⟩
def isArg : Value → Bool
  | .string _ => true
  | .slice _ _ _ => true
  | .bool _ => true
  | .int .i64 _ => true
  | _ => false
theorem glob_ne1 {W : World} {Tg : TypeId} {zg : Nat × Nat} (h4 : W.heap[0]? = some (.cells (kTab.map u32v).toArray Tg zg))
    {g i : Nat} {cur : Array Value} {T : TypeId} {z : Nat × Nat} (hb : W.heap[g]? = some (.cells cur T z)) {y : Value} (hc : cur[i]? = some y) (ha : isArg y = true) : g ∉ [0] := by
  intro hm
  simp only [List.mem_cons, List.not_mem_nil, or_false] at hm
  subst hm
  rw [h4] at hb
  injection hb with e
  injection e with e1 _ _
  subst e1
  rw [List.getElem?_toArray, List.getElem?_map] at hc
  obtain ⟨u, _, rfl⟩ := Option.map_eq_some_iff.1 hc
  simp [u32v, isArg] at ha
/-- A law's contract at a world that holds what the rows list. -/
theorem law_at1 {f : FuncId} {args : Array Value} {v : Value} {W : World} {Tg : TypeId} {zg : Nat × Nat} (h4 : W.heap[0]? = some (.cells (kTab.map u32v).toArray Tg zg))
    (h : DoesR Tryz.prog f args [[(0, .cells (kTab.map u32v).toArray Tg zg)], restL W [0]] v) :
    Calls Tryz.prog f args W fun e w' => e = .returned v ∧ Below W.heap.size W w' :=
  law_below [(0, .cells (kTab.map u32v).toArray Tg zg)] (by
    intro c hc
    simp only [List.mem_cons, List.not_mem_nil, or_false] at hc
    subst hc; exact h4) (by simp) (by simp) h
theorem list_choose {α : Type} : ∀ (n : Nat) (p : Nat → α → Prop), (∀ i, i < n → ∃ o, p i o) → ∃ os : List α, os.length = n ∧ ∀ i o, os[i]? = some o → p i o
  | 0, _, _ => ⟨[], rfl, fun i o h => by cases h⟩
  | n + 1, p, h => by
    obtain ⟨os, h1, h2⟩ := list_choose n p (fun i hi => h i (by omega))
    obtain ⟨o, ho⟩ := h n (by omega)
    refine ⟨os ++ [o], by simp [h1], fun i o' hi => ?_⟩
    rw [List.getElem?_append] at hi
    split at hi
    · exact h2 i o' hi
    · rename_i hlt
      have : i = n := by
        have := (List.getElem?_eq_some_iff.1 hi).1
        simp at this; omega
      subst this
      rw [h1, Nat.sub_self] at hi
      simp only [List.getElem?_cons_zero, Option.some.injEq] at hi
      subst hi; exact ho
section
variable {H : Type} {enc : TypeId × Value → H} {P : Program} {W : World} {base : Nat} {held : Bool}
/-- A slice, its elements' cells one after another. -/
theorem open_cells {t e : TypeId} {s fuel : Nat} {cs : List Value} {x : DataW H × List MemPlace} (ht : P.underlying t = some (.slice e)) (hc : P.cellsOf e = s) (hs : 0 < s) (h : DataW.trod enc P W base (fun _ => true) held fuel t cs = some x) :
    ∃ p len cap, cs = [.slice p len cap] ∧ (len ≤ maxLen ∧ len ≤ cap) ∧ ∀ i, i < len → ∃ cs' n z, cs'.length = s ∧ DataW.trod enc P W base (fun _ => true) held n e cs' = some z ∧
      ∃ g o cur T zz, p = some ⟨g, o, none⟩ ∧ W.heap[g]? = some (.cells cur T zz) ∧ ∀ j, j < s → cur[o + i * s + j]? = cs'[j]? := by
  rcases open_slice ht h with ⟨rfl, _⟩ | ⟨a, len, cap, m, n, D, Pl, rfl, _, hl, hm, hmm, _, hel⟩
  · exact ⟨none, 0, 0, rfl, ⟨Nat.zero_le _, Nat.le_refl _⟩, fun i hi => by omega⟩
  · simp only [if_true] at hmm
    subst hmm
    refine ⟨some a, len, m, rfl, ⟨by omega, hl⟩, fun i hi => ?_⟩
    have hsp2 : a = ⟨a.block, a.off, none⟩ := by
      obtain ⟨cs0, g1, _⟩ := hel 0 (by omega)
      rw [hc] at g1
      obtain ⟨_, glen, gg⟩ := World.cells?_some g1
      have g9 := gg 0 hs
      rw [List.getElem?_eq_getElem (l := cs0) (i := 0) (by omega), Nat.zero_mul, adr0, adr0] at g9
      exact adr_spot g9
    obtain ⟨cs', h1, h2⟩ := hel i (by omega)
    rw [hc] at h1
    obtain ⟨_, hlen, hg⟩ := World.cells?_some h1
    refine ⟨cs', n, _, hlen, h2, ?_⟩
    have h9 := hg 0 hs
    rw [List.getElem?_eq_getElem (l := cs') (i := 0) (by omega), hsp2, add_addr, add_addr] at h9
    obtain ⟨cur, T, zz, hb, _⟩ := cell_heap h9
    refine ⟨a.block, a.off, cur, T, zz, by rw [← hsp2], hb, fun j hj => ?_⟩
    have h8 := hg j hj
    rw [List.getElem?_eq_getElem (l := cs') (i := j) (by omega)] at h8 ⊢
    rw [hsp2, add_addr, add_addr] at h8
    obtain ⟨cur2, T2, zz2, hb2, hc2⟩ := cell_heap h8
    rw [hb] at hb2
    injection hb2 with e
    injection e with e1 _ _
    rw [e1]; exact hc2
end

theorem cInt : Tryz.prog.cellsOf 3 = 1 := by kernel_rfl
theorem cSix : Tryz.prog.cellsOf 80 = 6 := by kernel_rfl

theorem open_sixes1 {H : Type} {enc : TypeId × Value → H} {W : World} {base : Nat} {held : Bool} {Tg : TypeId} {zg : Nat × Nat} (h4 : W.heap[0]? = some (.cells (kTab.map u32v).toArray Tg zg)) {fuel : Nat} {cs : List Value} {x : DataW H × List MemPlace} (h : DataW.trod enc Tryz.prog W base (fun _ => true) held fuel 22 cs = some x) :
    ∃ v xs, cs = [v] ∧ SixIn (restL W [0]) v xs := by
  obtain ⟨p, len, cap, rfl, hl, hel⟩ := open_cells underlying22 cSix (by decide) h
  obtain ⟨xs, h1, h2⟩ := list_choose len (fun i (z : List Int) => z.length = 6 ∧ (∀ n ∈ z, -9223372036854775808 ≤ n ∧ n ≤ 9223372036854775807) ∧ ∃ g o cur T zz, p = some ⟨g, o, none⟩ ∧ (g, Obj.cells cur T zz) ∈ restL W [0] ∧ ∀ (j : Nat) (n : Int), z[j]? = some n → cur[o + i * 6 + j]? = some (.int .i64 n)) (fun i hi => by
    obtain ⟨cs', n, z, hlen, ht, g, o, cur, T, zz, hp, hb, hc⟩ := hel i hi
    obtain ⟨ys, m, _, _, _, hyl, hf⟩ := DataW.trod_array underlying80 ht
    obtain ⟨ns, hn1, hn2⟩ := list_choose 6 (fun j (n : Int) => (-9223372036854775808 ≤ n ∧ n ≤ 9223372036854775807) ∧ cs'[j]? = some (.int .i64 n)) (fun j hj => by
      have f := hf j hj
      rw [cInt, Nat.mul_one, List.getElem?_eq_getElem (by omega)] at f
      have hj2 : j < cs'.length := by omega
      have e : (cs'.drop j).take 1 = [cs'[j]] := by rw [List.drop_eq_getElem_cons hj2]; rfl
      rw [e] at f
      obtain ⟨k, hk, _, hkw⟩ := DataW.trod_int underlying3 f
      injection hk with hk _
      exact ⟨k, bounds_i64 hkw, by rw [List.getElem?_eq_getElem hj2, hk]⟩)
    have hat : ∀ (j : Nat) (n : Int), ns[j]? = some n → cur[o + i * 6 + j]? = some (.int .i64 n) := fun j n hj => by
      have hlt := (List.getElem?_eq_some_iff.1 hj).1
      rw [hc j (by omega)]
      exact (hn2 j n hj).2
    obtain ⟨n0, hn0⟩ : ∃ n, ns[0]? = some n := ⟨_, List.getElem?_eq_getElem (by omega)⟩
    exact ⟨ns, hn1, fun n hmem => by
      obtain ⟨j, hj⟩ := List.getElem?_of_mem hmem
      exact (hn2 j n hj).1, g, o, cur, T, zz, hp, mem_rest hb (glob_ne1 h4 hb (hat 0 n0 hn0) rfl), hat⟩)
  subst h1
  exact ⟨_, xs, rfl, p, cap, rfl, hl, h2⟩

end Go.Proofs.YtcbjoojdfelgaaaGreatDoor

namespace Go.Proofs.YtcbjoojdfelgaaaGreatDoor
open Go.Proofs.Tryz
open Go Go.RowKit Gw
set_option linter.unusedVariables false
set_option linter.unusedSimpArgs false
set_option maxRecDepth 100000
attribute [local irreducible] Gw.At Gw.Nx Gw.Ops
theorem cut_any {g o c sz a : Nat} (h : a < c) : cutAt (some ⟨g, o, none⟩) a c sz = some ⟨g, o + a * sz, none⟩ := by
  unfold cutAt; rw [if_neg (by omega), Option.map_some, add_addr]
theorem RowsU.sub {M : List Chunk} {p : Option Addr} {n cap a b : Nat} {rs : List RowM} (h : RowsU M (.slice p n cap) rs) (ha : a ≤ b) (hb : b ≤ rs.length) : RowsU M (.slice (cutAt p a cap 5) (b - a) (cap - a)) ((rs.drop a).take (b - a)) := by
  obtain ⟨p', cap', e, hl2, hg⟩ := h
  injection e with e1 e2 e3
  subst e1 e2 e3
  refine ⟨_, _, by rw [List.length_take, List.length_drop, Nat.min_eq_left (by omega)], by rw [List.length_take, List.length_drop]; omega, fun i x hx => ?_⟩
  rw [List.getElem?_take] at hx
  split at hx
  · rw [List.getElem?_drop] at hx
    obtain ⟨g, off, cur, T, zz, rfl, hm, hsz, hex⟩ := hg (a + i) x hx
    rw [cut_any (by omega)]
    exact ⟨g, _, cur, T, zz, rfl, hm, by omega, by rw [show off + a * 5 + i * 5 = off + (a + i) * 5 by omega]; exact hex⟩
  · cases hx
theorem PathsU.sub {M : List Chunk} {p : Option Addr} {n cap a b : Nat} {ps : List (List Bs)} (h : PathsU M (.slice p n cap) ps) (ha : a ≤ b) (hb : b ≤ ps.length) : PathsU M (.slice (cutAt p a cap 1) (b - a) (cap - a)) ((ps.drop a).take (b - a)) := by
  obtain ⟨p', cap', e, hl2, hg⟩ := h
  injection e with e1 e2 e3
  subst e1 e2 e3
  refine ⟨_, _, by rw [List.length_take, List.length_drop, Nat.min_eq_left (by omega)], by rw [List.length_take, List.length_drop]; omega, fun i x hx => ?_⟩
  rw [List.getElem?_take] at hx
  split at hx
  · rw [List.getElem?_drop] at hx
    obtain ⟨q, c, hu, g, off, cur, T, zz, rfl, hm, hex⟩ := hg (a + i) x hx
    rw [cut_any (by omega)]
    exact ⟨q, c, hu, g, _, cur, T, zz, rfl, hm, by rw [show off + a * 1 + i = off + (a + i) by omega]; exact hex⟩
  · cases hx

end Go.Proofs.YtcbjoojdfelgaaaGreatDoor

namespace Go.Proofs.YtcbjoojdfelgaaaGreatDoor
open Go.Proofs.Tryz
open Go Go.RowKit Gw
set_option linter.unusedVariables false
set_option linter.unusedSimpArgs false
set_option maxRecDepth 100000
attribute [local irreducible] Gw.At Gw.Nx Gw.Ops
theorem gb_head {z w : Nat} (h : gb (z % 128, decide (z < 128)) = gb (w % 128, decide (w < 128))) : z % 128 = w % 128 ∧ (z < 128 ↔ w < 128) := by
  unfold gb at h
  have h2 := congrArg UInt8.toNat h
  rw [UInt8.toNat_ofNat', UInt8.toNat_ofNat'] at h2
  by_cases hz : z < 128 <;> by_cases hw : w < 128 <;> simp [hz, hw] at h2 ⊢ <;> omega
theorem grps_inj : ∀ (n z w : Nat) (x y : List UInt8), z ≤ n → (grps z).map gb ++ x = (grps w).map gb ++ y → z = w ∧ x = y
  | n, z, w, x, y, hn, h => by
    rw [grps_eq z, grps_eq w, List.map_cons, List.map_cons, List.cons_append, List.cons_append] at h
    injection h with h1 h2
    obtain ⟨h3, h4⟩ := gb_head h1
    by_cases hz : z < 128
    · have hw := h4.1 hz
      rw [if_pos hz, if_pos hw] at h2
      exact ⟨by omega, by simpa using h2⟩
    · have hw : ¬ w < 128 := fun hw => hz (h4.2 hw)
      rw [if_neg hz, if_neg hw] at h2
      match n, hn with
      | 0, hn => omega
      | n + 1, hn =>
        obtain ⟨h5, h6⟩ := grps_inj n (z / 128) (w / 128) x y (by omega) h2
        exact ⟨by omega, h6⟩
theorem zz_inj {a b : Int} (h : zz a = zz b) : a = b := by
  unfold zz at h
  by_cases ha : a < 0 <;> by_cases hb : b < 0 <;> simp [ha, hb] at h <;> omega
theorem encI_inj {a b : Int} {x y : List UInt8} (h : encI a ++ x = encI b ++ y) : a = b ∧ x = y := by
  obtain ⟨h1, h2⟩ := grps_inj _ _ _ _ _ (Nat.le_refl _) h
  exact ⟨zz_inj h1, h2⟩
theorem encRow_inj {r s : RowM} (h : encRow r = encRow s) : r = s := by
  have e : ∀ q : RowM, encRow q = encI q.t ++ (encI q.k ++ (encI q.v.a ++ (encI q.v.b ++ (encI q.v.c ++ [])))) := fun q => by simp [encRow, putAll]
  rw [e, e] at h
  obtain ⟨h1, h⟩ := encI_inj h
  obtain ⟨h2, h⟩ := encI_inj h
  obtain ⟨h3, h⟩ := encI_inj h
  obtain ⟨h4, h⟩ := encI_inj h
  obtain ⟨h5, _⟩ := encI_inj h
  obtain ⟨t, k, ⟨a, b, c⟩⟩ := r
  obtain ⟨t', k', ⟨a', b', c'⟩⟩ := s
  simp only at h1 h2 h3 h4 h5
  subst h1 h2 h3 h4 h5; rfl
theorem encL_inj : ∀ {a b : List RowM}, encL a = encL b → a = b
  | [], [], _ => rfl
  | [], b :: bs, h => by simp [encL] at h
  | a :: us, [], h => by simp [encL] at h
  | a :: us, b :: bs, h => by
    unfold encL at h
    rw [List.map_cons, List.map_cons] at h
    injection h with h1 h2
    rw [encRow_inj h1, encL_inj (a := us) (b := bs) h2]
/-- The strings whose digests are computed for a root. -/
def hashedT (l : List Bs) : List Bs :=
  if h : 2 ≤ l.length then hashedT (l.take (leftN l.length)) ++ hashedT (l.drop (leftN l.length)) ++ [1 :: (rootT (l.take (leftN l.length)) ++ rootT (l.drop (leftN l.length)))]
  else match l with
    | [] => [[]]
    | x :: _ => [0 :: x]
termination_by l.length
decreasing_by
  · have := left_lt h; rw [List.length_take]; omega
  · have := left_pos l.length; rw [List.length_drop]; omega
theorem hashed_nil : hashedT [] = [[]] := by rw [hashedT]; rfl
theorem hashed_one (x : Bs) : hashedT [x] = [0 :: x] := by rw [hashedT]; rfl
theorem hashed_more {l : List Bs} (h : 2 ≤ l.length) : hashedT l = hashedT (l.take (leftN l.length)) ++ hashedT (l.drop (leftN l.length)) ++ [1 :: (rootT (l.take (leftN l.length)) ++ rootT (l.drop (leftN l.length)))] := by
  rw [hashedT, dif_pos h]
theorem hashed_len : ∀ (n : Nat) (l : List Bs), l.length ≤ n → (hashedT l).length ≤ 2 * l.length + 1 ∧ (0 < l.length → (hashedT l).length + 1 ≤ 2 * l.length)
  | n, l, hn => by
    rcases Nat.lt_or_ge l.length 2 with h | h
    · match l, h with
      | [], _ => rw [hashed_nil]; simp
      | [x], _ => rw [hashed_one]; simp
    · have h1 := left_lt h
      have h2 := left_pos l.length
      match n, hn with
      | 0, hn => omega
      | n + 1, hn =>
        have a1 := hashed_len n (l.take (leftN l.length)) (by rw [List.length_take]; omega)
        have a2 := hashed_len n (l.drop (leftN l.length)) (by rw [List.length_drop]; omega)
        rw [List.length_take] at a1
        rw [List.length_drop] at a2
        rw [hashed_more h, List.length_append, List.length_append, List.length_singleton]
        omega
theorem hashed_ok : ∀ (n : Nat) (l : List Bs) (m : Nat), l.length ≤ n → 65 ≤ m → (∀ s ∈ l, s.length + 1 ≤ m) → ∀ s ∈ hashedT l, s.length ≤ m
  | n, l, m, hn, hm, hl, s, hs => by
    rcases Nat.lt_or_ge l.length 2 with h | h
    · match l, h with
      | [], _ => rw [hashed_nil, List.mem_singleton] at hs; subst hs; simp
      | [x], _ => rw [hashed_one, List.mem_singleton] at hs; subst hs; have := hl x (by simp); rw [List.length_cons]; omega
    · have h1 := left_lt h
      have h2 := left_pos l.length
      match n, hn with
      | 0, hn => omega
      | n + 1, hn =>
        rw [hashed_more h, List.mem_append, List.mem_append, List.mem_singleton] at hs
        rcases hs with (hs | hs) | hs
        · exact hashed_ok n _ m (by rw [List.length_take]; omega) hm (fun s h => hl s (List.mem_of_mem_take h)) s hs
        · exact hashed_ok n _ m (by rw [List.length_drop]; omega) hm (fun s h => hl s (List.mem_of_mem_drop h)) s hs
        · subst hs
          rw [List.length_cons, List.length_append, root_len, root_len]; omega
/-- Two different strings, one of each list, have the same digest. -/
def Coll (a b : List Bs) : Prop := ∃ x ∈ a, ∃ y ∈ b, x ≠ y ∧ sha x = sha y
theorem Coll.mono {a b a' b' : List Bs} (h : Coll a b) (ha : ∀ x ∈ a, x ∈ a') (hb : ∀ x ∈ b, x ∈ b') : Coll a' b' := by
  obtain ⟨x, hx, y, hy, h⟩ := h
  exact ⟨x, ha x hx, y, hb y hy, h⟩
theorem node_bind {a b c d : Bs} (ha : a.length = 32) (hc : c.length = 32) {A B : List Bs} (h1 : (1 :: (a ++ b)) ∈ A) (h2 : (1 :: (c ++ d)) ∈ B) (h : sha (1 :: (a ++ b)) = sha (1 :: (c ++ d))) : (a = c ∧ b = d) ∨ Coll A B := by
  by_cases e : (1 :: (a ++ b) : Bs) = 1 :: (c ++ d)
  · injection e with _ e
    exact .inl (List.append_inj e (by omega))
  · exact .inr ⟨_, h1, _, h2, e, h⟩
theorem leaf_bind {a c : Bs} {A B : List Bs} (h1 : (0 :: a) ∈ A) (h2 : (0 :: c) ∈ B) (h : sha (0 :: a) = sha (0 :: c)) : a = c ∨ Coll A B := by
  by_cases e : (0 :: a : Bs) = 0 :: c
  · injection e with _ e
    exact .inl e
  · exact .inr ⟨_, h1, _, h2, e, h⟩
theorem root_bind : ∀ (n : Nat) (a b : List Bs), a.length ≤ n → a.length = b.length → rootT a = rootT b → a = b ∨ Coll (hashedT a) (hashedT b)
  | n, a, b, hn, hab, h => by
    rcases Nat.lt_or_ge a.length 2 with h2 | h2
    · match a, b, hab, h2 with
      | [], [], _, _ => exact .inl rfl
      | [x], [y], _, _ =>
        rw [root_one, root_one] at h
        rw [hashed_one, hashed_one]
        rcases leaf_bind (List.mem_singleton.2 rfl) (List.mem_singleton.2 rfl) h with e | e
        · exact .inl (by rw [e])
        · exact .inr e
    · have l1 := left_lt h2
      have l2 := left_pos a.length
      match n, hn with
      | 0, hn => omega
      | n + 1, hn =>
        have hb2 : 2 ≤ b.length := by omega
        rw [root_more h2, root_more hb2, ← hab] at h
        rw [hashed_more h2, hashed_more hb2, ← hab]
        rcases node_bind (root_len _) (root_len _) (List.mem_append_right _ (List.mem_singleton.2 rfl)) (List.mem_append_right _ (List.mem_singleton.2 rfl)) h with ⟨e1, e2⟩ | e
        · rcases root_bind n (a.take (leftN a.length)) (b.take (leftN a.length)) (by rw [List.length_take]; omega) (by rw [List.length_take, List.length_take, hab]) e1 with f1 | f1
          · rcases root_bind n (a.drop (leftN a.length)) (b.drop (leftN a.length)) (by rw [List.length_drop]; omega) (by rw [List.length_drop, List.length_drop, hab]) e2 with f2 | f2
            · exact .inl (by rw [← List.take_append_drop (leftN a.length) a, f1, f2, List.take_append_drop])
            · exact .inr (f2.mono (fun x hx => List.mem_append_left _ (List.mem_append_right _ hx)) (fun x hx => List.mem_append_left _ (List.mem_append_right _ hx)))
          · exact .inr (f1.mono (fun x hx => List.mem_append_left _ (List.mem_append_left _ hx)) (fun x hx => List.mem_append_left _ (List.mem_append_left _ hx)))
        · exact .inr e
/-- The strings whose digests are computed for the root of a state. -/
def allT (rs : List RowM) : List Bs := hashedT (sumL rs) ++ tcs.flatMap fun x => hashedT (encL (ordL rs (x.1 : Int) x.2))
theorem all_sum {rs : List RowM} : ∀ x ∈ hashedT (sumL rs), x ∈ allT rs := fun x hx => List.mem_append_left _ hx
theorem all_ord {rs : List RowM} {t c : Nat} (ht : t < 4) (hc : c < 4) : ∀ x ∈ hashedT (encL (ordL rs (t : Int) c)), x ∈ allT rs := fun x hx =>
  List.mem_append_right _ (List.mem_flatMap.2 ⟨(t, c), List.mem_of_getElem? (tc_at t ht c hc), hx⟩)

end Go.Proofs.YtcbjoojdfelgaaaGreatDoor

namespace Go.Proofs.YtcbjoojdfelgaaaGreatDoor
open Go.Proofs.Tryz
open Go Go.RowKit Gw
set_option linter.unusedVariables false
set_option linter.unusedSimpArgs false
set_option maxRecDepth 100000
attribute [local irreducible] Gw.At Gw.Nx Gw.Ops
theorem lt2_not {a b : RowM} (h1 : a.lt2 b.t b.k) (h2 : b.lt2 a.t a.k) : False := by unfold RowM.lt2 at *; omega
theorem lt2_self {a : RowM} (h : a.lt2 a.t a.k) : False := lt2_not h h
theorem sorted_ext : ∀ {a b : List RowM}, SortedR a → SortedR b → (∀ x, x ∈ a ↔ x ∈ b) → a = b
  | [], [], _, _, _ => rfl
  | [], y :: b, _, _, h => by have := (h y).2 (by simp); cases this
  | x :: a, [], _, _, h => by have := (h x).1 (by simp); cases this
  | x :: a, y :: b, ha, hb, h => by
    have ha2 := List.pairwise_cons.1 ha
    have hb2 := List.pairwise_cons.1 hb
    have e : x = y := by
      rcases List.mem_cons.1 ((h x).1 (by simp)) with e | hx
      · exact e
      · rcases List.mem_cons.1 ((h y).2 (by simp)) with e | hy
        · exact e.symm
        · exact (lt2_not (ha2.1 y hy) (hb2.1 x hx)).elim
    subst e
    rw [sorted_ext ha2.2 hb2.2 fun z => ?_]
    constructor
    · intro hz
      rcases List.mem_cons.1 ((h z).1 (List.mem_cons_of_mem _ hz)) with e | hz2
      · subst e; exact (lt2_self (ha2.1 _ hz)).elim
      · exact hz2
    · intro hz
      rcases List.mem_cons.1 ((h z).2 (List.mem_cons_of_mem _ hz)) with e | hz2
      · subst e; exact (lt2_self (hb2.1 _ hz)).elim
      · exact hz2
theorem row_range {rs : List RowM} (hok : ∀ r ∈ rs, r.ok) {r : RowM} (hr : r ∈ rs) (c : Nat) : -1000000000 ≤ valN r c ∧ valN r c ≤ 1000000000 := by
  obtain ⟨⟨h1, h2, h3⟩, h4, h5⟩ := hok r hr
  unfold inV at h1 h2 h3
  unfold valN
  split
  · omega
  · split
    · omega
    · split <;> omega
theorem mem_ord {rs : List RowM} (hok : ∀ r ∈ rs, r.ok) {r : RowM} (t : Int) (c : Nat) : r ∈ ordL rs t c ↔ r ∈ rs ∧ r.t = t := by
  constructor
  · exact ord_mem
  · rintro ⟨h1, h2⟩
    exact (rangeL_perm rs t c _ _).mem_iff.2 (List.mem_filter.2 ⟨h1, decide_eq_true ⟨h2, row_range hok h1 c⟩⟩)
theorem sum_bind {rs us : List RowM} {A B : List Bs} {t c : Nat} (hA : ∀ x ∈ hashedT (encL (ordL rs (t : Int) c)), x ∈ A) (hB : ∀ x ∈ hashedT (encL (ordL us (t : Int) c)), x ∈ B) (h : summ rs (t, c) = summ us (t, c)) : ordL rs (t : Int) c = ordL us (t : Int) c ∨ Coll A B := by
  unfold summ at h
  obtain ⟨h1, h2⟩ := encI_inj h
  rcases root_bind _ _ _ (Nat.le_refl _) (by rw [encL_len, encL_len]; exact Int.ofNat.inj h1) h2 with e | e
  · exact .inl (encL_inj e)
  · exact .inr (e.mono hA hB)
theorem sum_at (rs : List RowM) {t c : Nat} (ht : t < 4) (hc : c < 4) : (sumL rs)[4 * t + c]? = some (summ rs (t, c)) := by
  unfold sumL
  rw [List.getElem?_map, tc_at t ht c hc]; rfl
/-- States with one root have the same rows, or there is a collision. -/
theorem rows_bind {rs us : List RowM} (hs : SortedR rs) (hu : SortedR us) (hok : ∀ r ∈ rs, r.ok) (huk : ∀ r ∈ us, r.ok) (h : rootS rs = rootS us) : rs = us ∨ Coll (allT rs) (allT us) := by
  rcases root_bind _ _ _ (Nat.le_refl _) (by rw [sumL_len, sumL_len]) h with e | e
  · by_cases hc : Coll (allT rs) (allT us)
    · exact .inr hc
    · refine .inl (sorted_ext hs hu ?_)
      have ho : ∀ t, t < 4 → ordL rs ((t : Nat) : Int) 0 = ordL us ((t : Nat) : Int) 0 := fun t ht => by
        have h1 := sum_at rs ht (show 0 < 4 by decide)
        rw [e, sum_at us ht (show 0 < 4 by decide)] at h1
        injection h1 with h1
        rcases sum_bind (all_ord ht (by decide)) (all_ord ht (by decide)) h1.symm with h2 | h2
        · exact h2
        · exact absurd h2 hc
      intro x
      constructor
      · intro hx
        have ht := (hok x hx).2.1
        have h1 := (mem_ord hok x.t 0).2 ⟨hx, rfl⟩
        rw [show x.t = ((x.t.toNat : Nat) : Int) by omega, ho _ (by omega)] at h1
        exact (ord_mem h1).1
      · intro hx
        have ht := (huk x hx).2.1
        have h1 := (mem_ord huk x.t 0).2 ⟨hx, rfl⟩
        rw [show x.t = ((x.t.toNat : Nat) : Int) by omega, ← ho _ (by omega)] at h1
        exact (ord_mem h1).1
  · exact .inr (e.mono all_sum all_sum)
/-- A change undone. -/
def undo (c : Chg) : Chg := ⟨c.t, c.k, c.has, c.n, c.had, c.o⟩
theorem undo_ok {c : Chg} (h : c.ok) : (undo c).ok := by
  have e1 : (undo c).before = c.after := rfl
  have e2 : (undo c).after = c.before := rfl
  obtain ⟨h1, h2, h3, h4⟩ := h
  refine ⟨?_, ?_, h4, h3⟩
  · intro h
    apply h1
    rcases h with ⟨a, b⟩ | ⟨a, b, d⟩
    · exact .inl ⟨b, a⟩
    · exact .inr ⟨b, a, d.symm⟩
  · rw [e1, e2]
    intro h
    apply h2
    exact h.elim .inr .inl
theorem asc_inj {cs : List Chg} (ha : AscC cs) {b c : Chg} (hb : b ∈ cs) (hc : c ∈ cs) (h1 : b.t = c.t) (h2 : b.k = c.k) : b = c := by
  obtain ⟨i, hi⟩ := List.getElem?_of_mem hb
  obtain ⟨j, hj⟩ := List.getElem?_of_mem hc
  rcases Nat.lt_trichotomy i j with h | h | h
  · have := ha i j b c h hi hj; unfold Chg.lt at this; omega
  · subst h; rw [hi] at hj; injection hj
  · have := ha j i c b h hj hi; unfold Chg.lt at this; omega
theorem mem_take_asc {cs : List Chg} {i : Nat} {x : Chg} (hx : cs[i]? = some x) {c : Chg} : c ∈ cs.take (i + 1) ↔ c ∈ cs.take i ∨ c = x := by
  rw [List.take_add_one, hx, List.mem_append]; simp
theorem mem_fold {rs : List RowM} {cs : List Chg} (hs : SortedR rs) (ha : AscC cs) (hf : ∀ c ∈ cs, fitC rs c) (x : RowM) : ∀ i, i ≤ cs.length → (x ∈ putAllR rs (cs.take i) ↔ (x ∈ rs ∧ ∀ c ∈ cs.take i, ¬ x.is c.t c.k) ∨ ∃ c ∈ cs.take i, c.has = true ∧ x = ⟨c.t, c.k, c.n⟩)
  | 0, _ => by simp [putAllR]
  | i + 1, hi => by
    obtain ⟨y, hy⟩ : ∃ y, cs[i]? = some y := ⟨_, List.getElem?_eq_getElem (by omega)⟩
    obtain ⟨h1, h2⟩ := fold_inv hs ha hf i (by omega)
    rw [putAllR_next rs cs i y hy, mem_put h1 (h2 i y (Nat.le_refl _) hy), mem_fold hs ha hf x i (by omega)]
    have hlt : ∀ c ∈ cs.take i, c.lt y := fun c hc => by
      obtain ⟨j, hj⟩ := List.getElem?_of_mem hc
      rw [List.getElem?_take] at hj
      split at hj
      · exact ha j i c y (by assumption) hj hy
      · cases hj
    constructor
    · rintro (⟨(⟨h3, h4⟩ | ⟨c, hc, h4, rfl⟩), h5⟩ | ⟨h3, h4⟩)
      · exact .inl ⟨h3, fun c hc => by rcases (mem_take_asc hy).1 hc with h | rfl; exact h4 c h; exact h5⟩
      · exact .inr ⟨c, (mem_take_asc hy).2 (.inl hc), h4, rfl⟩
      · exact .inr ⟨y, (mem_take_asc hy).2 (.inr rfl), h3, h4⟩
    · rintro (⟨h3, h4⟩ | ⟨c, hc, h4, rfl⟩)
      · exact .inl ⟨.inl ⟨h3, fun c hc => h4 c ((mem_take_asc hy).2 (.inl hc))⟩, h4 y ((mem_take_asc hy).2 (.inr rfl))⟩
      · rcases (mem_take_asc hy).1 hc with h | rfl
        · refine .inl ⟨.inr ⟨c, h, h4, rfl⟩, ?_⟩
          have := hlt c h
          unfold RowM.is Chg.lt at *; simp only; omega
        · exact .inr ⟨h4, rfl⟩
theorem mem_all {rs : List RowM} {cs : List Chg} (hs : SortedR rs) (ha : AscC cs) (hf : ∀ c ∈ cs, fitC rs c) (x : RowM) : x ∈ putAllR rs cs ↔ (x ∈ rs ∧ ∀ c ∈ cs, ¬ x.is c.t c.k) ∨ ∃ c ∈ cs, c.has = true ∧ x = ⟨c.t, c.k, c.n⟩ := by
  have := mem_fold hs ha hf x cs.length (Nat.le_refl _)
  rwa [List.take_length] at this
theorem undo_size : ∀ (cs : List Chg) (n m : Int), (cs.map undo).foldl (fun n c => n + sizeC c) n + cs.foldl (fun n c => n + sizeC c) m = n + m
  | [], n, m => rfl
  | c :: cs, n, m => by
    rw [List.map_cons, List.foldl_cons, List.foldl_cons, undo_size cs]
    have : sizeC (undo c) = - sizeC c := by unfold sizeC undo; simp only; omega
    omega
theorem undo_app {rs : List RowM} {p : Int} {cs : List Chg} (hs : SortedR rs) (hn : rs.length ≤ 2000) (h : AppOk rs p (p + 1) cs) (hp : p ≤ 9000) : AppOk (putAllR rs cs) (p + 1) (p + 2) (cs.map undo) ∧ putAllR (putAllR rs cs) (cs.map undo) = rs := by
  have ha := asc_of h.ok.ord
  have hua : AscC (cs.map undo) := by
    intro i j b c hij hb hc
    rw [List.getElem?_map] at hb hc
    obtain ⟨b', hb', rfl⟩ := Option.map_eq_some_iff.1 hb
    obtain ⟨c', hc', rfl⟩ := Option.map_eq_some_iff.1 hc
    exact ha i j b' c' hij hb' hc'
  have hs1 : SortedR (putAllR rs cs) := (app_sorted hs h).1
  have hl1 : ((putAllR rs cs).length : Int) = sizeL rs cs := by
    have := len_putAll hs ha h.fit cs.length (Nat.le_refl _)
    rwa [List.take_length] at this
  have hf1 : ∀ c ∈ cs.map undo, fitC (putAllR rs cs) c := by
    intro c hc
    obtain ⟨b, hb, rfl⟩ := List.mem_map.1 hc
    unfold fitC
    show (getL (putAllR rs cs) b.t b.k).2 = b.has ∧ ((getL (putAllR rs cs) b.t b.k).2 = true → (getL (putAllR rs cs) b.t b.k).1.v = b.n)
    cases hh : b.has with
    | true =>
      have hm : (⟨b.t, b.k, b.n⟩ : RowM) ∈ putAllR rs cs := (mem_all hs ha h.fit _).2 (.inr ⟨b, hb, hh, rfl⟩)
      rw [get_true hs1 hm ⟨rfl, rfl⟩]
      exact ⟨rfl, fun _ => rfl⟩
    | false =>
      rw [get_false fun r hr hi => ?_]
      · exact ⟨rfl, fun h => by cases h⟩
      · rcases (mem_all hs ha h.fit r).1 hr with ⟨_, h2⟩ | ⟨c, hc2, h2, rfl⟩
        · exact h2 b hb hi
        · have := asc_inj ha hc2 hb hi.1 hi.2
          subst this; rw [hh] at h2; cases h2
  refine ⟨⟨⟨by have := h.ok.pos; omega, by rw [List.length_map]; exact h.ok.len, fun i c hc => ?_, fun i b c hb hc => ?_⟩, by omega, hf1, ?_⟩, sorted_ext ?_ hs fun x => ?_⟩
  · rw [List.getElem?_map] at hc
    obtain ⟨c', hc', rfl⟩ := Option.map_eq_some_iff.1 hc
    exact undo_ok (h.ok.all i c' hc')
  · exact hua i (i + 1) b c (Nat.lt_succ_self i) hb hc
  · have := undo_size cs ((putAllR rs cs).length : Int) (rs.length : Int)
    unfold sizeL at hl1 ⊢
    omega
  · have := (fold_inv hs1 hua hf1 (cs.map undo).length (Nat.le_refl _)).1
    rwa [List.take_length] at this
  · rw [mem_all hs1 hua hf1]
    constructor
    · rintro (⟨h1, h2⟩ | ⟨c, hc, h1, rfl⟩)
      · rcases (mem_all hs ha h.fit x).1 h1 with ⟨h3, _⟩ | ⟨c, hc, _, rfl⟩
        · exact h3
        · exact (h2 (undo c) (List.mem_map.2 ⟨c, hc, rfl⟩) ⟨rfl, rfl⟩).elim
      · obtain ⟨b, hb, rfl⟩ := List.mem_map.1 hc
        have hfb := h.fit b hb
        obtain ⟨r, hr, hi, _, he⟩ := get_some (show (getL rs b.t b.k).2 = true by rw [hfb.1]; exact h1)
        have hv := hfb.2 (by rw [he])
        rw [he] at hv
        have e : r = ⟨b.t, b.k, b.o⟩ := by
          obtain ⟨t, k, v⟩ := r
          obtain ⟨h5, h6⟩ := hi
          simp only at h5 h6 hv
          subst h5 h6 hv; rfl
        rw [e] at hr; exact hr
    · intro hx
      by_cases hc : ∃ c ∈ cs, x.is c.t c.k
      · obtain ⟨c, hc, hi⟩ := hc
        have hfc := h.fit c hc
        unfold fitC at hfc
        rw [get_true hs hx hi] at hfc
        refine .inr ⟨undo c, List.mem_map.2 ⟨c, hc, rfl⟩, hfc.1.symm, ?_⟩
        have hv := hfc.2 rfl
        obtain ⟨t, k, v⟩ := x
        obtain ⟨h5, h6⟩ := hi
        simp only at h5 h6 hv
        subst h5 h6 hv; rfl
      · have hno : ∀ c ∈ cs, ¬ x.is c.t c.k := fun c h1 h2 => hc ⟨c, h1, h2⟩
        refine .inl ⟨(mem_all hs ha h.fit x).2 (.inl ⟨hx, hno⟩), fun c h1 => ?_⟩
        obtain ⟨b, hb, rfl⟩ := List.mem_map.1 h1
        exact hno b hb

end Go.Proofs.YtcbjoojdfelgaaaGreatDoor
