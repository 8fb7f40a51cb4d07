/- The integers that a law picks; the rows of a log. -/
/- What the arguments read as, in chunks. -/
import Derived.Test.YtkgmgmkbgnkdnaaGreatEz
import Derived.Test.YtkgmgmkbgnkdnaaGreatRu1
import Derived.ProofKit
import Derived.OpenShut
import Derived.ChangeOld
import Derived.Deep.Slices
import Derived.SliceStrings
import Derived.Test.YtkgmgmkbgnkdnaaGreatRows
namespace Go.Proofs.YtkgmgmkbgnkdnaaGreat
open Go.Proofs.Tryz
open Go Go.RowKit Gw
set_option linter.unusedVariables false
set_option linter.unusedSimpArgs false
set_option maxRecDepth 100000
attribute [local irreducible] Gw.At Gw.Nx Gw.Ops
def pickN (c : Int) (n : Nat) : Nat := ((if c < 0 then -(c + 1) else c).tmod n).toNat
theorem pickN_lt (c : Int) (n : Nat) (hn : 0 < n) : pickN c n < n := by
  unfold pickN
  have h1 : 0 ≤ (if c < 0 then -(c + 1) else c) := by split <;> omega
  have h2 := Int.tmod_lt_of_pos (if c < 0 then -(c + 1) else c) (b := (n : Int)) (by omega)
  have h3 := Int.tmod_nonneg (n : Int) h1
  omega
theorem pickN_eq (c : Int) (n : Nat) : (if c < 0 then -(c + 1) else c).tmod n = (pickN c n : Int) := by
  unfold pickN
  have h1 : 0 ≤ (if c < 0 then -(c + 1) else c) := by split <;> omega
  have h3 := Int.tmod_nonneg (n : Int) h1
  omega
theorem put_mem {rs : List RowM} {c : Chg} {x : RowM} (h : x ∈ putL rs c) : x ∈ rs ∨ (c.has = true ∧ x = ⟨c.t, c.k, c.n⟩) := by
  unfold putL at h
  rcases List.mem_append.1 h with h | h
  · rcases List.mem_append.1 h with h | h
    · exact .inl (List.mem_of_mem_take h)
    · exact .inr (newC_mem.1 h)
  · exact .inl (List.mem_of_mem_drop (List.mem_of_mem_drop h))
theorem chg_row {c : Chg} (h : c.ok) (hh : c.has = true) : RowM.ok ⟨c.t, c.k, c.n⟩ := by
  obtain ⟨_, h2, _⟩ := h
  rw [after_t hh] at h2
  exact Classical.not_not.1 fun h9 => h2 (.inr ⟨hh, h9⟩)
theorem putAll_ok : ∀ (cs : List Chg) (rs : List RowM), (∀ r ∈ rs, r.ok) → (∀ c ∈ cs, c.ok) → ∀ r ∈ putAllR rs cs, r.ok
  | [], rs, h, _ => h
  | c :: cs, rs, h, hc => by
    have h1 : ∀ r ∈ putL rs c, r.ok := fun r hr => by
      rcases put_mem hr with hr | ⟨hh, rfl⟩
      · exact h r hr
      · exact chg_row (hc c (by simp)) hh
    exact putAll_ok cs (putL rs c) h1 (fun c hc9 => hc c (by simp [hc9]))
theorem LogOk.rowsOk {l : List RecM} (h : LogOk l) : ∀ i, i ≤ l.length → ∀ r ∈ rowsOf (l.take i), r.ok
  | 0, _ => by intro r hr; simp [rowsOf] at hr
  | i + 1, hi => by
    obtain ⟨r, hr⟩ : ∃ r, l[i]? = some r := ⟨_, List.getElem?_eq_getElem (by omega)⟩
    rw [take_snoc hr, rowsOf_snoc]
    refine putAll_ok _ _ (LogOk.rowsOk h i (by omega)) fun c hc => ?_
    obtain ⟨j, hj⟩ := List.getElem?_of_mem hc
    exact (h i r hr).1.ok.all j c hj
theorem six_take {M : List Chunk} {p : Option Addr} {n cap : Nat} {xs : List (List Int)} (h : SixIn M (.slice p n cap) xs) (k : Nat) (hk : k ≤ n) : SixIn M (.slice p k cap) (xs.take k) := by
  obtain ⟨p9, cap9, e, hl, hg⟩ := h
  injection e with e1 e2 e3
  subst e1 e2 e3
  have e4 : (xs.take k).length = k := by rw [List.length_take]; exact Nat.min_eq_left hk
  refine ⟨p, cap, by rw [e4], by omega, fun i z hz => hg i z ?_⟩
  rw [List.getElem?_take] at hz
  split at hz
  · exact hz
  · cases hz

end Go.Proofs.YtkgmgmkbgnkdnaaGreat


namespace Go.Proofs.YtkgmgmkbgnkdnaaGreat
open Go.Proofs.Tryz
open Go Go.RowKit Gw
set_option linter.unusedVariables false
set_option linter.unusedSimpArgs false
set_option maxRecDepth 100000
attribute [local irreducible] Gw.At Gw.Nx Gw.Ops
open Go.ChangeShapes Go.WideShapes Go.Deep
theorem adr0 (ad : Addr) : ad.add 0 = ad := by simp [Addr.add]
theorem adr_spot {w : World} {a : Addr} {v : Value} (h : w.cell? a = some v) : a = ⟨a.block, a.off, none⟩ := by
  cases a with | mk b o s =>
  cases s with
  | none => rfl
  | some s =>
    simp only [World.cell?] at h
    split at h <;> simp at h
theorem cell_heap {w : World} {g i : Nat} {v : Value} (h : w.cell? ⟨g, i, none⟩ = some v) : ∃ cur T z, w.heap[g]? = some (.cells cur T z) ∧ cur[i]? = some v := by
  unfold World.cell? at h
  simp only at h
  split at h
  · rename_i c T z hc
    exact ⟨c, T, z, hc, by simpa using h⟩
  · cases h
section
variable {H : Type} {enc : TypeId × Value → H} {P : Program} {w : World} {base : Nat} {held : Bool}
end
def wholeL (w : World) : List Chunk := (List.range w.heap.size).filterMap fun b => (w.heap[b]?).map fun o => (b, o)
theorem mem_whole {w : World} {b : Nat} {o : Obj} : (b, o) ∈ wholeL w ↔ w.heap[b]? = some o := by
  unfold wholeL
  rw [List.mem_filterMap]
  constructor
  · rintro ⟨a, _, ha⟩
    obtain ⟨o', h1, h2⟩ := Option.map_eq_some_iff.1 ha
    injection h2 with e1 e2
    subst e1 e2
    exact h1
  · intro h
    refine ⟨b, ?_, by rw [h]; rfl⟩
    rw [List.mem_range]
    rcases Nat.lt_or_ge b w.heap.size with h1 | h1
    · exact h1
    · simp [Array.getElem?_eq_none h1] at h
theorem whole_keys (w : World) : ((wholeL w).map (·.1)).Nodup := by
  have : ∀ l : List Nat, ((l.filterMap fun b => (w.heap[b]?).map fun o => (b, o)).map (·.1)).Sublist l := by
    intro l
    induction l with
    | nil => simp
    | cons a l ih =>
      rw [List.filterMap_cons]
      cases h : w.heap[a]? with
      | none => simp only [Option.map_none]; exact ih.cons a
      | some o => simp only [Option.map_some, List.map_cons]; exact ih.cons_cons a
  exact List.Nodup.sublist (this _) List.nodup_range
def restL (w : World) (ks : List Nat) : List Chunk := (wholeL w).filter fun c => !ks.contains c.1
theorem mem_rest {w : World} {ks : List Nat} {b : Nat} {o : Obj} (h : w.heap[b]? = some o) (hk : b ∉ ks) : (b, o) ∈ restL w ks := by
  unfold restL
  rw [List.mem_filter]
  exact ⟨mem_whole.2 h, by simp [hk]⟩
theorem law_below {P : Program} {f : FuncId} {args : Array Value} {v : Value} {w : World} (L : List Chunk) (hL : ∀ c ∈ L, w.heap[c.1]? = some c.2) (hn : (L.map (·.1)).Nodup) {H : Hp} (hH : H.flatten = L ++ restL w (L.map (·.1))) (h : DoesR P f args H v) :
    Calls P f args w fun e w' => e = .returned v ∧ Below w.heap.size w w' := by
  have hsat : Sat w (H ++ []) w := by
    refine ⟨rfl, rfl, rfl, ?_, ?_⟩
    · rw [List.append_nil, hH, List.map_append, List.nodup_append]
      refine ⟨hn, ?_, ?_⟩
      · exact List.Nodup.sublist (List.filter_sublist.map _) (whole_keys w)
      · intro a ha b hb e
        subst e
        obtain ⟨c, hc, rfl⟩ := List.mem_map.1 hb
        unfold restL at hc
        have := (List.mem_filter.1 hc).2
        simp only [Bool.not_eq_true', List.contains_eq_mem, decide_eq_false_iff_not] at this
        exact this ha
    · intro p hp
      rw [List.append_nil, hH, List.mem_append] at hp
      rcases hp with hp | hp
      · exact hL p hp
      · exact mem_whole.1 (List.mem_filter.1 hp).1
  refine Calls.mono (h w [] w hsat) fun e w' he => ?_
  rcases he with ⟨v', H', rfl, ⟨rfl, rfl⟩, hs⟩ | ⟨_, _, _, hf, _⟩
  · refine ⟨rfl, hs.os, hs.tape, hs.output, ?_, ?_⟩
    · rcases Nat.eq_zero_or_pos w.heap.size with h0 | h0
      · omega
      · have hlt : w.heap.size - 1 < w.heap.size := by omega
        have hg : w.heap[w.heap.size - 1]? = some w.heap[w.heap.size - 1] := Array.getElem?_eq_getElem hlt
        have : w'.heap[w.heap.size - 1]? = some w.heap[w.heap.size - 1] := by
          by_cases hk : (w.heap.size - 1) ∈ L.map (·.1)
          · obtain ⟨c, hc, hk⟩ := List.mem_map.1 hk
            have h1 := hs.get c (by rw [List.append_nil, hH]; exact List.mem_append_left _ hc)
            have h2 := hL c hc
            rw [hk] at h1 h2
            rw [h1, ← h2, hg]
          · exact hs.get (_, _) (by rw [List.append_nil, hH]; exact List.mem_append_right _ (mem_rest hg hk))
        rcases Nat.lt_or_ge (w.heap.size - 1) w'.heap.size with h1 | h1
        · omega
        · rw [Array.getElem?_eq_none h1] at this; cases this
    · intro k hk
      have hg : w.heap[k]? = some w.heap[k] := Array.getElem?_eq_getElem hk
      by_cases hm : k ∈ L.map (·.1)
      · obtain ⟨c, hc, rfl⟩ := List.mem_map.1 hm
        have h1 := hs.get c (by rw [List.append_nil, hH]; exact List.mem_append_left _ hc)
        rw [h1, hL c hc]
      · rw [hg]
        exact hs.get (_, _) (by rw [List.append_nil, hH]; exact List.mem_append_right _ (mem_rest hg hm))
  · exact hf.elim

theorem law_at0 {f : FuncId} {args : Array Value} {v : Value} {W : World} (h : DoesR Tryz.prog f args [restL W []] v) :
    Calls Tryz.prog f args W fun e w' => e = .returned v ∧ Below W.heap.size W w' :=
  law_below [] (by simp) (by simp) (by simp) h
theorem list_choose {α : Type} : ∀ (n : Nat) (p : Nat → α → Prop), (∀ i, i < n → ∃ o, p i o) → ∃ os : List α, os.length = n ∧ ∀ i o, os[i]? = some o → p i o
  | 0, _, _ => ⟨[], rfl, fun i o h => by cases h⟩
  | n + 1, p, h => by
    obtain ⟨os, h1, h2⟩ := list_choose n p (fun i hi => h i (by omega))
    obtain ⟨o, ho⟩ := h n (by omega)
    refine ⟨os ++ [o], by simp [h1], fun i o' hi => ?_⟩
    rw [List.getElem?_append] at hi
    split at hi
    · exact h2 i o' hi
    · rename_i hlt
      have : i = n := by
        have := (List.getElem?_eq_some_iff.1 hi).1
        simp at this; omega
      subst this
      rw [h1, Nat.sub_self] at hi
      simp only [List.getElem?_cons_zero, Option.some.injEq] at hi
      subst hi; exact ho
section
variable {H : Type} {enc : TypeId × Value → H} {P : Program} {W : World} {base : Nat} {held : Bool}
theorem open_cells {t e : TypeId} {s fuel : Nat} {cs : List Value} {x : DataW H × List MemPlace} (ht : P.underlying t = some (.slice e)) (hc : P.cellsOf e = s) (hs : 0 < s) (h : DataW.trod enc P W base (fun _ => true) held fuel t cs = some x) :
    ∃ p len cap, cs = [.slice p len cap] ∧ (len ≤ maxLen ∧ len ≤ cap) ∧ ∀ i, i < len → ∃ cs' n z, cs'.length = s ∧ DataW.trod enc P W base (fun _ => true) held n e cs' = some z ∧
      ∃ g o cur T zz, p = some ⟨g, o, none⟩ ∧ W.heap[g]? = some (.cells cur T zz) ∧ ∀ j, j < s → cur[o + i * s + j]? = cs'[j]? := by
  rcases open_slice ht h with ⟨rfl, _⟩ | ⟨a, len, cap, m, n, D, Pl, rfl, _, hl, hm, hmm, _, hel⟩
  · exact ⟨none, 0, 0, rfl, ⟨Nat.zero_le _, Nat.le_refl _⟩, fun i hi => by omega⟩
  · simp only [if_true] at hmm
    subst hmm
    refine ⟨some a, len, m, rfl, ⟨by omega, hl⟩, fun i hi => ?_⟩
    have hsp2 : a = ⟨a.block, a.off, none⟩ := by
      obtain ⟨cs0, g1, _⟩ := hel 0 (by omega)
      rw [hc] at g1
      obtain ⟨_, glen, gg⟩ := World.cells?_some g1
      have g9 := gg 0 hs
      rw [List.getElem?_eq_getElem (l := cs0) (i := 0) (by omega), Nat.zero_mul, adr0, adr0] at g9
      exact adr_spot g9
    obtain ⟨cs', h1, h2⟩ := hel i (by omega)
    rw [hc] at h1
    obtain ⟨_, hlen, hg⟩ := World.cells?_some h1
    refine ⟨cs', n, _, hlen, h2, ?_⟩
    have h9 := hg 0 hs
    rw [List.getElem?_eq_getElem (l := cs') (i := 0) (by omega), hsp2, add_addr, add_addr] at h9
    obtain ⟨cur, T, zz, hb, _⟩ := cell_heap h9
    refine ⟨a.block, a.off, cur, T, zz, by rw [← hsp2], hb, fun j hj => ?_⟩
    have h8 := hg j hj
    rw [List.getElem?_eq_getElem (l := cs') (i := j) (by omega)] at h8 ⊢
    rw [hsp2, add_addr, add_addr] at h8
    obtain ⟨cur2, T2, zz2, hb2, hc2⟩ := cell_heap h8
    rw [hb] at hb2
    injection hb2 with e
    injection e with e1 _ _
    rw [e1]; exact hc2
end

theorem cInt : Tryz.prog.cellsOf 3 = 1 := by kernel_rfl
theorem cSix : Tryz.prog.cellsOf 60 = 6 := by kernel_rfl

theorem open_sixes0 {H : Type} {enc : TypeId × Value → H} {W : World} {base : Nat} {held : Bool} {fuel : Nat} {cs : List Value} {x : DataW H × List MemPlace} (h : DataW.trod enc Tryz.prog W base (fun _ => true) held fuel 22 cs = some x) :
    ∃ v xs, cs = [v] ∧ SixIn (restL W []) v xs := by
  obtain ⟨p, len, cap, rfl, hl, hel⟩ := open_cells underlying22 cSix (by decide) h
  obtain ⟨xs, h1, h2⟩ := list_choose len (fun i (z : List Int) => z.length = 6 ∧ (∀ n ∈ z, -9223372036854775808 ≤ n ∧ n ≤ 9223372036854775807) ∧ ∃ g o cur T zz, p = some ⟨g, o, none⟩ ∧ (g, Obj.cells cur T zz) ∈ restL W [] ∧ ∀ (j : Nat) (n : Int), z[j]? = some n → cur[o + i * 6 + j]? = some (.int .i64 n)) (fun i hi => by
    obtain ⟨cs', n, z, hlen, ht, g, o, cur, T, zz, hp, hb, hc⟩ := hel i hi
    obtain ⟨ys, m, _, _, _, hyl, hf⟩ := DataW.trod_array underlying60 ht
    obtain ⟨ns, hn1, hn2⟩ := list_choose 6 (fun j (n : Int) => (-9223372036854775808 ≤ n ∧ n ≤ 9223372036854775807) ∧ cs'[j]? = some (.int .i64 n)) (fun j hj => by
      have f := hf j hj
      rw [cInt, Nat.mul_one, List.getElem?_eq_getElem (by omega)] at f
      have hj2 : j < cs'.length := by omega
      have e : (cs'.drop j).take 1 = [cs'[j]] := by rw [List.drop_eq_getElem_cons hj2]; rfl
      rw [e] at f
      obtain ⟨k, hk, _, hkw⟩ := DataW.trod_int underlying3 f
      injection hk with hk _
      exact ⟨k, bounds_i64 hkw, by rw [List.getElem?_eq_getElem hj2, hk]⟩)
    have hat : ∀ (j : Nat) (n : Int), ns[j]? = some n → cur[o + i * 6 + j]? = some (.int .i64 n) := fun j n hj => by
      have hlt := (List.getElem?_eq_some_iff.1 hj).1
      rw [hc j (by omega)]
      exact (hn2 j n hj).2
    obtain ⟨n0, hn0⟩ : ∃ n, ns[0]? = some n := ⟨_, List.getElem?_eq_getElem (by omega)⟩
    exact ⟨ns, hn1, fun n hmem => by
      obtain ⟨j, hj⟩ := List.getElem?_of_mem hmem
      exact (hn2 j n hj).1, g, o, cur, T, zz, hp, mem_rest hb (by simp), hat⟩)
  subst h1
  exact ⟨_, xs, rfl, p, cap, rfl, hl, h2⟩

theorem okWide_arr {P : Program} {w : World} {r : Reach} {base n : Nat} {t e : TypeId} {v : Value} (hu : P.underlying t = some (.array n e)) (h : Value.okWide P w r base t v) : ∃ cs, v = .agg cs ∧ cs.size = P.cellsOf t := by
  unfold Value.okWide at h
  rw [hu] at h
  obtain ⟨cs, rfl, h1, _⟩ := h
  exact ⟨cs, rfl, h1⟩

theorem cFive : Tryz.prog.cellsOf 23 = 5 := by kernel_rfl
theorem list_five {l : List Value} (h : l.length = 5) : ∃ a b c d e, l = [a, b, c, d, e] := by
  match l, h with
  | [a, b, c, d, e], _ => exact ⟨a, b, c, d, e, rfl⟩
theorem open_arr5 {H : Type} {enc : TypeId × Value → H} {W : World} {base : Nat} {held : Bool} {fuel : Nat} {l : List Value} {x : DataW H × List MemPlace} (h : DataW.trod enc Tryz.prog W base (fun _ => true) held fuel 23 l = some x) (hl : l.length = 5) :
    ∃ a b c d e : Int, l = [.int .i64 a, .int .i64 b, .int .i64 c, .int .i64 d, .int .i64 e] ∧ (-9223372036854775808 ≤ a ∧ a ≤ 9223372036854775807) ∧ (-9223372036854775808 ≤ b ∧ b ≤ 9223372036854775807) ∧ (-9223372036854775808 ≤ c ∧ c ≤ 9223372036854775807) ∧ (-9223372036854775808 ≤ d ∧ d ≤ 9223372036854775807) ∧ (-9223372036854775808 ≤ e ∧ e ≤ 9223372036854775807) := by
  obtain ⟨ys, m, _, _, _, hyl, hf⟩ := DataW.trod_array underlying23 h
  have hj : ∀ j, j < 5 → ∃ n : Int, l[j]? = some (.int .i64 n) ∧ -9223372036854775808 ≤ n ∧ n ≤ 9223372036854775807 := fun j hj => by
    have f := hf j hj
    rw [cInt, Nat.mul_one, List.getElem?_eq_getElem (by omega)] at f
    have hj2 : j < l.length := by omega
    have e : (l.drop j).take 1 = [l[j]] := by rw [List.drop_eq_getElem_cons hj2]; rfl
    rw [e] at f
    obtain ⟨k, hk, _, hkw⟩ := DataW.trod_int underlying3 f
    injection hk with hk _
    exact ⟨k, by rw [List.getElem?_eq_getElem hj2, hk], bounds_i64 hkw⟩
  obtain ⟨v0, v1, v2, v3, v4, rfl⟩ := list_five hl
  obtain ⟨a, ha, ha2⟩ := hj 0 (by decide)
  obtain ⟨b, hb, hb2⟩ := hj 1 (by decide)
  obtain ⟨c, hc, hc2⟩ := hj 2 (by decide)
  obtain ⟨d, hd, hd2⟩ := hj 3 (by decide)
  obtain ⟨e, he, he2⟩ := hj 4 (by decide)
  simp at ha hb hc hd he
  subst ha hb hc hd he
  exact ⟨a, b, c, d, e, rfl, ha2, hb2, hc2, hd2, he2⟩

end Go.Proofs.YtkgmgmkbgnkdnaaGreat
