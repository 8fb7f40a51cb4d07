/- The keys of the store; a map that holds rows. -/
import Derived.Test.YtkgmgmkbgnkdnaaGreatEz
import Derived.Test.YtkgmgmkbgnkdnaaGreatLg11
import Derived.Test.YtkgmgmkbgnkdnaaGreatEx20

namespace Go.Proofs.YtkgmgmkbgnkdnaaGreat
open Go.Proofs.Tryz
open Go Go.RowKit Gw
set_option linter.unusedVariables false
set_option linter.unusedSimpArgs false
set_option maxRecDepth 100000
attribute [local irreducible] Gw.At Gw.Nx Gw.Ops
def K2 (k : Int × Int) : Value := .agg #[.int .i64 k.1, .int .i64 k.2]
def KD (k : Int × Int) : Prop := (Lit.int .i64 k.1).wf = true ∧ (Lit.int .i64 k.2).wf = true
def rowV (r : RowM) : Value := .agg #[.int .i64 r.t, .int .i64 r.k, .int .i64 r.v.a, .int .i64 r.v.b, .int .i64 r.v.c]
theorem K2_inj : ∀ a b, K2 a = K2 b → a = b := by
  rintro ⟨a, b⟩ ⟨c, d⟩ h
  unfold K2 at h
  simp only [Value.agg.injEq, Array.mk.injEq, List.cons.injEq, Value.int.injEq, and_true, true_and] at h
  rw [h.1, h.2]
theorem lits_int (P : Program) (d : Nat) (a : Int) {t : TypeId} (ht : P.underlying t = some (.int .i64)) (h : (Lit.int .i64 a).wf = true) : P.keyLits (d + 1) t [.int .i64 a] = some [.int .i64 a] := by
  unfold Program.keyLits
  rw [ht]
  simp [h]
theorem idKey : KeyOk Tryz.prog 110 K2 KD := KeyOk.ofLaw (deep_law (m := 3) (by decide) (by kernel_rfl) (by kernel_rfl) (by kernel_rfl)) (by
    rintro ⟨a, b⟩ ⟨ha, hb⟩
    have h1 : Tryz.prog.types.size + 1 = (Tryz.prog.types.size - 1) + 1 + 1 := by
      have : 0 < Tryz.prog.types.size := of_decide_eq_true (by kernel_rfl)
      omega
    have hc : Tryz.prog.cellsOf 3 = 1 := by kernel_rfl
    have hc2 : Tryz.prog.cellsOf 110 = 2 := by kernel_rfl
    have hk : Tryz.prog.keyType 110 = true := by kernel_rfl
    have hf : (K2 (a, b)).formed Tryz.prog 110 = true := by
      unfold Value.formed K2
      rw [underlying110]
      simp [hc2]
    unfold keyOf
    rw [underlying110]
    simp only [hk, hf, Bool.and_self, if_true]
    obtain ⟨d, hd⟩ : ∃ d, Tryz.prog.types.size + 1 = d + 1 + 1 := ⟨_, h1⟩
    rw [hd]
    unfold Program.keyLits
    rw [underlying110]
    have la := lits_int Tryz.prog d a underlying3 ha
    have lb := lits_int Tryz.prog d b underlying3 hb
    simp [K2, Value.cells, hc, hc2, la, lb]) K2_inj
structure MapR (l : List ((Int × Int) × Value)) (rs : List RowM) : Prop where
  mem : ∀ p, p ∈ l ↔ ∃ r ∈ rs, p = ((r.t, r.k), rowV r)
  kd : ∀ r ∈ rs, KD (r.t, r.k)
theorem mapR_nil : MapR [] [] := ⟨fun p => by simp, fun r h => by cases h⟩
theorem MapR.keys {l : List ((Int × Int) × Value)} {rs : List RowM} (h : MapR l rs) : ∀ p ∈ l, KD p.1 := fun p hp => by
  obtain ⟨r, hr, rfl⟩ := (h.mem p).1 hp
  exact h.kd r hr
theorem rowV_inj {a b : RowM} (h : rowV a = rowV b) : a = b := by
  obtain ⟨t, k, ⟨x, y, z⟩⟩ := a
  obtain ⟨t', k', ⟨x', y', z'⟩⟩ := b
  unfold rowV at h
  simp only [Value.agg.injEq, Array.mk.injEq, List.cons.injEq, Value.int.injEq, and_true, true_and] at h
  obtain ⟨rfl, rfl, rfl, rfl, rfl⟩ := h
  rfl
theorem MapR.len {es : Array MapEntry} {ck : Nat} {l : List ((Int × Int) × Value)} {rs : List RowM} (hm : MapM K2 es ck l) (h : MapR l rs) (hs : SortedR rs) : l.length = rs.length := by
  have h1 : l.Nodup := by
    have := hm.keys
    rw [List.nodup_iff_pairwise_ne, List.pairwise_map] at this
    rw [List.nodup_iff_pairwise_ne]
    exact this.imp (fun hne e => hne (by rw [e]))
  have h2 : (rs.map (fun r => ((r.t, r.k), rowV r))).Nodup := by
    rw [List.nodup_iff_pairwise_ne, List.pairwise_map]
    refine hs.imp (fun {a b} hab e => ?_)
    have e2 := rowV_inj (Prod.mk.inj e).2
    subst e2
    unfold RowM.lt2 at hab
    omega
  have hp : l.Perm (rs.map (fun r => ((r.t, r.k), rowV r))) := by
    rw [List.perm_ext_iff_of_nodup h1 h2]
    intro p
    rw [h.mem p, List.mem_map]
    constructor
    · rintro ⟨r, hr, rfl⟩; exact ⟨r, hr, rfl⟩
    · rintro ⟨r, hr, rfl⟩; exact ⟨r, hr, rfl⟩
  rw [hp.length_eq, List.length_map]
theorem MapR.get {es : Array MapEntry} {ck : Nat} {l : List ((Int × Int) × Value)} {rs : List RowM} (hm : MapM K2 es ck l) (h : MapR l rs) (hs : SortedR rs) (t k : Int) :
    (mget (t, k) l).getD (rowV RowM.zero) = rowV (getL rs t k).1 ∧ (mget (t, k) l).isSome = (getL rs t k).2 := by
  cases hg : (getL rs t k).2 with
  | true =>
    obtain ⟨r, hr, hi, _, he⟩ := get_some hg
    have hin : ((t, k), rowV r) ∈ l := (h.mem _).2 ⟨r, hr, by rw [show t = r.t from hi.1.symm, show k = r.k from hi.2.symm]⟩
    rw [mget_mem hm.keys hin, he]
    exact ⟨rfl, rfl⟩
  | false =>
    have hno : ∀ r ∈ rs, ¬ r.is t k := fun r hr hi => by rw [get_true hs hr hi] at hg; cases hg
    have hn : mget (t, k) l = none := mget_none (fun p hp e => by
      obtain ⟨r, hr, rfl⟩ := (h.mem p).1 hp
      injection e with e1 e2
      exact hno r hr ⟨e1, e2⟩)
    rw [hn, get_false hno]
    exact ⟨rfl, rfl⟩
theorem MapR.put {l l' : List ((Int × Int) × Value)} {rs : List RowM} {c : Chg} (h : MapR l rs) (hs : SortedR rs) (hf : fitC rs c) (hh : c.has = true) (hk : KD (c.t, c.k)) (hp : ∀ p, p ∈ l' ↔ p = ((c.t, c.k), rowV ⟨c.t, c.k, c.n⟩) ∨ (p ∈ l ∧ p.1 ≠ (c.t, c.k))) : MapR l' (putL rs c) := by
  refine ⟨fun p => ?_, fun r hr => ?_⟩
  · rw [hp p]
    constructor
    · rintro (rfl | ⟨h1, h2⟩)
      · exact ⟨_, (mem_put hs hf _).2 (.inr ⟨hh, rfl⟩), rfl⟩
      · obtain ⟨r, hr, rfl⟩ := (h.mem p).1 h1
        exact ⟨r, (mem_put hs hf _).2 (.inl ⟨hr, fun hi => h2 (by rw [show r.t = c.t from hi.1, show r.k = c.k from hi.2])⟩), rfl⟩
    · rintro ⟨r, hr, rfl⟩
      rcases (mem_put hs hf _).1 hr with ⟨h1, h2⟩ | ⟨_, rfl⟩
      · exact .inr ⟨(h.mem _).2 ⟨r, h1, rfl⟩, fun e => h2 (by injection e with e1 e2; exact ⟨e1, e2⟩)⟩
      · exact .inl rfl
  · rcases (mem_put hs hf _).1 hr with ⟨h1, _⟩ | ⟨_, rfl⟩
    · exact h.kd r h1
    · exact hk
theorem MapR.drop {l l' : List ((Int × Int) × Value)} {rs : List RowM} {c : Chg} (h : MapR l rs) (hs : SortedR rs) (hf : fitC rs c) (hh : c.has = false) (hp : ∀ p, p ∈ l' ↔ p ∈ l ∧ p.1 ≠ (c.t, c.k)) : MapR l' (putL rs c) := by
  refine ⟨fun p => ?_, fun r hr => ?_⟩
  · rw [hp p]
    constructor
    · rintro ⟨h1, h2⟩
      obtain ⟨r, hr, rfl⟩ := (h.mem p).1 h1
      exact ⟨r, (mem_put hs hf _).2 (.inl ⟨hr, fun hi => h2 (by rw [show r.t = c.t from hi.1, show r.k = c.k from hi.2])⟩), rfl⟩
    · rintro ⟨r, hr, rfl⟩
      rcases (mem_put hs hf _).1 hr with ⟨h1, h2⟩ | ⟨h9, _⟩
      · exact ⟨(h.mem _).2 ⟨r, h1, rfl⟩, fun e => h2 (by injection e with e1 e2; exact ⟨e1, e2⟩)⟩
      · rw [hh] at h9; cases h9
  · rcases (mem_put hs hf _).1 hr with ⟨h1, _⟩ | ⟨h9, _⟩
    · exact h.kd r h1
    · rw [hh] at h9; cases h9
theorem wf_of {n : Int} (h : -9223372036854775808 ≤ n ∧ n ≤ 9223372036854775807) : (Lit.int .i64 n).wf = true := by
  simp [Lit.wf, IntKind.min, IntKind.max, IntKind.signed, IntKind.bits]; omega
theorem chg_kd {c : Chg} (h : c.ok) : KD (c.t, c.k) := by
  obtain ⟨h1, h2, _, _⟩ := h
  have hk : (0 ≤ c.t ∧ c.t ≤ 3) ∧ (1 ≤ c.k ∧ c.k ≤ 1000000) := by
    cases hh : c.had with
    | true =>
      have : c.before.ok := Classical.byContradiction (fun hn => h2 (.inl ⟨hh, hn⟩))
      rw [before_t hh] at this; exact this.2
    | false =>
      cases hs : c.has with
      | true =>
        have : c.after.ok := Classical.byContradiction (fun hn => h2 (.inr ⟨hs, hn⟩))
        rw [after_t hs] at this; exact this.2
      | false => exact absurd (.inl ⟨by rw [hh]; decide, by rw [hs]; decide⟩) h1
  exact ⟨wf_of (by show _ ≤ c.t ∧ c.t ≤ _; omega), wf_of (by show _ ≤ c.k ∧ c.k ≤ _; omega)⟩

end Go.Proofs.YtkgmgmkbgnkdnaaGreat
