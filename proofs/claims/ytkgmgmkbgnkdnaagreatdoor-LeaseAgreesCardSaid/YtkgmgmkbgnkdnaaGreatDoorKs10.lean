/- The keys of the store; a map that holds rows. -/
/- The store: New, Apply, At. -/
/- The store: At. -/
/- The value of a column: of the reference of layer 3, of the program. -/
/- The reference of layer 4: Range. -/
/- row.Value, to the world: what the comparator of the sort wants. -/
/- The store: the predicate of Range. -/
/- The store: chosen, over a contract of the sort. -/
/- The store: chosen, called by Range. -/
import Derived.Test.YtkgmgmkbgnkdnaaGreatDoorEz
import Derived.Test.YtkgmgmkbgnkdnaaGreatDoorLg11
import Derived.Test.YtkgmgmkbgnkdnaaGreatDoorEx20
import Derived.Test.YtkgmgmkbgnkdnaaGreatDoorEx17
import Derived.WalkKit
import Derived.WalkSpells
import Derived.Sort.Grow
import Derived.Deep.Draws
import Derived.Lib.Hide
import Derived.LoopTactic
import Derived.Test.YtkgmgmkbgnkdnaaGreatDoorWi2

namespace Go.Proofs.YtkgmgmkbgnkdnaaGreatDoor
open Go.Proofs.Tryz
open Go Go.RowKit Gw
set_option linter.unusedVariables false
set_option linter.unusedSimpArgs false
set_option maxRecDepth 100000
attribute [local irreducible] Gw.At Gw.Nx Gw.Ops
def K2 (k : Int × Int) : Value := .agg #[.int .i64 k.1, .int .i64 k.2]
def KD (k : Int × Int) : Prop := (Lit.int .i64 k.1).wf = true ∧ (Lit.int .i64 k.2).wf = true
def rowV (r : RowM) : Value := .agg #[.int .i64 r.t, .int .i64 r.k, .int .i64 r.v.a, .int .i64 r.v.b, .int .i64 r.v.c]
theorem K2_inj : ∀ a b, K2 a = K2 b → a = b := by
  rintro ⟨a, b⟩ ⟨c, d⟩ h
  unfold K2 at h
  simp only [Value.agg.injEq, Array.mk.injEq, List.cons.injEq, Value.int.injEq, and_true, true_and] at h
  rw [h.1, h.2]
theorem lits_int (P : Program) (d : Nat) (a : Int) {t : TypeId} (ht : P.underlying t = some (.int .i64)) (h : (Lit.int .i64 a).wf = true) : P.keyLits (d + 1) t [.int .i64 a] = some [.int .i64 a] := by
  unfold Program.keyLits
  rw [ht]
  simp [h]
theorem idKey : KeyOk Tryz.prog 126 K2 KD := KeyOk.ofLaw (deep_law (m := 3) (by decide) (by kernel_rfl) (by kernel_rfl) (by kernel_rfl)) (by
    rintro ⟨a, b⟩ ⟨ha, hb⟩
    have h1 : Tryz.prog.types.size + 1 = (Tryz.prog.types.size - 1) + 1 + 1 := by
      have : 0 < Tryz.prog.types.size := of_decide_eq_true (by kernel_rfl)
      omega
    have hc : Tryz.prog.cellsOf 3 = 1 := by kernel_rfl
    have hc2 : Tryz.prog.cellsOf 126 = 2 := by kernel_rfl
    have hk : Tryz.prog.keyType 126 = true := by kernel_rfl
    have hf : (K2 (a, b)).formed Tryz.prog 126 = true := by
      unfold Value.formed K2
      rw [underlying126]
      simp [hc2]
    unfold keyOf
    rw [underlying126]
    simp only [hk, hf, Bool.and_self, if_true]
    obtain ⟨d, hd⟩ : ∃ d, Tryz.prog.types.size + 1 = d + 1 + 1 := ⟨_, h1⟩
    rw [hd]
    unfold Program.keyLits
    rw [underlying126]
    have la := lits_int Tryz.prog d a underlying3 ha
    have lb := lits_int Tryz.prog d b underlying3 hb
    simp [K2, Value.cells, hc, hc2, la, lb]) K2_inj
structure MapR (l : List ((Int × Int) × Value)) (rs : List RowM) : Prop where
  mem : ∀ p, p ∈ l ↔ ∃ r ∈ rs, p = ((r.t, r.k), rowV r)
  kd : ∀ r ∈ rs, KD (r.t, r.k)
theorem mapR_nil : MapR [] [] := ⟨fun p => by simp, fun r h => by cases h⟩
theorem MapR.keys {l : List ((Int × Int) × Value)} {rs : List RowM} (h : MapR l rs) : ∀ p ∈ l, KD p.1 := fun p hp => by
  obtain ⟨r, hr, rfl⟩ := (h.mem p).1 hp
  exact h.kd r hr
theorem rowV_inj {a b : RowM} (h : rowV a = rowV b) : a = b := by
  obtain ⟨t, k, ⟨x, y, z⟩⟩ := a
  obtain ⟨t', k', ⟨x', y', z'⟩⟩ := b
  unfold rowV at h
  simp only [Value.agg.injEq, Array.mk.injEq, List.cons.injEq, Value.int.injEq, and_true, true_and] at h
  obtain ⟨rfl, rfl, rfl, rfl, rfl⟩ := h
  rfl
theorem MapR.len {es : Array MapEntry} {ck : Nat} {l : List ((Int × Int) × Value)} {rs : List RowM} (hm : MapM K2 es ck l) (h : MapR l rs) (hs : SortedR rs) : l.length = rs.length := by
  have h1 : l.Nodup := by
    have := hm.keys
    rw [List.nodup_iff_pairwise_ne, List.pairwise_map] at this
    rw [List.nodup_iff_pairwise_ne]
    exact this.imp (fun hne e => hne (by rw [e]))
  have h2 : (rs.map (fun r => ((r.t, r.k), rowV r))).Nodup := by
    rw [List.nodup_iff_pairwise_ne, List.pairwise_map]
    refine hs.imp (fun {a b} hab e => ?_)
    have e2 := rowV_inj (Prod.mk.inj e).2
    subst e2
    unfold RowM.lt2 at hab
    omega
  have hp : l.Perm (rs.map (fun r => ((r.t, r.k), rowV r))) := by
    rw [List.perm_ext_iff_of_nodup h1 h2]
    intro p
    rw [h.mem p, List.mem_map]
    constructor
    · rintro ⟨r, hr, rfl⟩; exact ⟨r, hr, rfl⟩
    · rintro ⟨r, hr, rfl⟩; exact ⟨r, hr, rfl⟩
  rw [hp.length_eq, List.length_map]
theorem MapR.get {es : Array MapEntry} {ck : Nat} {l : List ((Int × Int) × Value)} {rs : List RowM} (hm : MapM K2 es ck l) (h : MapR l rs) (hs : SortedR rs) (t k : Int) :
    (mget (t, k) l).getD (rowV RowM.zero) = rowV (getL rs t k).1 ∧ (mget (t, k) l).isSome = (getL rs t k).2 := by
  cases hg : (getL rs t k).2 with
  | true =>
    obtain ⟨r, hr, hi, _, he⟩ := get_some hg
    have hin : ((t, k), rowV r) ∈ l := (h.mem _).2 ⟨r, hr, by rw [show t = r.t from hi.1.symm, show k = r.k from hi.2.symm]⟩
    rw [mget_mem hm.keys hin, he]
    exact ⟨rfl, rfl⟩
  | false =>
    have hno : ∀ r ∈ rs, ¬ r.is t k := fun r hr hi => by rw [get_true hs hr hi] at hg; cases hg
    have hn : mget (t, k) l = none := mget_none (fun p hp e => by
      obtain ⟨r, hr, rfl⟩ := (h.mem p).1 hp
      injection e with e1 e2
      exact hno r hr ⟨e1, e2⟩)
    rw [hn, get_false hno]
    exact ⟨rfl, rfl⟩
theorem MapR.put {l l' : List ((Int × Int) × Value)} {rs : List RowM} {c : Chg} (h : MapR l rs) (hs : SortedR rs) (hf : fitC rs c) (hh : c.has = true) (hk : KD (c.t, c.k)) (hp : ∀ p, p ∈ l' ↔ p = ((c.t, c.k), rowV ⟨c.t, c.k, c.n⟩) ∨ (p ∈ l ∧ p.1 ≠ (c.t, c.k))) : MapR l' (putL rs c) := by
  refine ⟨fun p => ?_, fun r hr => ?_⟩
  · rw [hp p]
    constructor
    · rintro (rfl | ⟨h1, h2⟩)
      · exact ⟨_, (mem_put hs hf _).2 (.inr ⟨hh, rfl⟩), rfl⟩
      · obtain ⟨r, hr, rfl⟩ := (h.mem p).1 h1
        exact ⟨r, (mem_put hs hf _).2 (.inl ⟨hr, fun hi => h2 (by rw [show r.t = c.t from hi.1, show r.k = c.k from hi.2])⟩), rfl⟩
    · rintro ⟨r, hr, rfl⟩
      rcases (mem_put hs hf _).1 hr with ⟨h1, h2⟩ | ⟨_, rfl⟩
      · exact .inr ⟨(h.mem _).2 ⟨r, h1, rfl⟩, fun e => h2 (by injection e with e1 e2; exact ⟨e1, e2⟩)⟩
      · exact .inl rfl
  · rcases (mem_put hs hf _).1 hr with ⟨h1, _⟩ | ⟨_, rfl⟩
    · exact h.kd r h1
    · exact hk
theorem MapR.drop {l l' : List ((Int × Int) × Value)} {rs : List RowM} {c : Chg} (h : MapR l rs) (hs : SortedR rs) (hf : fitC rs c) (hh : c.has = false) (hp : ∀ p, p ∈ l' ↔ p ∈ l ∧ p.1 ≠ (c.t, c.k)) : MapR l' (putL rs c) := by
  refine ⟨fun p => ?_, fun r hr => ?_⟩
  · rw [hp p]
    constructor
    · rintro ⟨h1, h2⟩
      obtain ⟨r, hr, rfl⟩ := (h.mem p).1 h1
      exact ⟨r, (mem_put hs hf _).2 (.inl ⟨hr, fun hi => h2 (by rw [show r.t = c.t from hi.1, show r.k = c.k from hi.2])⟩), rfl⟩
    · rintro ⟨r, hr, rfl⟩
      rcases (mem_put hs hf _).1 hr with ⟨h1, h2⟩ | ⟨h9, _⟩
      · exact ⟨(h.mem _).2 ⟨r, h1, rfl⟩, fun e => h2 (by injection e with e1 e2; exact ⟨e1, e2⟩)⟩
      · rw [hh] at h9; cases h9
  · rcases (mem_put hs hf _).1 hr with ⟨h1, _⟩ | ⟨h9, _⟩
    · exact h.kd r h1
    · rw [hh] at h9; cases h9
theorem wf_of {n : Int} (h : -9223372036854775808 ≤ n ∧ n ≤ 9223372036854775807) : (Lit.int .i64 n).wf = true := by
  simp [Lit.wf, IntKind.min, IntKind.max, IntKind.signed, IntKind.bits]; omega
theorem chg_kd {c : Chg} (h : c.ok) : KD (c.t, c.k) := by
  obtain ⟨h1, h2, _, _⟩ := h
  have hk : (0 ≤ c.t ∧ c.t ≤ 3) ∧ (1 ≤ c.k ∧ c.k ≤ 1000000) := by
    cases hh : c.had with
    | true =>
      have : c.before.ok := Classical.byContradiction (fun hn => h2 (.inl ⟨hh, hn⟩))
      rw [before_t hh] at this; exact this.2
    | false =>
      cases hs : c.has with
      | true =>
        have : c.after.ok := Classical.byContradiction (fun hn => h2 (.inr ⟨hs, hn⟩))
        rw [after_t hs] at this; exact this.2
      | false => exact absurd (.inl ⟨by rw [hh]; decide, by rw [hs]; decide⟩) h1
  exact ⟨wf_of (by show _ ≤ c.t ∧ c.t ≤ _; omega), wf_of (by show _ ≤ c.k ∧ c.k ≤ _; omega)⟩

end Go.Proofs.YtkgmgmkbgnkdnaaGreatDoor

namespace Go.Proofs.YtkgmgmkbgnkdnaaGreatDoor
open Go.Proofs.Tryz
open Go Go.RowKit Gw
set_option linter.unusedVariables false
set_option linter.unusedSimpArgs false
set_option maxRecDepth 100000
attribute [local irreducible] Gw.At Gw.Nx Gw.Ops
theorem rw_after (c : Chg) : DoesR Tryz.prog 49 #[.agg #[.int .i64 c.t, .int .i64 c.k, .bool c.had, .int .i64 c.o.a, .int .i64 c.o.b, .int .i64 c.o.c, .bool c.has, .int .i64 c.n.a, .int .i64 c.n.b, .int .i64 c.n.c]] [] (.tuple #[.agg #[.int .i64 (halfL c c.has c.n).t, .int .i64 (halfL c c.has c.n).k, .int .i64 (halfL c c.has c.n).v.a, .int .i64 (halfL c c.has c.n).v.b, .int .i64 (halfL c c.has c.n).v.c], .bool c.has]) := by
 refine spec_enter func49 rfl ntmps49 rfl ?_
 intro u R
 refine Zb [0] ?_
 refine Zq <| Zg <| Ze (w_box Y (cs := #[_, _, _, _, _, _, _, _, _, _]) rfl) ?_
 rintro _ _ ⟨b1, rfl, rfl⟩
 refine Ze (w_alloc zeroValue67 (cs := #[_, _, _, _, _]) rfl) ?_
 rintro _ _ ⟨b2, rfl, rfl⟩
 refine Za Y <| Z0 <| Zx <| Zq <| Zg <| Zo Wh (p_load_agg (cs := #[_, _, _, _, _, _, _, _, _, _]) isAgg55 sizeOf55 Y Wb (by rfl)) ?_
 refine Zh 6 underlying55 rfl rfl sizeOf4 Y <| Zl isAgg4 Y ?_
 refine Zh 7 underlying55 rfl rfl sizeOf53 Y <| Zo Wh (p_load_agg (cs := #[_, _, _]) isAgg53 sizeOf53 Y Wb (by rfl)) ?_
 refine Xr [_, _, _] Y call97 Y rfl (rw_half c c.has c.n) ?_
 refine Zd Y rfl <| Zd Y rfl <| Xe (w_store_agg sizeOf67 Y Y (by (simp [Value.oneCell']; done)) Wu (by rfl) (by first | rfl | (simp; done)) Wb (by exact free_zero _)) ?_
 refine Za Y <| Z0 <| Zn [2, 3] ?_
 refine Zx <| at_ret ?_
 refine nx_endct rfl results49 Y Wh (loadVar_agg isAgg67 sizeOf67 Wn (rfl)) Y (by exact ⟨rfl, rfl⟩)

theorem st_new : Does Tryz.prog 22 #[] [] (fun r H' => ∃ sp mb, r = .pointer (some ⟨sp, 0, none⟩) ∧ H' = [[(sp, .cells #[.map (some mb), .int .i64 0] 124 (0, 0))], [(mb, .map #[] 0)]]) := by
 refine spec_enter func22 rfl ntmps22 rfl ?_
 intro u R
 refine Zb [] ?_
 refine Zq <| Zg <| Za Y <| Z0 <| Zx <| Zq <| Zg <| Ze (w_makeMap) ?_
 rintro _ _ ⟨mb, rfl, rfl⟩
 refine Zv (p_build (vs := [(0, _)]) (cs := #[_, _]) Y (run_build_struct (pl := #[(0, 1), (1, 1)]) zeroValue122 underlying122 (fun _ => by kernel_rfl) rfl)) ?_
 refine Zv (p_build (vs := [(0, _)]) (cs := #[_, _]) Y (run_build_struct (pl := #[(0, 2)]) zeroValue124 underlying124 (fun _ => by kernel_rfl) rfl)) ?_
 refine Ze (w_box Y (cs := #[_, _]) rfl) ?_
 rintro _ _ ⟨sp, rfl, rfl⟩
 refine Za Y <| Z0 <| Zx <| at_ret ?_
 refine nx_end1 rfl results22 Y (by exact ⟨sp, mb, rfl, rfl⟩)

theorem st_fits (sp mb : Nat) (p rp : Int) (es : Array MapEntry) (ck : Nat) (lm : List ((Int × Int) × Value)) (rs : List RowM) (M : List Chunk) (q : Option Addr) (cap : Nat) (cs : List Chg) (hm : MapM K2 es ck lm) (hR : MapR lm rs) (hO : ChgsIn M (.slice q cs.length cap) cs) (hs : SortedR rs) (hn : rs.length ≤ 2000) (hA : AppOk rs p rp cs) :
    DoesR Tryz.prog 48 #[.pointer (some ⟨sp, 0, none⟩), .agg #[.int .i64 rp, .slice q cs.length cap]] [[(sp, .cells #[.map (some mb), .int .i64 p] 124 (0, 0))], [(mb, .map es ck)], M] (.bool true) := by
 have hml : maxLen = 9223372036854775807 := rfl
 obtain ⟨p9, cap9, e9, hol, hg⟩ := id hO
 injection e9 with e91 e92 e93
 subst e91 e93
 have hok := hA.ok
 have hpo := hA.pos
 have hcl := hok.len
 have hrp := hok.pos
 have hasc := asc_of hok.ord
 have hln := hR.len hm hs
 refine spec_enter func48 rfl ntmps48 rfl ?_
 intro u R
 refine Zb [0, 1] ?_
 refine Zq <| Zg <| Ze (w_box Y (cs := #[_, _]) rfl) ?_
 rintro _ _ ⟨b1, rfl, rfl⟩
 refine Za Y <| Z0 <| Zx <| Zq <| Zq <| at_draw (n := 14) (0 :: 1 :: 3 :: 7 :: 15 :: 31 :: 15 :: 79 :: 207 :: 463 :: 975 :: 1999 :: 4095 :: 8191 :: []) 2 (by kernel_rfl) (by kernel_rfl) rfl ?_
 refine lin_r (D' := 1) 0 rfl rfl rfl Wh (p_load_agg (cs := #[_, _]) isAgg51 sizeOf51 Y Wb (by rfl)) ?_
 refine Yz 1 1 3 [0] [false] [] rfl Y rfl rfl rfl rfl (Zu [_] Y call96 Y rfl (rw_validr rp q cap cs M hO)) ?_
 rintro _ _ ⟨rfl, rfl⟩
 refine ⟨keep_nil, ?_⟩
 rw [decide_eq_true hok]
 refine Zi 7 2 rfl (p_not Y) <| Zi 15 3 rfl (p_move Y) ?_
 refine lin_split_bool (t := 13) Y (fun h1 => ?_) (fun h1 => ?_)
 ·
  first | rw [decide_eq_true h1] | rw [h1] | skip
  cases h1
 first | rw [decide_eq_false h1] | rw [h1] | skip
 refine lin_wg (D' := 31) 4 Y rfl rfl rfl (p_fieldAddr0 (off := 0) underlying51 rfl rfl sizeOf3 Y) ?_
 refine lin_rg (D' := 63) 5 Y rfl rfl rfl Wh (p_load isAgg3 Y (by rfl)) ?_
 refine lin_wg (D' := 127) 6 Y rfl rfl rfl (p_move Y) ?_
 refine lin_wg (D' := 255) 7 Y rfl rfl rfl (p_nilChk Y rfl) ?_
 refine lin_wg (D' := 511) 8 Y rfl rfl rfl (p_fieldAddr0 (off := 0) underlying124 rfl rfl sizeOf122 Y) ?_
 refine lin_wg (D' := 1023) 9 Y rfl rfl rfl (p_fieldAddr1 (off := 1) underlying122 rfl rfl sizeOf3 Y) ?_
 refine lin_rg (D' := 2047) 10 Y rfl rfl rfl Wh (p_load isAgg3 Y (by rfl)) ?_
 (refine lin_wg (D' := 4095) 11 Y rfl rfl rfl (p_add Y Y (IntWalk.i64_in _ ?_)) ?_; (focus (omega)))
 refine lin_wg (D' := 8191) 12 Y rfl rfl rfl (p_neq Y Y) ?_
 refine Zi 16383 13 rfl (p_pick_f Y Y) <| lin_nil ?_
 refine Zn [0, 3, 23] ?_
 refine Zx ?_
 refine at_if Y (fun h2 => ?_) (fun h2 => ?_)
 ·
  exfalso; contradiction
 refine at_skip <| Zx <| Zq <| Zg <| Zm Y <| Zp Y rfl <| Zh 0 underlying124 rfl rfl sizeOf122 Y <| Zv (p_fieldAddr1 (off := 0) underlying122 rfl rfl sizeOf120 Y) <| Zl isAgg120 Y ?_
 refine Zo Wh (p_len_map underlying120 hm Y) ?_
 refine Za Y <| Z0 <| Zx <| Zq <| Zq <| Zg <| Zh 1 underlying51 rfl rfl sizeOf49 Y <| Zl isAgg49 Y ?_
 refine Zv (p_len_slice underlying49 Y) <| Zm Y <| Z0 <| Zx <| at_block <| Zb [5, 33, 0, 31, 32] ?_
 refine at_loopB (e0 := [(5, _), (33, _)]) (H0 := _) (n := _) (fun m e H => ∃ (i : Nat), m = cs.length - i ∧ (i ≤ cs.length) ∧ e = [(5, .int .i64 (sizeL rs (cs.take i))), (33, .int .i64 (i : Int))] ∧ H = []) (by exact ⟨0, rfl, Nat.zero_le _, by rw [hln]; rfl, rfl⟩) Wp ?_
 rintro _ _ _ ⟨i, rfl, hi, rfl, rfl⟩
 have hsl := sizeL_le rs cs i
 refine Zq <| Zg <| Zv (p_lss_nat Y Y) <| Z0 <| Zx <| Zq ?_
 refine at_if Y (fun hlt => ?_) (fun hlt => ?_)
 ·
  obtain ⟨x, hx⟩ : ∃ x, cs[i]? = some x := ⟨_, List.getElem?_eq_getElem hlt⟩
  obtain ⟨g, off, cur, T, zz, rfl, hm9, hsz, hex⟩ := hg i x hx
  have hxo := hok.all i x hx
  have hkd := chg_kd hxo
  obtain ⟨hf1, hf2⟩ := hA.fit x (List.mem_of_getElem? hx)
  have hget := hR.get hm hs x.t x.k
  obtain ⟨gr, hgr⟩ : ∃ gr, gr = getL rs x.t x.k := ⟨_, rfl⟩
  rw [← hgr] at hget hf1 hf2
  clear hgr
  refine at_skip <| Zx <| Zq <| at_block <| Zq <| Zg ?_
  (refine op_v (p_indexAddr_nat underlying49 sizeOf55 Y Y ?_) ?_; (focus (first | omega | decide | (simp; done))))
  refine op_rm (cs := [(g, .cells cur T zz)]) (by simp [hm9]) (p_load_agg (cs := #[.int .i64 x.t, .int .i64 x.k, .bool x.had, .int .i64 x.o.a, .int .i64 x.o.b, .int .i64 x.o.c, .bool x.has, .int .i64 x.n.a, .int .i64 x.n.b, .int .i64 x.n.c]) isAgg55 sizeOf55 Y (by omega) hex) rfl rfl ?_
  refine Ze (w_alloc zeroValue55 (cs := #[_, _, _, _, _, _, _, _, _, _]) rfl) ?_
  rintro _ _ ⟨cb, rfl, rfl⟩
  refine Xe (w_store_agg sizeOf55 Y Y (by (simp [Value.oneCell']; done)) Wu (by exact (rfl : _ = (#[.int .i64 x.t, .int .i64 x.k, .bool x.had, .int .i64 x.o.a, .int .i64 x.o.b, .int .i64 x.o.c, .bool x.has, .int .i64 x.n.a, .int .i64 x.n.b, .int .i64 x.n.c] : Array Value))) (by first | rfl | (simp; done)) Wb (by exact free_zero _)) ?_
  refine Z0 <| Zx <| Zq <| at_draw (n := 17) (0 :: 1 :: 3 :: 7 :: 15 :: 0 :: 32 :: 0 :: 128 :: 480 :: 1023 :: 2047 :: 4095 :: 4095 :: 0 :: 24575 :: 65535 :: []) 49152 (by kernel_rfl) (by kernel_rfl) rfl ?_
  refine Zi 1 0 rfl (p_move Y) <| Zi 3 1 rfl (p_nilChk Y rfl) <| Zi 7 2 rfl (p_fieldAddr0 (off := 0) underlying124 rfl rfl sizeOf122 Y) <| Zi 15 3 rfl (p_fieldAddr1 (off := 0) underlying122 rfl rfl sizeOf120 Y) <| Zj 31 4 rfl isAgg120 Y ?_
  refine Zi 63 5 rfl (p_fieldAddr0 (off := 0) underlying55 rfl rfl sizeOf3 Y) <| Zj 127 6 rfl isAgg3 Y ?_
  refine Zi 255 7 rfl (p_fieldAddr0 (off := 1) underlying55 rfl rfl sizeOf3 Y) <| Zj 511 8 rfl isAgg3 Y ?_
  refine Zi 1023 9 rfl (p_build (vs := [(0, _), (1, _)]) (cs := #[_, _]) Y (run_build_struct (pl := #[(0, 1), (1, 1)]) zeroValue126 underlying126 (fun _ => by kernel_rfl) rfl)) ?_
  refine lin_r (D' := 2047) 10 rfl rfl rfl Wh (p_lookupV idKey underlying120 zeroValue67 hm hR.keys (hkd) (hget) Y Y) ?_
  refine Zi 4095 11 rfl (p_move Y) <| Zi 8191 12 rfl (p_extract Y rfl) <| Zi 16383 13 rfl (p_extract Y rfl) <| Zz (l := [14]) ?_
  refine Zy 0 32767 [10, 8, 6, 4] [true, true, true, true] [(10, (_, _)), (8, (_, _)), (6, (_, _)), (4, (_, _))] rfl Y rfl rfl rfl rfl (w_alloc zeroValue67 (cs := #[_, _, _, _, _]) rfl) ?hk_3 (fun _ _ h => h.elim) ?hl_3
  case hk_3 =>
   rintro _ _ ⟨ob, rfl, rfl⟩
   refine ⟨Zk (Zk (Zk (Zk (keep_nil)))), ?_⟩
   refine Yz 15 24575 65535 [10, 8, 6, 4] [false, false, false, false] [] rfl Y rfl rfl rfl rfl (w_store_agg sizeOf67 Y Y (by (simp [Value.oneCell']; done)) Wu (by exact (rfl : _ = (#[.int .i64 gr.1.t, .int .i64 gr.1.k, .int .i64 gr.1.v.a, .int .i64 gr.1.v.b, .int .i64 gr.1.v.c] : Array Value))) (by first | rfl | (simp; done)) Wb (by exact free_zero _)) ?_
   rintro _ _ ⟨rfl, rfl⟩
   refine ⟨keep_nil, ?_⟩
   refine Zi 131071 16 rfl (p_assign Y) <| lin_nil ?_
   refine Zn [0, 5, 7, 8, 9, 31, 32, 33] ?_
   refine Zx <| Zq <| Zq <| Zg <| Zm Y <| Zh 2 underlying55 rfl rfl sizeOf4 Y <| Zl isAgg4 Y ?_
   refine Zv (p_neq_bool underlying4 Y Y) <| Zm Y ?_
   refine ops_split (t := 55) Y rfl (fun hd1 => ?_) (fun hd1 => ?_)
   ·
    exfalso; contradiction
   refine Zf Y Y <| Zf Y Y ?_
   refine ops_split_bool (t := 57) Y rfl (fun hd2 => ?_) (fun hd2 => ?_)
   ·
    refine Yf 2 underlying67 rfl rfl sizeOf53 Y <| op_rg Y Wh (p_load_agg (cs := #[_, _, _]) isAgg53 sizeOf53 Y Wb (by rfl)) rfl rfl ?_
    refine Yf 3 underlying55 rfl rfl sizeOf53 Y <| op_rg Y Wh (p_load_agg (cs := #[_, _, _]) isAgg53 sizeOf53 Y Wb (by rfl)) rfl rfl ?_
    refine Yg (p_neq_arr3 (by kernel_rfl) underlying53 underlying3 isAgg3 sizeOf3 Y Y) ?_
    refine Yg (p_pick_t Y Y) <| Zv (p_pick_f Y Y) <| Z0 <| Zn [0, 5, 7, 31, 32, 33, 64] ?_
    refine Zx ?_
    refine at_if Y (fun hd3 => ?_) (fun hd3 => ?_)
    ·
     exfalso; exact hd3 (hf2 hd2)
    refine at_skip <| Zx <| Zq <| Zq <| Zg <| Zh 2 underlying55 rfl rfl sizeOf4 Y <| Zl isAgg4 Y ?_
    refine Z0 <| Zx ?_
    refine at_if_bool Y (fun hh1 => ?_) (fun hh1 => ?_)
    ·
     refine Zg <| Zm Y ?_
     (refine op_v (p_sub Y Y (IntWalk.i64_in _ ?_)) ?_; (focus (omega)))
     refine Za Y <| Z0 <| Zx <| Zq <| Zg <| Zh 6 underlying55 rfl rfl sizeOf4 Y <| Zl isAgg4 Y ?_
     refine Z0 <| Zx ?_
     refine at_if_bool Y (fun hh2 => ?_) (fun hh2 => ?_)
     ·
      refine Zg <| Zm Y <| Yi Y Y <| Za Y <| Z0 <| nx_block_normal <| Zx <| Zg <| Ya (n := 1) Y Y <| Zm Y <| Z0 <| Zn [5, 33, 0, 31, 32] ?_
      refine nx_againB (e' := [(5, _), (33, _)]) (m := _) (H' := _) (by exact ⟨i + 1, rfl, by omega, by rw [sz_tt hx hh1 hh2], rfl⟩)
     refine at_skip <| nx_block_normal <| Zx <| Zg <| Ya (n := 1) Y Y <| Zm Y <| Z0 <| Zn [5, 33, 0, 31, 32] ?_
     refine nx_againB (e' := [(5, _), (33, _)]) (m := _) (H' := _) (by exact ⟨i + 1, rfl, by omega, by rw [sz_tf hx hh1 hh2], rfl⟩)
    refine at_skip <| Zx <| Zq <| Zg <| Zh 6 underlying55 rfl rfl sizeOf4 Y <| Zl isAgg4 Y ?_
    refine Z0 <| Zx ?_
    refine at_if_bool Y (fun hh2 => ?_) (fun hh2 => ?_)
    ·
     refine Zg <| Zm Y <| Yi Y Y <| Za Y <| Z0 <| nx_block_normal <| Zx <| Zg <| Ya (n := 1) Y Y <| Zm Y <| Z0 <| Zn [5, 33, 0, 31, 32] ?_
     refine nx_againB (e' := [(5, _), (33, _)]) (m := _) (H' := _) (by exact ⟨i + 1, rfl, by omega, by rw [sz_ft hx hh1 hh2], rfl⟩)
    refine at_skip <| nx_block_normal <| Zx <| Zg <| Ya (n := 1) Y Y <| Zm Y <| Z0 <| Zn [5, 33, 0, 31, 32] ?_
    refine nx_againB (e' := [(5, _), (33, _)]) (m := _) (H' := _) (by exact ⟨i + 1, rfl, by omega, by rw [sz_ff hx hh1 hh2], rfl⟩)
   refine op_skip Y rfl <| op_skip Y rfl <| op_skip Y rfl <| op_skip Y rfl <| op_skip Y rfl <| Yg (p_pick_f Y Y) <| Zv (p_pick_f Y Y) <| Z0 <| Zn [0, 5, 7, 31, 32, 33, 64] ?_
   refine Zx <| at_else Y <| at_skip <| Zx <| Zq <| Zq <| Zg <| Zh 2 underlying55 rfl rfl sizeOf4 Y <| Zl isAgg4 Y ?_
   refine Z0 <| Zx ?_
   refine at_if_bool Y (fun hh1 => ?_) (fun hh1 => ?_)
   ·
    refine Zg <| Zm Y ?_
    (refine op_v (p_sub Y Y (IntWalk.i64_in _ ?_)) ?_; (focus (omega)))
    refine Za Y <| Z0 <| Zx <| Zq <| Zg <| Zh 6 underlying55 rfl rfl sizeOf4 Y <| Zl isAgg4 Y ?_
    refine Z0 <| Zx ?_
    refine at_if_bool Y (fun hh2 => ?_) (fun hh2 => ?_)
    ·
     refine Zg <| Zm Y <| Yi Y Y <| Za Y <| Z0 <| nx_block_normal <| Zx <| Zg <| Ya (n := 1) Y Y <| Zm Y <| Z0 <| Zn [5, 33, 0, 31, 32] ?_
     refine nx_againB (e' := [(5, _), (33, _)]) (m := _) (H' := _) (by exact ⟨i + 1, rfl, by omega, by rw [sz_tt hx hh1 hh2], rfl⟩)
    refine at_skip <| nx_block_normal <| Zx <| Zg <| Ya (n := 1) Y Y <| Zm Y <| Z0 <| Zn [5, 33, 0, 31, 32] ?_
    refine nx_againB (e' := [(5, _), (33, _)]) (m := _) (H' := _) (by exact ⟨i + 1, rfl, by omega, by rw [sz_tf hx hh1 hh2], rfl⟩)
   refine at_skip <| Zx <| Zq <| Zg <| Zh 6 underlying55 rfl rfl sizeOf4 Y <| Zl isAgg4 Y ?_
   refine Z0 <| Zx ?_
   refine at_if_bool Y (fun hh2 => ?_) (fun hh2 => ?_)
   ·
    refine Zg <| Zm Y <| Yi Y Y <| Za Y <| Z0 <| nx_block_normal <| Zx <| Zg <| Ya (n := 1) Y Y <| Zm Y <| Z0 <| Zn [5, 33, 0, 31, 32] ?_
    refine nx_againB (e' := [(5, _), (33, _)]) (m := _) (H' := _) (by exact ⟨i + 1, rfl, by omega, by rw [sz_ft hx hh1 hh2], rfl⟩)
   refine at_skip <| nx_block_normal <| Zx <| Zg <| Ya (n := 1) Y Y <| Zm Y <| Z0 <| Zn [5, 33, 0, 31, 32] ?_
   refine nx_againB (e' := [(5, _), (33, _)]) (m := _) (H' := _) (by exact ⟨i + 1, rfl, by omega, by rw [sz_ff hx hh1 hh2], rfl⟩)
  exact each_nil
 have ei : i = cs.length := by omega
 subst ei
 rw [List.take_length] at hsl ⊢
 refine at_exit <| Zt <| Zt <| nx_block_exit <| Zx <| Zq <| Zg <| Zm Y <| Zv (p_leq Y Y) <| Za Y <| Z0 <| Zx <| at_ret ?_
 refine nx_end1 rfl results48 Y (by exact ⟨by rw [decide_eq_true hA.size], rfl⟩)

theorem st_apply (sp mb : Nat) (p rp : Int) (es : Array MapEntry) (ck : Nat) (lm : List ((Int × Int) × Value)) (rs : List RowM) (M : List Chunk) (q : Option Addr) (cap : Nat) (cs : List Chg) (hm : MapM K2 es ck lm) (hR : MapR lm rs) (hO : ChgsIn M (.slice q cs.length cap) cs) (hs : SortedR rs) (hn : rs.length ≤ 2000) (hA : AppOk rs p rp cs) :
    Does Tryz.prog 23 #[.pointer (some ⟨sp, 0, none⟩), .agg #[.int .i64 rp, .slice q cs.length cap]] [[(sp, .cells #[.map (some mb), .int .i64 p] 124 (0, 0))], [(mb, .map es ck)], M] (fun r H' => r = .int .i64 0 ∧ ∃ es' ck' lm', MapM K2 es' ck' lm' ∧ MapR lm' (putAllR rs cs) ∧ H' = [[(sp, .cells #[.map (some mb), .int .i64 rp] 124 (0, 0))], [(mb, .map es' ck')], M]) := by
 have hml : maxLen = 9223372036854775807 := rfl
 obtain ⟨p9, cap9, e9, hol, hg⟩ := id hO
 injection e9 with e91 e92 e93
 subst e91 e93
 have hok := hA.ok
 have hpo := hA.pos
 have hcl := hok.len
 have hrp := hok.pos
 have hasc := asc_of hok.ord
 refine spec_enter func23 rfl ntmps23 rfl ?_
 intro u R
 refine Zb [0, 1] ?_
 refine Zq <| Zg <| Ze (w_box Y (cs := #[_, _]) rfl) ?_
 rintro _ _ ⟨b1, rfl, rfl⟩
 refine Za Y <| Z0 <| Zx <| Zq <| at_block <| Zq <| Zg <| Zm Y <| Zv (p_eql_ptr_nil underlying31 Y Y) <| Za Y <| Z0 <| Zx ?_
 refine at_if_bool Y (fun h1 => ?_) (fun h1 => ?_)
 ·
  cases h1
 refine Zq <| Zg <| Zm Y <| Zo Wh (p_load_agg (cs := #[_, _]) isAgg51 sizeOf51 Y Wb (by rfl)) ?_
 refine Xr [_, _] Y call48 Y rfl (st_fits sp mb p rp es ck lm rs M q cap cs hm hR hO hs hn hA) ?_
 refine Zv (p_not Y) <| Za Y <| Z0 <| Zx ?_
 refine at_if_bool Y (fun h2 => ?_) (fun h2 => ?_)
 ·
  cases h2
 refine at_skip <| nx_block_normal <| Zx <| Zq <| Zq <| Zg <| Zh 1 underlying51 rfl rfl sizeOf49 Y <| Zl isAgg49 Y ?_
 refine Zv (p_len_slice underlying49 Y) <| Zm Y <| Z0 <| Zn [0, 3, 19, 20, 21] ?_
 refine Zx <| at_block <| Zb [21, 0, 3, 19, 20] ?_
 refine at_loopB (e0 := [(21, _)]) (H0 := _) (n := _) (fun m e H => ∃ (i : Nat) (es : Array MapEntry) (ck : Nat) (lm : List ((Int × Int) × Value)), m = cs.length - i ∧ (i ≤ cs.length ∧ MapM K2 es ck lm ∧ MapR lm (putAllR rs (cs.take i))) ∧ e = [(21, .int .i64 (i : Int))] ∧ H = [[(mb, .map es ck)]]) (by exact ⟨0, es, ck, lm, rfl, ⟨Nat.zero_le _, hm, by rw [List.take_zero]; exact hR⟩, rfl, rfl⟩) Wp ?_
 rintro _ _ _ ⟨i, es1, ck1, lm1, rfl, ⟨hi, hm1, hR1⟩, rfl, rfl⟩
 refine Zq <| Zg <| Zv (p_lss_nat Y Y) <| Z0 <| Zx <| Zq ?_
 refine at_if Y (fun hlt => ?_) (fun hlt => ?_)
 ·
  obtain ⟨x, hx⟩ : ∃ x, cs[i]? = some x := ⟨_, List.getElem?_eq_getElem hlt⟩
  obtain ⟨g, off, cur, T, zz, rfl, hm9, hsz, hex⟩ := hg i x hx
  have hxo := hok.all i x hx
  have hkd := chg_kd hxo
  obtain ⟨hso, hfi⟩ := fold_inv hs hasc hA.fit i hi
  have hfx := hfi i x (Nat.le_refl _) hx
  refine at_skip <| Zx <| Zq <| at_block <| Zq <| Zg ?_
  (refine op_v (p_indexAddr_nat underlying49 sizeOf55 Y Y ?_) ?_; (focus (first | omega | decide | (simp; done))))
  refine op_rm (cs := [(g, .cells cur T zz)]) (by simp [hm9]) (p_load_agg (cs := #[.int .i64 x.t, .int .i64 x.k, .bool x.had, .int .i64 x.o.a, .int .i64 x.o.b, .int .i64 x.o.c, .bool x.has, .int .i64 x.n.a, .int .i64 x.n.b, .int .i64 x.n.c]) isAgg55 sizeOf55 Y (by omega) hex) rfl rfl ?_
  refine Ze (w_alloc zeroValue55 (cs := #[_, _, _, _, _, _, _, _, _, _]) rfl) ?_
  rintro _ _ ⟨cb, rfl, rfl⟩
  refine Xe (w_store_agg sizeOf55 Y Y (by (simp [Value.oneCell']; done)) Wu (by exact (rfl : _ = (#[.int .i64 x.t, .int .i64 x.k, .bool x.had, .int .i64 x.o.a, .int .i64 x.o.b, .int .i64 x.o.c, .bool x.has, .int .i64 x.n.a, .int .i64 x.n.b, .int .i64 x.n.c] : Array Value))) (by first | rfl | (simp; done)) Wb (by exact free_zero _)) ?_
  refine Z0 <| Zx <| Zq <| Zg <| Zh 0 underlying55 rfl rfl sizeOf3 Y <| Zl isAgg3 Y ?_
  refine Zh 1 underlying55 rfl rfl sizeOf3 Y <| Zl isAgg3 Y ?_
  refine Zv (p_build (vs := [(0, _), (1, _)]) (cs := #[_, _]) Y (run_build_struct (pl := #[(0, 1), (1, 1)]) zeroValue126 underlying126 (fun _ => by kernel_rfl) rfl)) ?_
  refine Ze (w_alloc zeroValue126 (cs := #[_, _]) rfl) ?_
  rintro _ _ ⟨kb, rfl, rfl⟩
  refine Xe (w_store_agg sizeOf126 Y Y (by (simp [Value.oneCell', Value.cells]; done)) Wu (by exact (rfl : _ = (#[.int .i64 x.t, .int .i64 x.k] : Array Value))) (by first | rfl | (simp; done)) Wb (by exact free_zero _)) ?_
  refine Z0 <| Zx <| Zq <| Zg <| Zo Wh (p_load_agg (cs := #[_, _, _, _, _, _, _, _, _, _]) isAgg55 sizeOf55 Y Wb (by rfl)) ?_
  refine Xr [_] Y call49 Y rfl (rw_after x) ?_
  refine Zm Y <| Zd Y rfl <| Zd Y rfl <| Ze (w_alloc zeroValue67 (cs := #[_, _, _, _, _]) rfl) ?_
  rintro _ _ ⟨xb, rfl, rfl⟩
  refine Xe (w_store_agg sizeOf67 Y Y (by (simp [Value.oneCell']; done)) Wu (by exact (rfl : _ = (#[.int .i64 (halfL x x.has x.n).t, .int .i64 (halfL x x.has x.n).k, .int .i64 (halfL x x.has x.n).v.a, .int .i64 (halfL x x.has x.n).v.b, .int .i64 (halfL x x.has x.n).v.c] : Array Value))) (by first | rfl | (simp; done)) Wb (by exact free_zero _)) ?_
  refine Za Y <| Z0 <| Zn [0, 3, 7, 8, 9, 19, 20, 21] ?_
  refine Zx <| Zq <| Zg <| Zm Y <| Z0 <| Zx ?_
  refine at_if_bool Y (fun hh => ?_) (fun hh => ?_)
  ·
   rw [half_t hh]
   refine at_draw (n := 8) (0 :: 1 :: 3 :: 7 :: 15 :: 0 :: 0 :: 127 :: []) 128 (by kernel_rfl) (by kernel_rfl) rfl ?_
   refine Zi 1 0 rfl (p_move Y) <| Zi 3 1 rfl (p_nilChk Y rfl) <| Zi 7 2 rfl (p_fieldAddr0 (off := 0) underlying124 rfl rfl sizeOf122 Y) <| Zi 15 3 rfl (p_fieldAddr1 (off := 0) underlying122 rfl rfl sizeOf120 Y) <| Zj 31 4 rfl isAgg120 Y ?_
   refine lin_r (D' := 63) 5 rfl rfl rfl Wh (p_load_agg (cs := #[_, _]) isAgg126 sizeOf126 Y Wb (by rfl)) ?_
   refine lin_r (D' := 127) 6 rfl rfl rfl Wh (p_load_agg (cs := #[_, _, _, _, _]) isAgg67 sizeOf67 Y Wb (by rfl)) ?_
   refine Yz 7 127 255 [6, 5, 4] [false, false, false] [] rfl Y rfl rfl rfl rfl (w_mapUpdate idKey underlying120 hm1 hR1.keys (hkd) Y Y Y Wo) ?_
   rintro _ _ ⟨rfl, es2, ck2, lm2, hm2, hp2, rfl⟩
   refine ⟨keep_nil, ?_⟩
   have hR2 : MapR lm2 (putAllR rs (cs.take (i + 1))) := by rw [putAllR_next rs cs i x hx]; exact hR1.put hso hfx hh hkd hp2
   refine lin_nil ?_
   refine nx_block_normal <| Zx <| Zg <| Ya (n := 1) Y Y <| Zm Y <| Z0 <| Zn [21, 0, 3, 19, 20] ?_
   refine nx_againB (e' := [(21, _)]) (m := _) (H' := _) (by exact ⟨i + 1, es2, ck2, lm2, rfl, ⟨by omega, hm2, hR2⟩, rfl, rfl⟩)
  refine at_draw (n := 7) (0 :: 1 :: 3 :: 7 :: 15 :: 0 :: 63 :: []) 64 (by kernel_rfl) (by kernel_rfl) rfl ?_
  refine Zi 1 0 rfl (p_move Y) <| Zi 3 1 rfl (p_nilChk Y rfl) <| Zi 7 2 rfl (p_fieldAddr0 (off := 0) underlying124 rfl rfl sizeOf122 Y) <| Zi 15 3 rfl (p_fieldAddr1 (off := 0) underlying122 rfl rfl sizeOf120 Y) <| Zj 31 4 rfl isAgg120 Y ?_
  refine lin_r (D' := 63) 5 rfl rfl rfl Wh (p_load_agg (cs := #[_, _]) isAgg126 sizeOf126 Y Wb (by rfl)) ?_
  refine Yz 6 63 127 [5, 4] [false, false] [] rfl Y rfl rfl rfl rfl (w_delete idKey underlying120 hm1 hR1.keys (hkd) Y Y Wo) ?_
  rintro _ _ ⟨rfl, es2, ck2, lm2, hm2, hp2, rfl⟩
  refine ⟨keep_nil, ?_⟩
  have hR2 : MapR lm2 (putAllR rs (cs.take (i + 1))) := by rw [putAllR_next rs cs i x hx]; exact hR1.drop hso hfx hh hp2
  refine lin_nil ?_
  refine nx_block_normal <| Zx <| Zg <| Ya (n := 1) Y Y <| Zm Y <| Z0 <| Zn [21, 0, 3, 19, 20] ?_
  refine nx_againB (e' := [(21, _)]) (m := _) (H' := _) (by exact ⟨i + 1, es2, ck2, lm2, rfl, ⟨by omega, hm2, hR2⟩, rfl, rfl⟩)
 have ei : i = cs.length := by omega
 subst ei
 rw [List.take_length] at hR1
 refine at_exit <| Zt <| Zt <| nx_block_exit <| Zx <| Zq <| Zg <| Zm Y <| Zh 0 underlying51 rfl rfl sizeOf3 Y <| Zl isAgg3 Y ?_
 refine Zp Y rfl <| Zh 0 underlying124 rfl rfl sizeOf122 Y <| Zv (p_fieldAddr1 (off := 1) underlying122 rfl rfl sizeOf3 Y) <| Xe (Zs sizeOf3 Y Y rfl (hc := by exact (rfl : _ = (#[.map (some mb), .int .i64 rp] : Array Value))) (hi := by first | omega | decide | (simp; done))) ?_
 refine Z0 <| Zx <| Zq <| Zg <| Za Y <| Z0 <| Zx <| at_ret ?_
 refine nx_end1 rfl results23 Y (by exact ⟨rfl, es1, ck1, lm1, hm1, hR1, rfl⟩)

end Go.Proofs.YtkgmgmkbgnkdnaaGreatDoor

namespace Go.Proofs.YtkgmgmkbgnkdnaaGreatDoor
open Go.Proofs.Tryz
open Go Go.RowKit Gw
set_option linter.unusedVariables false
set_option linter.unusedSimpArgs false
set_option maxRecDepth 100000
attribute [local irreducible] Gw.At Gw.Nx Gw.Ops
theorem st_at (q : Option Addr) (cap : Nat) (l : List RecM) (M : List Chunk) (hRI : RecsIn M (.slice q l.length cap) l) (hlog : LogOk l) (hl : l.length ≤ 1000000) (k : Nat) (hk : k ≤ l.length) :
    Does Tryz.prog 7 #[.slice q l.length cap, .int .i64 (k : Int)] [M] (fun r H' => ∃ sp mb es ck lm, r = .tuple #[.pointer (some ⟨sp, 0, none⟩), .int .i64 0] ∧ MapM K2 es ck lm ∧ MapR lm (rowsOf (l.take k)) ∧ H' = [[(sp, .cells #[.map (some mb), .int .i64 (k : Int)] 124 (0, 0))], [(mb, .map es ck)], M]) := by
 have hml : maxLen = 9223372036854775807 := rfl
 obtain ⟨p9, cap9, e9, ⟨hol, hlc⟩, hg⟩ := id hRI
 injection e9 with e91 e92 e93
 subst e91 e93
 refine spec_enter func7 rfl ntmps7 rfl ?_
 intro u R
 refine Zb [0, 1] ?_
 refine Zq <| Zg <| Za Y <| Za Y <| Z0 <| Zx <| Zq <| Zq <| Zg <| Zm Y <| Zv (p_lss_nat (n := 0) Y Y) <| Zm Y ?_
 refine ops_split (t := 11) Y rfl (fun h1 => ?_) (fun h1 => ?_)
 ·
  exfalso; (cases h1; done)
 refine Zf Y Y <| Zf Y Y <| Yg (p_len_slice underlying25 Y) <| Yg (p_gtr_nat Y Y) <| Zv (p_pick_f Y Y) <| Z0 <| Zx ?_
 refine at_if Y (fun h2 => ?_) (fun h2 => ?_)
 ·
  exfalso; omega
 refine at_skip <| Zx <| Zq <| Zg <| Zc [] Y call22 Y rfl (st_new) ?_
 rintro _ _ ⟨_, ⟨sp, mb, rfl, rfl⟩, rfl⟩
 refine Za Y <| Z0 <| Zx <| Zq <| Zq <| Zg <| Zm Y <| Zm Y ?_
 (refine op_v (p_slice_slice_to underlying25 sizeOf51 Y Y ?_) ?_; (focus (first | omega | decide | (simp; done))))
 refine Zv (p_len_slice underlying25 Y) <| Zm Y <| Z0 <| Zn [6, 20, 21, 22] ?_
 refine Zx <| at_block <| Zb [22, 6, 20, 21] ?_
 refine at_loopB (e0 := [(22, _)]) (H0 := _) (n := _) (fun m e H => ∃ (i : Nat) (es : Array MapEntry) (ck : Nat) (lm : List ((Int × Int) × Value)), m = k - i ∧ (i ≤ k ∧ MapM K2 es ck lm ∧ MapR lm (rowsOf (l.take i))) ∧ e = [(22, .int .i64 (i : Int))] ∧ H = [[(sp, .cells #[.map (some mb), .int .i64 (i : Int)] 124 (0, 0))], [(mb, .map es ck)]]) (by exact ⟨0, #[], 0, [], rfl, ⟨Nat.zero_le _, mapM_new _, by rw [List.take_zero]; exact mapR_nil⟩, rfl, rfl⟩) Wp ?_
 rintro _ _ _ ⟨i, es, ck, lm, rfl, ⟨hi, hm, hR⟩, rfl, rfl⟩
 refine Zq <| Zg <| Zv (p_lss_nat Y Y) <| Z0 <| Zx <| Zq ?_
 refine at_if Y (fun hlt => ?_) (fun hlt => ?_)
 ·
  obtain ⟨r, hr⟩ : ∃ r, l[i]? = some r := ⟨_, List.getElem?_eq_getElem (by omega)⟩
  obtain ⟨hOr, g, off, cur, T, zz, rfl, hm9, hsz, hex⟩ := hg i r hr
  obtain ⟨hA, h3⟩ := hlog i r hr
  have hrp := hA.pos
  obtain ⟨hso, hle⟩ := hlog.rows i (by omega)
  refine at_skip <| Zx <| Zq <| at_block <| Zq <| Zg ?_
  (refine op_v (p_indexAddr_nat underlying25 sizeOf51 Y Y ?_) ?_; (focus (first | omega | decide | (simp; done))))
  refine op_rm (cs := [(g, .cells cur T zz)]) (by simp [hm9]) (p_load_agg (cs := #[.int .i64 r.p, .slice r.q r.cs.length r.cap]) isAgg51 sizeOf51 Y (by omega) hex) rfl rfl ?_
  refine Ze (w_alloc zeroValue51 (cs := #[_, _]) rfl) ?_
  rintro _ _ ⟨rb, rfl, rfl⟩
  refine Xe (w_store_agg sizeOf51 Y Y (by (simp [Value.oneCell']; done)) Wu (by exact (rfl : _ = (#[.int .i64 r.p, .slice r.q r.cs.length r.cap] : Array Value))) (by first | rfl | (simp; done)) Wb (by exact free_zero _)) ?_
  refine Z0 <| Zx <| Zq <| Zg <| Zm Y <| Zo Wh (p_load_agg (cs := #[_, _]) isAgg51 sizeOf51 Y Wb (by rfl)) ?_
  refine Zc [_, _] Y call23 Y rfl (st_apply sp mb (i : Int) r.p es ck lm (rowsOf (l.take i)) M r.q r.cap r.cs hm hR hOr hso hle hA) ?_
  rintro _ _ ⟨_, ⟨rfl, es2, ck2, lm2, hm2, hR2, rfl⟩, rfl⟩
  have hR3 : MapR lm2 (rowsOf (l.take (i + 1))) := by rw [List.take_add_one, hr]; show MapR lm2 (rowsOf (l.take i ++ [r])); rw [rowsOf_snoc]; exact hR2
  rw [show r.p = ((i + 1 : Nat) : Int) by rw [hrp]; rfl]
  refine Zv (p_neq_nat (n := 0) Y Y) <| Z0 <| Zx ?_
  refine at_if Y (fun h4 => ?_) (fun h4 => ?_)
  ·
   exfalso; exact h4 rfl
  refine at_skip <| nx_block_normal <| Zx <| Zg <| Ya (n := 1) Y Y <| Zm Y <| Z0 <| Zn [22, 6, 20, 21] ?_
  refine nx_againB (e' := [(22, _)]) (m := _) (H' := _) (by exact ⟨i + 1, es2, ck2, lm2, rfl, ⟨by omega, hm2, hR3⟩, rfl, rfl⟩)
 have ei : i = k := by omega
 subst ei
 refine at_exit <| Zt <| Zt <| nx_block_exit <| Zx <| Zq <| Zg <| Zm Y <| Za Y <| Za Y <| Z0 <| Zx <| at_ret ?_
 refine nx_end2 rfl results7 Y Y (by exact ⟨sp, mb, es, ck, lm, rfl, hm, hR, rfl⟩)

end Go.Proofs.YtkgmgmkbgnkdnaaGreatDoor

namespace Go.Proofs.YtkgmgmkbgnkdnaaGreatDoor
open Go.Proofs.Tryz
open Go Go.RowKit Gw
set_option linter.unusedVariables false
set_option linter.unusedSimpArgs false
set_option maxRecDepth 100000
attribute [local irreducible] Gw.At Gw.Nx Gw.Ops
def valN (r : RowM) (c : Nat) : Int := if c = 0 then r.k else if c = 1 then r.v.a else if c = 2 then r.v.b else r.v.c
end Go.Proofs.YtkgmgmkbgnkdnaaGreatDoor


namespace Go.Proofs.YtkgmgmkbgnkdnaaGreatDoor
open Go.Proofs.Tryz
open Go Go.RowKit Gw
set_option linter.unusedVariables false
set_option linter.unusedSimpArgs false
set_option maxRecDepth 100000
attribute [local irreducible] Gw.At Gw.Nx Gw.Ops
def placeV (c : Nat) (out : List RowM) (v : Int) : Nat := (out.reverse.dropWhile (fun r => decide (v < valN r c))).length
def insV (c : Nat) (out : List RowM) (x : RowM) : List RowM := out.take (placeV c out (valN x c)) ++ [x] ++ out.drop (placeV c out (valN x c))
def inR (t : Int) (c : Nat) (lo hi : Int) (r : RowM) : Bool := decide (r.t = t ∧ lo ≤ valN r c ∧ valN r c ≤ hi)
def rangeL (rs : List RowM) (t : Int) (c : Nat) (lo hi : Int) : List RowM := (rs.filter (inR t c lo hi)).foldl (insV c) []
end Go.Proofs.YtkgmgmkbgnkdnaaGreatDoor


namespace Go.Proofs.YtkgmgmkbgnkdnaaGreatDoor
open Go.Proofs.Tryz
open Go Go.RowKit Gw
set_option linter.unusedVariables false
set_option linter.unusedSimpArgs false
set_option maxRecDepth 100000
attribute [local irreducible] Gw.At Gw.Nx Gw.Ops
open Go.Sort
def valL (r : RowM) (c : Int) : Int := if c = 0 then r.k else if c = 1 then r.v.a else if c = 2 then r.v.b else if c = 3 then r.v.c else 0
set_option maxHeartbeats 1000000 in
theorem value_calls (r : RowM) (c : Int) (hc : 0 ≤ c ∧ c ≤ 3) (W : World) : Calls Tryz.prog 56 #[.agg #[.int .i64 r.t, .int .i64 r.k, .int .i64 r.v.a, .int .i64 r.v.b, .int .i64 r.v.c], .int .i64 c] W fun e w' => e = .returned (.int .i64 (valL r c)) ∧ ∃ (q : Nat) (o : Obj), w' = grow (W.drewN q) #[o] := by
  obtain ⟨t, k, ⟨va, vb, vc⟩⟩ := r
  rcases (by omega : c = 0 ∨ c = 1 ∨ c = 2 ∨ c = 3) with rfl | rfl | rfl | rfl
  all_goals
    go_enter func56, ntmps56
    go_wp2
    go_ret
    exact ⟨rfl, 0, _, by rw [alloc_eq_grow]; rfl⟩
def orL (x y : Int) : Int := if x = 0 then y else x
theorem or_calls (b : Nat) (x y : Int) (W : World) (h0 : W.cell? ⟨b, 0, none⟩ = some (.int .i64 x)) (h1 : W.cell? ⟨b, 1, none⟩ = some (.int .i64 y)) : Calls Tryz.prog 106 #[.slice (some ⟨b, 0, none⟩) 2 2] W fun e w' => e = .returned (.int .i64 (orL x y)) ∧ w' = W := by
  generalize hz : orL x y = z
  have HZ := Lib.hid hz
  clear hz
  go_enter func106, ntmps106
  go_wp2
  go_loop [5, 8] (fun _ i => ∃ (j : Nat), i = .int .i64 j ∧ (j = 0 ∨ (j = 1 ∧ x = 0) ∨ (j = 2 ∧ x = 0 ∧ y = 0))) (fun _ i => 2 - (intOf i).toNat)
  case atStart => exact ⟨0, rfl, .inl rfl⟩
  case round =>
    obtain ⟨j, rfl, hj⟩ := hrel
    rcases hj with rfl | ⟨rfl, hx⟩ | ⟨rfl, hx, hy⟩
    · by_cases hx : x = 0
      · subst hx
        go_wp2
        go_round
        case rel => exact ⟨1, by go_num, by simp⟩
        case measure => simp [intOf]
      · go_wp2
        go_ret
        exact ⟨by rw [← HZ.out]; unfold orL; rw [if_neg hx]; rfl, rfl⟩
    · subst hx
      by_cases hy : y = 0
      · subst hy
        go_wp2
        go_round
        case rel => exact ⟨2, by go_num, by simp⟩
        case measure => simp [intOf]
      · go_wp2
        go_ret
        exact ⟨by rw [← HZ.out]; unfold orL; rw [if_pos rfl]; rfl, rfl⟩
    · subst hx hy
      go_wp2
      go_ret
      exact ⟨by rw [← HZ.out]; rfl, rfl⟩

end Go.Proofs.YtkgmgmkbgnkdnaaGreatDoor


namespace Go.Proofs.YtkgmgmkbgnkdnaaGreatDoor
open Go.Proofs.Tryz
open Go Go.RowKit Gw
set_option linter.unusedVariables false
set_option linter.unusedSimpArgs false
set_option maxRecDepth 100000
attribute [local irreducible] Gw.At Gw.Nx Gw.Ops
open Go.Sort
theorem sat_grow {u w : World} {H : Hp} (h : Sat u H w) (q : Nat) (os : Array Obj) : Sat u H (grow (w.drewN q) os) := by
  refine ⟨h.os, h.tape, h.output, h.nodup, fun p hp => ?_⟩
  have hlt := h.lt hp
  show (w.heap ++ os)[p.1]? = _
  rw [Array.getElem?_append_left hlt]
  exact h.get p hp
theorem valL_N (r : RowM) (c : Nat) (hc : c ≤ 3) : valL r (c : Int) = valN r c := by
  rcases (by omega : c = 0 ∨ c = 1 ∨ c = 2 ∨ c = 3) with rfl | rfl | rfl | rfl <;> rfl
theorem rw_value (r : RowM) (c : Nat) (hc : c ≤ 3) : DoesR Tryz.prog 56 #[.agg #[.int .i64 r.t, .int .i64 r.k, .int .i64 r.v.a, .int .i64 r.v.b, .int .i64 r.v.c], .int .i64 (c : Int)] [] (.int .i64 (valN r c)) := fun u R w hs =>
  (value_calls r (c : Int) (by omega) w).mono (by
    rintro e w' ⟨rfl, q, o, rfl⟩
    exact .inl ⟨_, [], rfl, ⟨by rw [valL_N r c hc], rfl⟩, sat_grow hs q _⟩)

theorem range_in (r : RowM) (t : Int) (c : Nat) (lo hi : Int) (hc : c ≤ 3) (b1 b2 b3 b4 : Nat) : DoesR Tryz.prog 63 #[.agg #[.int .i64 r.t, .int .i64 r.k, .int .i64 r.v.a, .int .i64 r.v.b, .int .i64 r.v.c], .pointer (some ⟨b1, 0, none⟩), .pointer (some ⟨b2, 0, none⟩), .pointer (some ⟨b3, 0, none⟩), .pointer (some ⟨b4, 0, none⟩)] [[(b1, .cells #[.int .i64 (c : Int)] 3 (0, 0))], [(b2, .cells #[.int .i64 t] 3 (0, 0))], [(b3, .cells #[.int .i64 lo] 3 (0, 0))], [(b4, .cells #[.int .i64 hi] 3 (0, 0))]] (.bool (inR t c lo hi r)) := by
 refine spec_enter func63 rfl ntmps63 rfl ?_
 intro u R
 refine Zb [0, 1, 2, 3, 4] ?_
 refine Zq <| Zg <| Ze (w_box Y (cs := #[_, _, _, _, _]) rfl) ?_
 rintro _ _ ⟨b1, rfl, rfl⟩
 refine Za Y <| Z0 <| Zx <| Zq <| Zg <| Zo Wh (p_load_agg (cs := #[_, _, _, _, _]) isAgg67 sizeOf67 Y (by exact Nat.le_refl _) (by rfl)) ?_
 refine Zl isAgg3 Y ?_
 refine Xr [_, _] Y call56 Y rfl (rw_value r c hc) ?_
 refine Za Y <| Z0 <| Zx <| Zq <| Zg <| Zh 0 underlying67 rfl rfl sizeOf3 Y <| Zl isAgg3 Y ?_
 refine Zl isAgg3 Y ?_
 refine Zv (p_eql Y Y) <| Zm Y ?_
 refine ops_split (t := 15) Y rfl (fun h1 => ?_) (fun h1 => ?_)
 ·
  refine Zf Y Y <| Yl isAgg3 Y ?_
  refine Yg (p_geq Y Y) <| Zv (p_pick_t Y Y) <| Zm Y ?_
  refine ops_split (t := 20) Y rfl (fun h2 => ?_) (fun h2 => ?_)
  ·
   refine Zf Y Y <| Yl isAgg3 Y ?_
   refine Yg (p_leq Y Y) <| Zv (p_pick_t Y Y) <| Za Y <| Z0 <| Zn [6] ?_
   refine Zx <| at_ret ?_
   refine nx_end1 rfl results63 Y (by exact ⟨by unfold inR; (simp_all; done), rfl⟩)
  refine op_skip Y rfl <| op_skip Y rfl <| op_skip Y rfl <| Zv (p_pick_f Y Y) <| Za Y <| Z0 <| Zn [6] ?_
  refine Zx <| at_ret ?_
  refine nx_end1 rfl results63 Y (by exact ⟨by unfold inR; (congr 1; simp; omega), rfl⟩)
 refine op_skip Y rfl <| op_skip Y rfl <| op_skip Y rfl <| Zv (p_pick_f Y Y) <| Zm Y <| op_skip Y rfl <| op_skip Y rfl <| op_skip Y rfl <| Zv (p_pick_f Y Y) <| Za Y <| Z0 <| Zn [6] ?_
 refine Zx <| at_ret ?_
 refine nx_end1 rfl results63 Y (by exact ⟨by unfold inR; (simp_all; done), rfl⟩)

end Go.Proofs.YtkgmgmkbgnkdnaaGreatDoor

namespace Go.Proofs.YtkgmgmkbgnkdnaaGreatDoor
open Go.Proofs.Tryz
open Go Go.RowKit Gw
set_option linter.unusedVariables false
set_option linter.unusedSimpArgs false
set_option maxRecDepth 100000
attribute [local irreducible] Gw.At Gw.Nx Gw.Ops
theorem nodup_lt : ∀ (n : Nat) (js : List Nat), js.Nodup → (∀ j ∈ js, j < n) → js.length ≤ n
  | 0, js, _, h => by
    cases js with
    | nil => simp
    | cons a l => exact absurd (h a (by simp)) (Nat.not_lt_zero _)
  | n + 1, js, hn, h => by
    by_cases hm : n ∈ js
    · have h1 := nodup_lt n (js.erase n) (hn.erase n) (fun j hj => by
        have h2 := (hn.mem_erase_iff).1 hj
        have h3 := h j h2.2
        have h4 := h2.1
        omega)
      rw [List.length_erase_of_mem hm] at h1
      omega
    · have h1 := nodup_lt n js hn (fun j hj => by
        have h3 := h j hj
        have h4 : j ≠ n := fun e => hm (e ▸ hj)
        omega)
      omega
def pairR (r : RowM) : (Int × Int) × Value := ((r.t, r.k), rowV r)
theorem pairR_inj {a b : RowM} (h : pairR a = pairR b) : a = b := rowV_inj (Prod.mk.inj h).2
theorem perm_pairs {a b : List RowM} (ha : (a.map pairR).Nodup) (h : (a.map pairR).Perm (b.map pairR)) : a.Perm b := by
  have nd : ∀ {l : List RowM}, (l.map pairR).Nodup → l.Nodup := fun {l} hl => by
    rw [List.nodup_iff_pairwise_ne, List.pairwise_map] at hl
    rw [List.nodup_iff_pairwise_ne]
    exact hl.imp (fun hne e => hne (by rw [e]))
  rw [List.perm_ext_iff_of_nodup (nd ha) (nd (h.nodup ha))]
  intro x
  have h1 := h.mem_iff (a := pairR x)
  rw [List.mem_map, List.mem_map] at h1
  constructor
  · intro hx
    obtain ⟨y, hy, e⟩ := h1.1 ⟨x, hx, rfl⟩
    rwa [pairR_inj e] at hy
  · intro hx
    obtain ⟨y, hy, e⟩ := h1.2 ⟨x, hx, rfl⟩
    rwa [pairR_inj e] at hy
theorem MapR.perm {es : Array MapEntry} {ck : Nat} {l : List ((Int × Int) × Value)} {rs : List RowM} (hm : MapM K2 es ck l) (h : MapR l rs) (hs : SortedR rs) : l.Perm (rs.map pairR) := by
  have h1 : l.Nodup := by
    have := hm.keys
    rw [List.nodup_iff_pairwise_ne, List.pairwise_map] at this
    rw [List.nodup_iff_pairwise_ne]
    exact this.imp (fun hne e => hne (by rw [e]))
  have h2 : (rs.map pairR).Nodup := by
    rw [List.nodup_iff_pairwise_ne, List.pairwise_map]
    refine hs.imp (fun {a b} hab e => ?_)
    have e2 := pairR_inj e
    subst e2
    unfold RowM.lt2 at hab
    omega
  rw [List.perm_ext_iff_of_nodup h1 h2]
  intro p
  rw [h.mem p, List.mem_map]
  constructor
  · rintro ⟨r, hr, rfl⟩; exact ⟨r, hr, rfl⟩
  · rintro ⟨r, hr, rfl⟩; exact ⟨r, hr, rfl⟩
structure Seen (lm : List ((Int × Int) × Value)) (f : RowM → Bool) (js : List Nat) (o : List RowM) : Prop where
  rows : ∃ rl : List RowM, rl.map pairR = pairsAt lm js ∧ o = rl.filter f
theorem seen_new (lm : List ((Int × Int) × Value)) (f : RowM → Bool) : Seen lm f [] [] := ⟨[], rfl, rfl⟩
theorem Seen.push {lm : List ((Int × Int) × Value)} {rs : List RowM} {f : RowM → Bool} {js : List Nat} {o : List RowM} (h : Seen lm f js o) {j : Nat} {r : RowM} (hj : lm[j]? = some (pairR r)) : Seen lm f (js ++ [j]) (o ++ (if f r then [r] else [])) := by
  obtain ⟨rl, h1, h2⟩ := h.rows
  refine ⟨rl ++ [r], by rw [List.map_append, h1, pairsAt_snoc lm js hj]; rfl, ?_⟩
  rw [List.filter_append, ← h2]
  cases hf : f r <;> simp [hf]
theorem Seen.done {es : Array MapEntry} {ck : Nat} {lm : List ((Int × Int) × Value)} {rs : List RowM} (hm : MapM K2 es ck lm) (hR : MapR lm rs) (hs : SortedR rs) {f : RowM → Bool} {js : List Nat} {o : List RowM} (h : Seen lm f js o) (hp : (pairsAt lm js).Perm lm) : o.Perm (rs.filter f) := by
  obtain ⟨rl, h1, rfl⟩ := h.rows
  have h2 := hR.perm hm hs
  have h3 : (rl.map pairR).Perm (rs.map pairR) := by rw [h1]; exact hp.trans h2
  have h4 : (rs.map pairR).Nodup := by
    rw [List.nodup_iff_pairwise_ne, List.pairwise_map]
    refine hs.imp (fun {a b} hab e => ?_)
    have e2 := pairR_inj e
    subst e2
    unfold RowM.lt2 at hab
    omega
  exact (perm_pairs (h3.symm.nodup h4) h3).filter f

end Go.Proofs.YtkgmgmkbgnkdnaaGreatDoor

namespace Go.Proofs.YtkgmgmkbgnkdnaaGreatDoor
open Go.Proofs.Tryz
open Go Go.RowKit Gw
set_option linter.unusedVariables false
set_option linter.unusedSimpArgs false
set_option maxRecDepth 100000
attribute [local irreducible] Gw.At Gw.Nx Gw.Ops
def leV (c : Nat) (a b : RowM) : Prop := valN a c < valN b c ∨ valN a c = valN b c ∧ a.k ≤ b.k
def SortOk : Prop := ∀ (cb c : Nat) (w : Value) (o : List RowM) (s : List Chunk), c ≤ 3 → o.length ≤ 2000 → RowS 5 67 w o.length (rowCells o) s →
    Does Tryz.prog 104 #[w, .func (.func 105) #[] #[.pointer (some ⟨cb, 0, none⟩)]] [s, [(cb, .cells #[.int .i64 (c : Int)] 3 (0, 0))]]
      (fun r H' => r = .tuple #[] ∧ ∃ (s' : List Chunk) (o' : List RowM), o'.Perm o ∧ o'.Pairwise (leV c) ∧ RowS 5 67 w o'.length (rowCells o') s' ∧ H' = [s', [(cb, .cells #[.int .i64 (c : Int)] 3 (0, 0))]])

theorem chosen_range (hS : SortOk) (sp mb : Nat) (p : Int) (es : Array MapEntry) (ck : Nat) (lm : List ((Int × Int) × Value)) (rs : List RowM) (hm : MapM K2 es ck lm) (hR : MapR lm rs) (hs : SortedR rs) (hn : rs.length ≤ 2000) (t : Int) (c : Nat) (lo hi : Int) (hc : c ≤ 3) (b1 b2 b3 b4 : Nat) :
    Does Tryz.prog 62 #[.pointer (some ⟨sp, 0, none⟩), .int .i64 (c : Int), .func (.func 63) #[] #[.pointer (some ⟨b1, 0, none⟩), .pointer (some ⟨b2, 0, none⟩), .pointer (some ⟨b3, 0, none⟩), .pointer (some ⟨b4, 0, none⟩)]] [[(sp, .cells #[.map (some mb), .int .i64 p] 124 (0, 0))], [(mb, .map es ck)], [(b1, .cells #[.int .i64 (c : Int)] 3 (0, 0))], [(b2, .cells #[.int .i64 t] 3 (0, 0))], [(b3, .cells #[.int .i64 lo] 3 (0, 0))], [(b4, .cells #[.int .i64 hi] 3 (0, 0))]] (fun r H' => ∃ (so : List Chunk) (o : List RowM), RowS 5 67 r o.length (rowCells o) so ∧ o.Perm (rs.filter (inR t c lo hi)) ∧ o.Pairwise (leV c) ∧ H' = [so, [(sp, .cells #[.map (some mb), .int .i64 p] 124 (0, 0))], [(mb, .map es ck)], [(b1, .cells #[.int .i64 (c : Int)] 3 (0, 0))], [(b2, .cells #[.int .i64 t] 3 (0, 0))], [(b3, .cells #[.int .i64 lo] 3 (0, 0))], [(b4, .cells #[.int .i64 hi] 3 (0, 0))]]) := by
 have hml : maxLen = 9223372036854775807 := rfl
 have hln := hR.len hm hs
 refine spec_enter func62 rfl ntmps62 rfl ?_
 intro u R
 refine Zb [0, 1, 2] ?_
 refine Zq <| Zg <| Ze (w_box Y (cs := #[_]) rfl) ?_
 rintro _ _ ⟨cb, rfl, rfl⟩
 refine Za Y <| Z0 <| Zx <| Zq <| Zq <| Zg <| Zm Y <| Zv (p_eql_ptr_nil underlying31 Y Y) <| Z0 <| Zx ?_
 refine at_if_bool Y (fun h1 => ?_) (fun h1 => ?_)
 ·
  cases h1
 refine at_skip <| Zx <| Zq <| Zg <| Za Y <| Z0 <| Zx <| Zq <| Zq <| Zg <| Zm Y <| Zp Y rfl <| Zh 0 underlying124 rfl rfl sizeOf122 Y <| Zv (p_fieldAddr1 (off := 0) underlying122 rfl rfl sizeOf120 Y) <| Zl isAgg120 Y ?_
 refine Ze (w_rangeMap underlying120 Y Wh) ?_
 rintro _ _ ⟨ib, rfl, rfl⟩
 refine Z0 <| Zx <| at_block <| at_nil ?_
 refine Zb [7, 2, 4, 17] ?_
 refine at_loopB (e0 := [(7, _)]) (H0 := _) (n := _) (fun m e H => ∃ (js : List Nat) (seen : Array Nat) (o : List RowM) (w : Value) (so : List Chunk), m = lm.length - js.length ∧ (IterM es js seen ∧ Seen lm (inR t c lo hi) js o ∧ RowS 5 67 w o.length (rowCells o) so ∧ o.length ≤ js.length) ∧ e = [(7, w)] ∧ H = [[(ib, .mapIter (some mb) ck seen ck)], so]) (by exact ⟨[], #[], [], .slice none 0 0, [], rfl, ⟨iterM_new _, seen_new _ _, rowS_nil 5 _, Nat.le_refl _⟩, rfl, rfl⟩) Wp ?_
 rintro _ _ _ ⟨js, seen, o, w, so, rfl, ⟨hit, hse, hro, hoj⟩, rfl, rfl⟩
 obtain ⟨qo, capo, rfl⟩ := hro.form
 have hjl := nodup_lt es.size js hit.nodup hit.lt
 rw [hm.size] at hjl
 refine Zq <| Zg <| Ze (w_nextMap hm hit Y Wo Wh) ?_
 rintro _ _ hnx
 rcases hnx with ⟨hdone, rfl, rfl⟩ | ⟨jn, pn, seen2, hpn, hjn, hi2, rfl, rfl⟩
 ·
  refine Zd Y rfl <| Z0 <| Zx <| Zq ?_
  refine at_if_bool Y (fun hb => ?_) (fun hb => ?_)
  ·
   cases hb
  refine at_exit <| Zt <| Zt <| nx_block_exit <| Zx <| Zq <| Zg <| Zm Y <| Zv (p_makeFunc (vs := []) (us := [_]) Y Y) ?_
  refine Zc [_, _] Y call104 Y rfl (hS cb c _ o so hc (by omega) hro) ?_
  rintro _ _ ⟨_, ⟨rfl, so2, o2, hpm, hpw, hro2, rfl⟩, rfl⟩
  refine Z0 <| Zx <| Zq <| Zg <| Zm Y <| Za Y <| Z0 <| Zx <| at_ret ?_
  refine nx_end1 rfl results62 Y (by exact ⟨so2, o2, hro2, hpm.trans (hse.done hm hR hs hdone), hpw, rfl⟩)
 obtain ⟨r, hr, rfl⟩ := (hR.mem pn).1 (List.mem_of_getElem? hpn)
 refine Zd Y rfl <| Z0 <| Zx <| Zq ?_
 refine at_if_bool Y (fun hb => ?_) (fun hb => ?_)
 ·
  have hjl2 := nodup_lt es.size (js ++ [jn]) hi2.nodup hi2.lt
  rw [hm.size, List.length_append, List.length_singleton] at hjl2
  have hla : (js ++ [jn]).length = js.length + 1 := by rw [List.length_append]; rfl
  have hse2 := hse.push (r := r) (rs := rs) hpn
  have hse2t : (inR t c lo hi) r = true → Seen lm (inR t c lo hi) (js ++ [jn]) (o ++ [r]) := fun h => by rw [h] at hse2; exact hse2
  have hse2f : (inR t c lo hi) r = false → Seen lm (inR t c lo hi) (js ++ [jn]) o := fun h => by rw [h] at hse2; simpa using hse2
  refine at_skip <| Zx <| at_block <| Zq <| Zg <| op_rm (cs := [(ib, .mapIter (some mb) ck seen2 ck), (mb, .map es ck)]) (by simp) (p_entryMap hm hi2 hpn Y) rfl rfl ?_
  refine Zd Y rfl <| Ze (w_alloc zeroValue67 (cs := #[_, _, _, _, _]) rfl) ?_
  rintro _ _ ⟨xb, rfl, rfl⟩
  refine Xe (w_store_agg sizeOf67 Y Y (by (simp [Value.oneCell']; done)) Wu (by exact (rfl : _ = (#[.int .i64 r.t, .int .i64 r.k, .int .i64 r.v.a, .int .i64 r.v.b, .int .i64 r.v.c] : Array Value))) (by first | rfl | (simp; done)) (by exact Nat.le_refl _) (by exact free_zero _)) ?_
  refine Z0 <| Zx <| Zq <| Zg <| Zm Y <| Zo Wh (p_load_agg (cs := #[_, _, _, _, _]) isAgg67 sizeOf67 Y (by exact Nat.le_refl _) (by rfl)) ?_
  refine Xr [_] Y call63 Y rfl (range_in r t c lo hi hc b1 b2 b3 b4) ?_
  refine Z0 <| Zx ?_
  refine at_if_bool Y (fun hin => ?_) (fun hin => ?_)
  ·
   refine Zg <| Zm Y <| Zo Wh (p_load_agg (cs := #[_, _, _, _, _]) isAgg67 sizeOf67 Y (by exact Nat.le_refl _) (by rfl)) ?_
   refine Ze (w_buildSlice (vs := [_]) (cs := [_, _, _, _, _]) underlying38 sizeOf67 zeroValue67 Y rfl rfl rfl rfl rfl) ?_
   rintro _ _ ⟨gb, rfl, rfl⟩
   refine Ze (w_append_subS (by_ := 40) (sz := 5) underlying38 (rfl : Tryz.prog.info? 67 = some Tryz.t67) rfl rfl rfl rfl Y (hro) Y (subS_new 5 gb 1 1 67 (0, 0) [.int .i64 r.t, .int .i64 r.k, .int .i64 r.v.a, .int .i64 r.v.b, .int .i64 r.v.c] rfl) Wo Wo (by simp [Value.oneCell']) (by omega) (by omega)) ?_
   rintro _ _ ⟨sa9, hra9, rfl⟩
   have hnew := rowS_eq hra9 (n' := (o ++ [r]).length) (xs' := rowCells (o ++ [r])) (by rw [List.length_append]; rfl) (by rw [rowCells_app]; rfl)
   obtain ⟨ga9, ca9, rfl⟩ := hra9.form
   refine Za Y <| Z0 <| Zn [2, 4, 7, 17] ?_
   refine nx_block_normal <| Zn [7, 2, 4, 17] ?_
   refine nx_againB (e' := [(7, _)]) (m := _) (H' := _) (by exact ⟨js ++ [jn], seen2, o ++ [r], _, _, rfl, ⟨hi2, hse2t hin, hnew, by rw [List.length_append, List.length_append]; simp; omega⟩, rfl, rfl⟩)
  refine at_skip <| nx_block_normal <| Zn [7, 2, 4, 17] ?_
  refine nx_againB (e' := [(7, _)]) (m := _) (H' := _) (by exact ⟨js ++ [jn], seen2, o, _, so, rfl, ⟨hi2, hse2f hin, hro, by rw [List.length_append]; omega⟩, rfl, rfl⟩)
 cases hb

end Go.Proofs.YtkgmgmkbgnkdnaaGreatDoor
