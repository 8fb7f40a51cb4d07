/- Contracts: journal.check, load. -/
import Derived.Test.YtddblcjcodejaaaDoorJn2
namespace Go.Proofs.YtddblcjcodejaaaDoor
open Go Go.RowKit Gw
set_option linter.unusedVariables false
set_option maxRecDepth 100000
attribute [local irreducible] Gw.At Gw.Nx Gw.Ops
/-- The records of a content, from sz on: none: it is damaged. -/
def loadL (s : List UInt8) : Nat → List (List UInt8) → List UInt8 → Nat → Option (List (List UInt8) × List UInt8 × Nat)
  | 0, rs, h, sz => some (rs, h, sz)
  | f + 1, rs, h, sz => match s[sz]? with
    | none => some (rs, h, sz)
    | some b => if b.toNat = 0 then some (rs, h, sz) else if b.toNat = 1 then match decS s (sz + 1) with
        | none => none
        | some (r, k) => if k + 32 ≤ s.length ∧ recS h r = (s.drop sz).take (k + 32 - sz) then loadL s f (rs ++ [r]) (chainS h r) (sz + (recS h r).length) else none
      else none
theorem strR_cases (s : List UInt8) (a : Nat) : ∃ (r : List UInt8) (k : Nat) (e : Int), strR (decS s a) = .tuple #[.string (str r), .int .i64 (k : Int), .int .i64 e] ∧ ((e = 0 ∧ decS s a = some (r, k)) ∨ (e ≠ 0 ∧ decS s a = none ∧ k = 0)) := by
  cases h : decS s a with
  | none => exact ⟨[], 0, 10, rfl, .inr ⟨by decide, rfl, rfl⟩⟩
  | some p => exact ⟨p.1, p.2, 0, rfl, .inl ⟨rfl, rfl⟩⟩
theorem decS_at {s : List UInt8} {a : Nat} {r : List UInt8} {k : Nat} (h : decS s a = some (r, k)) : a < k ∧ k ≤ s.length ∧ r.length ≤ 65536 := by
  unfold decS at h
  cases hd : decI s a with
  | none => rw [hd] at h; cases h
  | some p =>
    obtain ⟨n, j⟩ := p
    rw [hd] at h
    have hat := decI_at hd
    simp only at h
    split at h
    · cases h
    · injection h with h
      injection h with h1 h2
      subst h1 h2
      refine ⟨by omega, by omega, ?_⟩
      rw [List.length_take]
      exact Nat.le_trans (Nat.min_le_left _ _) (by omega)
theorem extract_dec (s x : List UInt8) (a b : Nat) (h : a ≤ b) : (str x = (str s).extract a b) ↔ x = (s.drop a).take (b - a) := by
  have e : (str s).extract a b = str ((s.drop a).take (b - a)) := by
    have := extract_str s a (b - a)
    rw [show a + (b - a) = b by omega] at this; exact this
  rw [e]
  constructor
  · intro h
    have := congrArg (fun t : ByteArray => t.data.toList) h
    simpa [str] using this
  · intro h; rw [h]
theorem load_end {s : List UInt8} {f : Nat} {rs : List (List UInt8)} {h : List UInt8} {sz : Nat} {res : Option (List (List UInt8) × List UInt8 × Nat)} (hi : loadL s f rs h sz = res) (hx : s.length ≤ sz ∨ (byteAt (str s) sz).toNat = 0) : res = some (rs, h, sz) := by
  subst hi
  cases f with
  | zero => rfl
  | succ f =>
    rw [loadL]
    rcases Nat.lt_or_ge sz s.length with h1 | h1
    · rw [byte_get s sz h1]
      simp only
      rw [if_pos (by omega)]
    · rw [List.getElem?_eq_none h1]
theorem load_step {s : List UInt8} {f : Nat} {rs : List (List UInt8)} {h : List UInt8} {sz : Nat} {res : Option (List (List UInt8) × List UInt8 × Nat)} (hi : loadL s f rs h sz = res) (hf : s.length - sz < f) (hlt : sz < s.length) (h0 : ¬ (byteAt (str s) sz).toNat = 0) :
    (if (byteAt (str s) sz).toNat = 1 then match decS s (sz + 1) with
        | none => none
        | some (r, k) => if k + 32 ≤ s.length ∧ recS h r = (s.drop sz).take (k + 32 - sz) then loadL s (f - 1) (rs ++ [r]) (chainS h r) (sz + (recS h r).length) else none
      else none) = res := by
  subst hi
  cases f with
  | zero => omega
  | succ f =>
    rw [loadL, byte_get s sz hlt]
    simp only
    rw [if_neg h0]
    rfl
theorem load_bad1 {s : List UInt8} {f : Nat} {rs : List (List UInt8)} {h : List UInt8} {sz : Nat} {res : Option (List (List UInt8) × List UInt8 × Nat)} (hi : loadL s f rs h sz = res) (hf : s.length - sz < f) (hlt : sz < s.length) (h0 : ¬ (byteAt (str s) sz).toNat = 0) (h1 : ¬ (byteAt (str s) sz).toNat = 1) : res = none := by
  have := load_step hi hf hlt h0
  rw [if_neg h1] at this; exact this.symm
theorem load_bad2 {s : List UInt8} {f : Nat} {rs : List (List UInt8)} {h : List UInt8} {sz : Nat} {res : Option (List (List UInt8) × List UInt8 × Nat)} (hi : loadL s f rs h sz = res) (hf : s.length - sz < f) (hlt : sz < s.length) (h0 : ¬ (byteAt (str s) sz).toNat = 0) (h1 : (byteAt (str s) sz).toNat = 1) (hd : decS s (sz + 1) = none) : res = none := by
  have := load_step hi hf hlt h0
  rw [if_pos h1, hd] at this; exact this.symm
theorem load_bad3 {s : List UInt8} {f : Nat} {rs : List (List UInt8)} {h : List UInt8} {sz : Nat} {res : Option (List (List UInt8) × List UInt8 × Nat)} (hi : loadL s f rs h sz = res) (hf : s.length - sz < f) (hlt : sz < s.length) (h0 : ¬ (byteAt (str s) sz).toNat = 0) (h1 : (byteAt (str s) sz).toNat = 1) {r : List UInt8} {k : Nat} (hd : decS s (sz + 1) = some (r, k))
    (hb : ¬ (k + 32 ≤ s.length ∧ recS h r = (s.drop sz).take (k + 32 - sz))) : res = none := by
  have := load_step hi hf hlt h0
  rw [if_pos h1, hd] at this
  simp only at this
  rw [if_neg hb] at this; exact this.symm
theorem load_next {s : List UInt8} {f : Nat} {rs : List (List UInt8)} {h : List UInt8} {sz : Nat} {res : Option (List (List UInt8) × List UInt8 × Nat)} (hi : loadL s f rs h sz = res) (hf : s.length - sz < f) (hlt : sz < s.length) (h0 : ¬ (byteAt (str s) sz).toNat = 0) (h1 : (byteAt (str s) sz).toNat = 1) {r : List UInt8} {k : Nat} (hd : decS s (sz + 1) = some (r, k))
    (hb : k + 32 ≤ s.length ∧ recS h r = (s.drop sz).take (k + 32 - sz)) : loadL s (f - 1) (rs ++ [r]) (chainS h r) (sz + (recS h r).length) = res := by
  have := load_step hi hf hlt h0
  rw [if_pos h1, hd] at this
  simp only at this
  rw [if_pos hb] at this; exact this

theorem check_spec (b : Bool) (Te : TypeId) (ve : Value) (Tx : TypeId) (zx : Nat × Nat) : DoesE Tryd.prog 57 #[.bool b] [[(0, .cells #[.iface Te ve] Tx zx)]] (fun r H' => b = true ∧ r = .tuple #[] ∧ H' = [[(0, .cells #[.iface Te ve] Tx zx)]]) (fun ch H' => b = false ∧ ch = [{ v := .iface Te ve, recovered := false }] ∧ H' = [[(0, .cells #[.iface Te ve] Tx zx)]]) := by
  refine spec_enter Tryd.func57 rfl Tryd.ntmps57 rfl ?_
  intro u R
  refine at_slots (env' := [(0, _)]) [0] rfl (fun _ => rfl) ?_
  refine at_seq ?_
  refine at_region ?_
  refine op_w (p_move (fun _ => rfl)) rfl rfl ?_
  first | refine op_w (p_not_dec (fun _ => rfl)) rfl rfl ?_ | refine op_w (p_not (fun _ => rfl)) rfl rfl ?_
  refine ops_nil ?_
  refine nx_slots (env' := [(3, _)]) [3] rfl (fun _ => rfl) ?_
  refine nx_next ?_
  refine at_if_bool (fun _ => rfl) (fun hb => ?_) (fun hb => ?_)
  ·
    refine at_region ?_
    refine op_r (by repeat (first | exact Has.here _ | apply Has.there)) (p_load Tryd.isAgg69 (fun _ => rfl) (by rfl)) rfl rfl ?_
    refine ops_eff (fun _ => rfl) (fits_of rfl) rfl (w_panic (fun _ => rfl)) ?_ ?hpan_1
    case hpan_1 =>
      rintro _ _ ⟨rfl, rfl⟩ env
      refine nx_panic (H' := _) (by exact ⟨by simpa using hb, rfl, rfl⟩) ?hp_2
      case hp_2 => repeat (first | exact Sub.refl _ | exact Sub.nil _ | refine Sub.cons (by repeat (first | exact One.here _ _ | apply One.there)) ?_ | refine Sub.drop _ ?_)
    exact fun _ _ h => h.elim
  ·
    refine at_skip ?_
    refine nx_end0 (H' := _) rfl Tryd.results57 (by exact ⟨by simpa using hb, rfl, rfl⟩) ?hp_3
    case hp_3 => repeat (first | exact Sub.refl _ | exact Sub.nil _ | refine Sub.cons (by repeat (first | exact One.here _ _ | apply One.there)) ?_ | refine Sub.drop _ ?_)

theorem load_spec (tp sz0 : Nat) (v0 dv : Value) (br : Bool) (rs0 : List (List UInt8)) (sr0 : List Chunk) (h00 s : List UInt8) (Tt Tg Te Tx : TypeId) (ve : Value) (zg zx : Nat × Nat) (hrow0 : Row 9 v0 (rs0.map strV) sr0) (hh0 : h00.length = 32) (hs : s.length ≤ 4194304) (hz0 : sz0 ≤ s.length) (hn0 : rs0.length ≤ sz0) :
    DoesE Tryd.prog 40 #[.pointer (some ⟨tp, 0, none⟩), .string (str s)] [[(tp, .cells #[v0, .string (str h00), .int .i64 (sz0 : Int), dv, .bool br] Tt (0, 0))], sr0, [(4, .cells (kTab.map u32v).toArray Tg zg)], [(0, .cells #[.iface Te ve] Tx zx)]]
      (fun r H' => ∃ rs h sz v sr, loadL s (s.length + 1) rs0 h00 sz0 = some (rs, h, sz) ∧ h.length = 32 ∧ sz ≤ s.length ∧ rs.length ≤ sz ∧ Row 9 v (rs.map strV) sr ∧ r = .tuple #[] ∧ H' = [[(tp, .cells #[v, .string (str h), .int .i64 (sz : Int), dv, .bool br] Tt (0, 0))], sr, [(4, .cells (kTab.map u32v).toArray Tg zg)], [(0, .cells #[.iface Te ve] Tx zx)]])
      (fun ch H' => loadL s (s.length + 1) rs0 h00 sz0 = none ∧ ch = [{ v := .iface Te ve, recovered := false }] ∧ H' = [[(4, .cells (kTab.map u32v).toArray Tg zg)], [(0, .cells #[.iface Te ve] Tx zx)]]) := by
  have hss := str_size s
  obtain ⟨res, hres⟩ : ∃ res, res = loadL s (s.length + 1) rs0 h00 sz0 := ⟨_, rfl⟩
  rw [← hres]
  refine spec_enter Tryd.func40 rfl Tryd.ntmps40 rfl ?_
  intro u R
  refine at_slots (env' := [(0, _), (1, _)]) [0, 1] rfl (fun _ => rfl) ?_
  refine at_block ?_
  refine at_slots (env' := [(0, _), (1, _)]) [0, 1] rfl (fun _ => rfl) ?_
  refine at_loopB (e0 := []) (H0 := _) (n := _) (fun m e H => ∃ (f : Nat) (rs : List (List UInt8)) (h : List UInt8) (sz : Nat) (v : Value) (sr : List Chunk), m = 0 + f ∧ (s.length - sz < f ∧ sz ≤ s.length ∧ h.length = 32 ∧ rs.length ≤ sz ∧ Row 9 v (rs.map strV) sr ∧ loadL s f rs h sz = res) ∧ e = [] ∧ H = [[(tp, .cells #[v, .string (str h), .int .i64 (sz : Int), dv, .bool br] Tt (0, 0))], sr]) (by exact ⟨s.length + 1, rs0, h00, sz0, v0, sr0, rfl, ⟨by omega, hz0, hh0, hn0, hrow0, hres.symm⟩, rfl, rfl⟩) (by repeat (first | exact Pull.nil _ | (apply Pull.cons; (focus (repeat (first | exact One.here _ _ | apply One.there)))))) ?_
  rintro _ _ _ ⟨f, rs, h, sz, v, sr, rfl, ⟨hf, hz, hh, hn, hrow, hinv⟩, rfl, rfl⟩
  refine at_seq ?_
  refine at_seq ?_
  refine at_region ?_
  refine op_w (p_move (fun _ => rfl)) rfl rfl ?_
  first | refine op_w (p_nilCheck (fun _ => rfl)) rfl rfl ?_ | refine op_w (p_nilCheck_iface (fun _ => rfl)) rfl rfl ?_
  first | refine op_w (p_fieldAddr0 (off := 2) Tryd.underlying56 rfl rfl Tryd.sizeOf3 (fun _ => rfl)) rfl rfl ?_ | refine op_w (p_fieldAddr1 (off := 2) Tryd.underlying56 rfl rfl Tryd.sizeOf3 (fun _ => rfl)) rfl rfl ?_
  refine op_r (by repeat (first | exact Has.here _ | apply Has.there)) (p_load Tryd.isAgg3 (fun _ => rfl) (by rfl)) rfl rfl ?_
  refine op_w (p_move (fun _ => rfl)) rfl rfl ?_
  refine op_w (p_len_str Tryd.underlying9 (fun _ => rfl)) rfl rfl ?_
  first | refine op_w (p_lss_nat (fun _ => rfl) (fun _ => rfl)) rfl rfl ?_ | refine op_w (p_lss (fun _ => rfl) (fun _ => rfl)) rfl rfl ?_
  refine op_w (p_move (fun _ => rfl)) rfl rfl ?_
  first | refine ops_split (t := 15) (fun _ => rfl) rfl (fun hlt => ?_) (fun hlt => ?_) | refine ops_split_bool (t := 15) (fun _ => rfl) rfl (fun hlt => ?_) (fun hlt => ?_)
  ·
    refine op_wg (fun _ => rfl) (p_move (fun _ => rfl)) rfl rfl ?_
    refine op_wg (fun _ => rfl) (p_move (fun _ => rfl)) rfl rfl ?_
    first | refine op_wg (fun _ => rfl) (p_nilCheck (fun _ => rfl)) rfl rfl ?_ | refine op_wg (fun _ => rfl) (p_nilCheck_iface (fun _ => rfl)) rfl rfl ?_
    first | refine op_wg (fun _ => rfl) (p_fieldAddr0 (off := 2) Tryd.underlying56 rfl rfl Tryd.sizeOf3 (fun _ => rfl)) rfl rfl ?_ | refine op_wg (fun _ => rfl) (p_fieldAddr1 (off := 2) Tryd.underlying56 rfl rfl Tryd.sizeOf3 (fun _ => rfl)) rfl rfl ?_
    refine op_rg (fun _ => rfl) (by repeat (first | exact Has.here _ | apply Has.there)) (p_load Tryd.isAgg3 (fun _ => rfl) (by rfl)) rfl rfl ?_
    (refine op_wg (fun _ => rfl) (p_index_str Tryd.underlying9 (fun _ => rfl) (fun _ => rfl) (byteAt_get _ _ ?_)) rfl rfl ?_; (focus (omega)))
    first | refine op_wg (fun _ => rfl) (p_neq_nat (n := 0) (fun _ => rfl) (fun _ => rfl)) rfl rfl ?_ | refine op_wg (fun _ => rfl) (p_neq (fun _ => rfl) (fun _ => rfl)) rfl rfl ?_
    refine op_w (p_pick_t (fun _ => rfl) (fun _ => rfl)) rfl rfl ?_
    refine ops_nil ?_
    refine nx_slots (env' := [(0, _), (1, _), (23, _)]) [0, 1, 23] rfl (fun _ => rfl) ?_
    refine nx_next ?_
    first | refine at_if (fun _ => rfl) (fun hb0 => ?_) (fun hb0 => ?_) | refine at_if_bool (fun _ => rfl) (fun hb0 => ?_) (fun hb0 => ?_)
    ·
      refine at_skip ?_
      refine nx_next ?_
      refine at_block ?_
      refine at_seq ?_
      refine at_region ?_
      refine op_w (p_move (fun _ => rfl)) rfl rfl ?_
      first | refine op_w (p_nilCheck (fun _ => rfl)) rfl rfl ?_ | refine op_w (p_nilCheck_iface (fun _ => rfl)) rfl rfl ?_
      first | refine op_w (p_fieldAddr0 (off := 2) Tryd.underlying56 rfl rfl Tryd.sizeOf3 (fun _ => rfl)) rfl rfl ?_ | refine op_w (p_fieldAddr1 (off := 2) Tryd.underlying56 rfl rfl Tryd.sizeOf3 (fun _ => rfl)) rfl rfl ?_
      refine op_r (by repeat (first | exact Has.here _ | apply Has.there)) (p_load Tryd.isAgg3 (fun _ => rfl) (by rfl)) rfl rfl ?_
      refine op_w (p_assign (fun _ => rfl)) rfl rfl ?_
      refine ops_nil ?_
      refine nx_slots (env' := [(0, _), (1, _), (4, _)]) [0, 1, 4] rfl (fun _ => rfl) ?_
      refine nx_next ?_
      refine at_seq ?_
      refine at_region ?_
      refine op_w (p_move (fun _ => rfl)) rfl rfl ?_
      refine op_w (p_move (fun _ => rfl)) rfl rfl ?_
      (refine op_w (p_index_str Tryd.underlying9 (fun _ => rfl) (fun _ => rfl) (byteAt_get _ _ ?_)) rfl rfl ?_; (focus (omega)))
      first | refine op_w (p_eql_nat (n := 1) (fun _ => rfl) (fun _ => rfl)) rfl rfl ?_ | refine op_w (p_eql (fun _ => rfl) (fun _ => rfl)) rfl rfl ?_
      refine ops_eff (fun _ => rfl) (fits_of rfl) rfl (w_call (vs := [_]) (fun _ => rfl) Tryd.call57 (fun _ => rfl) rfl (check_spec _ _ _ _ _) (by repeat (first | exact Pull.nil _ | (apply Pull.cons; (focus (repeat (first | exact One.here _ _ | apply One.there))))))) ?_ ?hpan_2
      case hpan_2 =>
        rintro _ _ ⟨_, ⟨hk1, rfl, rfl⟩, rfl⟩ env
        refine nx_thru (by intro h; cases h) ?_
        refine nx_block_panic ?_
        refine nx_thru (by intro h; cases h) ?_
        refine nx_block_panic ?_
        refine nx_panic (H' := _) (by
              have hb1 := of_decide_eq_false hk1
              exact ⟨load_bad1 hinv hf (by omega) (by omega) (by omega), rfl, rfl⟩) ?hp_3
        case hp_3 => repeat (first | exact Sub.refl _ | exact Sub.nil _ | refine Sub.cons (by repeat (first | exact One.here _ _ | apply One.there)) ?_ | refine Sub.drop _ ?_)
      rintro _ _ ⟨_, ⟨hk1, rfl, rfl⟩, rfl⟩
      have hb1 := of_decide_eq_true hk1
      refine ops_nil ?_
      refine nx_slots (env' := [(0, _), (1, _), (4, _)]) [0, 1, 4] rfl (fun _ => rfl) ?_
      refine nx_next ?_
      refine at_seq ?_
      obtain ⟨r, k, e, hRe, hRc⟩ := strR_cases s (sz + 1)
      have hstr := string_spec s (sz + 1) (by omega) (by omega)
      rw [hRe] at hstr
      refine at_region ?_
      refine op_w (p_move (fun _ => rfl)) rfl rfl ?_
      refine op_w (p_move (fun _ => rfl)) rfl rfl ?_
      first | (refine op_w (p_add_nat (n := 1) (fun _ => rfl) (fun _ => rfl) ?_) rfl rfl ?_; (focus (omega))) | (refine op_w (p_add (fun _ => rfl) (fun _ => rfl) (IntWalk.i64_in _ ?_)) rfl rfl ?_; (focus (omega)))
      refine op_e (w_callR (vs := [_, _]) (fun _ => rfl) Tryd.call58 (fun _ => rfl) rfl (hstr) (by repeat (first | exact Pull.nil _ | (apply Pull.cons; (focus (repeat (first | exact One.here _ _ | apply One.there))))))) (fun _ => rfl) rfl rfl ?_
      rintro _ _ ⟨rfl, rfl⟩
      refine op_w (p_move (fun _ => rfl)) rfl rfl ?_
      refine op_w (p_extract (fun _ => rfl) rfl) rfl rfl ?_
      refine op_w (p_extract (fun _ => rfl) rfl) rfl rfl ?_
      refine op_w (p_extract (fun _ => rfl) rfl) rfl rfl ?_
      refine op_w (p_assign (fun _ => rfl)) rfl rfl ?_
      refine op_w (p_assign (fun _ => rfl)) rfl rfl ?_
      refine op_w (p_assign (fun _ => rfl)) rfl rfl ?_
      refine ops_nil ?_
      refine nx_slots (env' := [(0, _), (1, _), (4, _), (5, _), (6, _), (7, _)]) [0, 1, 4, 5, 6, 7] rfl (fun _ => rfl) ?_
      refine nx_next ?_
      refine at_seq ?_
      refine at_region ?_
      refine op_w (p_move (fun _ => rfl)) rfl rfl ?_
      first | refine op_w (p_eql_nat (n := 0) (fun _ => rfl) (fun _ => rfl)) rfl rfl ?_ | refine op_w (p_eql (fun _ => rfl) (fun _ => rfl)) rfl rfl ?_
      refine op_w (p_move (fun _ => rfl)) rfl rfl ?_
      first | refine ops_split (t := 43) (fun _ => rfl) rfl (fun he => ?_) (fun he => ?_) | refine ops_split_bool (t := 43) (fun _ => rfl) rfl (fun he => ?_) (fun he => ?_)
      ·
        have hd := (hRc.resolve_right (fun h => h.1 he)).2
        have hda := decS_at hd
        refine op_wg (fun _ => rfl) (p_move (fun _ => rfl)) rfl rfl ?_
        first | (refine op_wg (fun _ => rfl) (p_add_nat (n := 32) (fun _ => rfl) (fun _ => rfl) ?_) rfl rfl ?_; (focus (omega))) | (refine op_wg (fun _ => rfl) (p_add (fun _ => rfl) (fun _ => rfl) (IntWalk.i64_in _ ?_)) rfl rfl ?_; (focus (omega)))
        refine op_wg (fun _ => rfl) (p_move (fun _ => rfl)) rfl rfl ?_
        refine op_wg (fun _ => rfl) (p_len_str Tryd.underlying9 (fun _ => rfl)) rfl rfl ?_
        first | refine op_wg (fun _ => rfl) (p_leq_nat (fun _ => rfl) (fun _ => rfl)) rfl rfl ?_ | refine op_wg (fun _ => rfl) (p_leq (fun _ => rfl) (fun _ => rfl)) rfl rfl ?_
        refine op_w (p_pick_t (fun _ => rfl) (fun _ => rfl)) rfl rfl ?_
        refine ops_eff (fun _ => rfl) (fits_of rfl) rfl (w_call (vs := [_]) (fun _ => rfl) Tryd.call57 (fun _ => rfl) rfl (check_spec _ _ _ _ _) (by repeat (first | exact Pull.nil _ | (apply Pull.cons; (focus (repeat (first | exact One.here _ _ | apply One.there))))))) ?_ ?hpan_4
        case hpan_4 =>
          rintro _ _ ⟨_, ⟨hk1, rfl, rfl⟩, rfl⟩ env
          refine nx_thru (by intro h; cases h) ?_
          refine nx_block_panic ?_
          refine nx_thru (by intro h; cases h) ?_
          refine nx_block_panic ?_
          refine nx_panic (H' := _) (by
                have hk32 := of_decide_eq_false hk1
                exact ⟨load_bad3 hinv hf (by omega) (by omega) (by omega) hd (fun h => by omega), rfl, rfl⟩) ?hp_5
          case hp_5 => repeat (first | exact Sub.refl _ | exact Sub.nil _ | refine Sub.cons (by repeat (first | exact One.here _ _ | apply One.there)) ?_ | refine Sub.drop _ ?_)
        rintro _ _ ⟨_, ⟨hk1, rfl, rfl⟩, rfl⟩
        have hk32 := of_decide_eq_true hk1
        refine ops_nil ?_
        refine nx_slots (env' := [(0, _), (1, _), (4, _), (5, _), (6, _)]) [0, 1, 4, 5, 6] rfl (fun _ => rfl) ?_
        refine nx_next ?_
        refine at_draw (n := 10) (0 :: 0 :: 3 :: 0 :: 0 :: 0 :: 32 :: 120 :: 255 :: 511 :: []) 516 (by kernel_rfl) (by kernel_rfl) rfl ?_
        refine lin_w (D' := 1) 0 rfl rfl rfl (p_move (fun _ => rfl)) ?_
        refine lin_w (D' := 3) 1 rfl rfl rfl (p_move (fun _ => rfl)) ?_
        refine lin_w (D' := 11) 3 rfl rfl rfl (p_move (fun _ => rfl)) ?_
        refine lin_w (D' := 27) 4 rfl rfl rfl (p_move (fun _ => rfl)) ?_
        refine lin_w (D' := 59) 5 rfl rfl rfl (p_move (fun _ => rfl)) ?_
        first | (refine lin_w (D' := 123) 6 rfl rfl rfl (p_add_nat (n := 32) (fun _ => rfl) (fun _ => rfl) ?_) ?_; (focus (omega))) | (refine lin_w (D' := 123) 6 rfl rfl rfl (p_add (fun _ => rfl) (fun _ => rfl) (IntWalk.i64_in _ ?_)) ?_; (focus (omega)))
        (refine lin_w (D' := 251) 7 rfl rfl rfl (p_slice_str Tryd.underlying9 (fun _ => rfl) (fun _ => rfl) (fun _ => rfl) ?_ ?_) ?_; (focus (omega)); (focus (omega)))
        refine lin_eff (l := [2]) (by kernel_rfl) (by kernel_rfl) ?_
        refine each_cons (m := 3) (D' := 255) (is := []) (bs := []) (T' := []) rfl rfl rfl rfl (by kernel_rfl) rfl (w_call (vs := [_, _]) (fun _ => rfl) Tryd.call32 (fun _ => rfl) rfl (add5 tp sz v rs sr h r _ _ _ dv br hrow hh hda.2.2 (by omega) (by omega)) (by repeat (first | exact Pull.nil _ | (apply Pull.cons; (focus (repeat (first | exact One.here _ _ | apply One.there))))))) ?hk_6 no_pan ?hl_6
        case hk_6 =>
          rintro _ _ ⟨_, ⟨rfl, v2, sr2, hrow2, rfl⟩, rfl⟩
          refine ⟨keep_nil, ?_⟩
          refine lin_w (D' := 511) 8 rfl rfl rfl (p_eql_str (fun _ => rfl) (fun _ => rfl)) ?_
          refine lin_eff (l := [9]) (by kernel_rfl) (by kernel_rfl) ?_
          refine each_cons (m := 511) (D' := 1023) (is := []) (bs := []) (T' := []) rfl rfl rfl rfl (by kernel_rfl) rfl (w_call (vs := [_]) (fun _ => rfl) Tryd.call57 (fun _ => rfl) rfl (check_spec _ _ _ _ _) (by repeat (first | exact Pull.nil _ | (apply Pull.cons; (focus (repeat (first | exact One.here _ _ | apply One.there))))))) ?hk_7 ?hpan_7 ?hl_7
          case hpan_7 =>
            rintro _ _ ⟨_, ⟨hk1, rfl, rfl⟩, rfl⟩ env
            refine nx_block_panic ?_
            refine nx_thru (by intro h; cases h) ?_
            refine nx_block_panic ?_
            refine nx_panic (H' := _) (by
                  have hne := of_decide_eq_false hk1
                  exact ⟨load_bad3 hinv hf (by omega) (by omega) (by omega) hd (fun h => hne ((extract_dec s _ sz (k + 32) (by omega)).2 h.2)), rfl, rfl⟩) ?hp_8
            case hp_8 => repeat (first | exact Sub.refl _ | exact Sub.nil _ | refine Sub.cons (by repeat (first | exact One.here _ _ | apply One.there)) ?_ | refine Sub.drop _ ?_)
          case hk_7 =>
            rintro _ _ ⟨_, ⟨hk1, rfl, rfl⟩, rfl⟩
            refine ⟨keep_nil, ?_⟩
            have heq := (extract_dec s (recS h r) sz (k + 32) (by omega)).1 (of_decide_eq_true hk1)
            have hnext := load_next hinv hf (by omega) (by omega) (by omega) hd ⟨by omega, heq⟩
            have hlen := congrArg List.length heq
            rw [List.length_take, List.length_drop] at hlen
            refine lin_nil ?_
            refine nx_slots (env' := [(0, _), (1, _)]) [0, 1] rfl (fun _ => rfl) ?_
            refine nx_block_normal ?_
            refine nx_slots (env' := [(0, _), (1, _)]) [0, 1] rfl (fun _ => rfl) ?_
            refine nx_againB (e' := []) (m := _) (H' := _) (by exact ⟨f - 1, _, _, _, _, _, rfl, ⟨by omega, by omega, chain_len h r, by rw [List.length_append, List.length_singleton]; omega, hrow2, hnext⟩, rfl, rfl⟩) ?hm_9 ?hp_9
            case hm_9 => omega
            case hp_9 => repeat (first | exact Sub.refl _ | exact Sub.nil _ | refine Sub.cons (by repeat (first | exact One.here _ _ | apply One.there)) ?_ | refine Sub.drop _ ?_)
          case hl_7 =>
            exact each_nil
        case hl_6 =>
          exact each_nil
      ·
        have hd := (hRc.resolve_left (fun h => he h.1)).2.1
        refine op_skip (fun _ => rfl) rfl ?_
        refine op_skip (fun _ => rfl) rfl ?_
        refine op_skip (fun _ => rfl) rfl ?_
        refine op_skip (fun _ => rfl) rfl ?_
        refine op_skip (fun _ => rfl) rfl ?_
        refine op_w (p_pick_f (fun _ => rfl) (fun _ => rfl)) rfl rfl ?_
        refine ops_eff (fun _ => rfl) (fits_of rfl) rfl (w_call (vs := [_]) (fun _ => rfl) Tryd.call57 (fun _ => rfl) rfl (check_spec _ _ _ _ _) (by repeat (first | exact Pull.nil _ | (apply Pull.cons; (focus (repeat (first | exact One.here _ _ | apply One.there))))))) ?_ ?hpan_10
        case hpan_10 =>
          rintro _ _ ⟨_, ⟨hk1, rfl, rfl⟩, rfl⟩ env
          refine nx_thru (by intro h; cases h) ?_
          refine nx_block_panic ?_
          refine nx_thru (by intro h; cases h) ?_
          refine nx_block_panic ?_
          refine nx_panic (H' := _) (by exact ⟨load_bad2 hinv hf (by omega) (by omega) (by omega) hd, rfl, rfl⟩) ?hp_11
          case hp_11 => repeat (first | exact Sub.refl _ | exact Sub.nil _ | refine Sub.cons (by repeat (first | exact One.here _ _ | apply One.there)) ?_ | refine Sub.drop _ ?_)
        rintro _ _ ⟨_, ⟨hk1, rfl, rfl⟩, rfl⟩
        cases hk1
    ·
      have hend := load_end hinv (.inr (by omega))
      refine at_exit ?_
      refine nx_thru (by intro h; cases h) ?_
      refine nx_thru (by intro h; cases h) ?_
      refine nx_block_exit ?_
      refine nx_end0 (H' := _) rfl Tryd.results40 (by exact ⟨rs, h, sz, v, sr, hend, hh, hz, hn, hrow, rfl, rfl⟩) ?hp_12
      case hp_12 => repeat (first | exact Sub.refl _ | exact Sub.nil _ | refine Sub.cons (by repeat (first | exact One.here _ _ | apply One.there)) ?_ | refine Sub.drop _ ?_)
  ·
    have hend := load_end hinv (.inl (by omega))
    refine op_skip (fun _ => rfl) rfl ?_
    refine op_skip (fun _ => rfl) rfl ?_
    refine op_skip (fun _ => rfl) rfl ?_
    refine op_skip (fun _ => rfl) rfl ?_
    refine op_skip (fun _ => rfl) rfl ?_
    refine op_skip (fun _ => rfl) rfl ?_
    refine op_skip (fun _ => rfl) rfl ?_
    refine op_w (p_pick_f (fun _ => rfl) (fun _ => rfl)) rfl rfl ?_
    refine ops_nil ?_
    refine nx_slots (env' := [(0, _), (1, _), (23, _)]) [0, 1, 23] rfl (fun _ => rfl) ?_
    refine nx_next ?_
    refine at_else (fun _ => rfl) ?_
    refine at_exit ?_
    refine nx_thru (by intro h; cases h) ?_
    refine nx_thru (by intro h; cases h) ?_
    refine nx_block_exit ?_
    refine nx_end0 (H' := _) rfl Tryd.results40 (by exact ⟨rs, h, sz, v, sr, hend, hh, hz, hn, hrow, rfl, rfl⟩) ?hp_13
    case hp_13 => repeat (first | exact Sub.refl _ | exact Sub.nil _ | refine Sub.cons (by repeat (first | exact One.here _ _ | apply One.there)) ?_ | refine Sub.drop _ ?_)

end Go.Proofs.YtddblcjcodejaaaDoor
