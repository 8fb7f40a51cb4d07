/- Contracts: strings.Trim at a zero byte, journal.Open where the tail is zeros or the disk is damaged. -/
import Derived.Test.YtddblcjcodejaaaDoorOp2
namespace Go.Proofs.YtddblcjcodejaaaDoor
open Go Go.RowKit Gw
set_option linter.unusedVariables false
set_option maxRecDepth 100000
attribute [local irreducible] Gw.At Gw.Nx Gw.Ops
theorem drop_all (l : List UInt8) (h : ∀ x ∈ l, x = 0) : l.dropWhile (· == 0) = [] := by
  induction l with
  | nil => rfl
  | cons a l ih =>
    have h1 := h a (by simp)
    subst h1
    rw [List.dropWhile_cons]
    exact ih (fun x hx => h x (by simp [hx]))
theorem trim_zero (l : List UInt8) (h : ∀ x ∈ l, x = 0) : Lib.trimB l 0 = [] := by
  have hr : Lib.trimRightB l 0 = [] := by
    unfold Lib.trimRightB
    rw [show l.reverse.dropWhile (· == 0) = [] from drop_all _ (fun x hx => h x (List.mem_reverse.1 hx))]; rfl
  unfold Lib.trimB
  rw [hr]; rfl
theorem trim_spec (l : List UInt8) (h : ∀ x ∈ l, x = 0) (hl : l.length ≤ 9223372036854775807) : DoesR Tryd.prog 23 #[.string (str l), .string ⟨#[0]⟩] [] (.string (str [])) :=
  spec_below (Rl := fun v => v = .string (str [])) (fun w _ => (Tryd.strings_Trim_one (str l) 0 (by decide) w (by rw [str_size]; exact hl)).mono (by
    rintro e w' ⟨rfl, h2⟩
    refine ⟨_, rfl, ?_, ?_⟩
    · rw [str_list, trim_zero l h]; rfl
    · rcases h2 with rfl | rfl
      · exact Below.refl _ _
      · exact ⟨rfl, rfl, rfl, Nat.le_refl _, fun _ _ => rfl⟩)) (fun v hv => ⟨hv, rfl⟩)
theorem extract_tail (s : List UInt8) (k : Nat) (h : k ≤ s.length) : (str s).extract k (str s).size = str (s.drop k) := by
  have := extract_str s k (s.length - k)
  rw [str_size, show k + (s.length - k) = s.length by omega] at *
  rw [this, List.take_of_length_le (by rw [List.length_drop]; omega)]
theorem p_slice_drop {P : Program} {env : Env} {d : Option Nat} {ty : TypeId} {pos : String} {af : Array Edge} {g : Option (Nat × Bool)} {t : TypeId} {x lo : Operand} {l : List UInt8} {k : Nat} {lk : IntKind} (hu : P.underlying t = some .string) (hx : ∀ a, ev a env x = .string (str l)) (hl : ∀ a, ev a env lo = .int lk (k : Int)) (h1 : k ≤ l.length) : OpP P ⟨d, .slice t x (some lo) none none, ty, pos, af, g⟩ env [] (.string (str (l.drop k))) := by
  have := p_slice_str_from (P := P) (d := d) (ty := ty) (pos := pos) (af := af) (g := g) hu hx hl (by rw [str_size]; exact h1)
  rw [extract_tail l k h1] at this; exact this

theorem open_clean (dp : Nat) (d : DiskS) (sd : List Chunk) (pa : Addr) (Tx Tg : TypeId) (zx zg : Nat × Nat) (hR : DiskR d dp sd) (hoff : d.off = false) (rs : List (List UInt8)) (h : List UInt8) (sz : Nat) (hl : loadL d.vi (d.vi.length + 1) [] zero32 0 = some (rs, h, sz)) (hz : ∀ x ∈ d.vi.drop sz, x = 0) : Does Tryd.prog 8 #[.pointer (some ⟨dp, 0, none⟩)] [sd, [(4, .cells (kTab.map u32v).toArray Tg zg)], [(0, .cells #[.iface 155 (.pointer (some pa))] Tx zx)]]
      (fun r H' => ∃ v sr jp, h.length = 32 ∧ sz ≤ d.vi.length ∧ rs.length ≤ sz ∧ Row 9 v (rs.map strV) sr ∧ r = .tuple #[.pointer (some ⟨jp, 0, none⟩), .int .i64 0] ∧ H' = [[(jp, .cells #[v, .string (str h), .int .i64 (sz : Int), .pointer (some ⟨dp, 0, none⟩), .bool false] 58 (0, 0))], sr, sd, [(4, .cells (kTab.map u32v).toArray Tg zg)], [(0, .cells #[.iface 155 (.pointer (some pa))] Tx zx)]]) := by
  have hvi : d.vi.length ≤ 4194304 := hR.1.2.2.1
  refine spec_enter Tryd.func8 rfl Tryd.ntmps8 rfl ?_
  intro u R
  refine at_slots (env' := [(0, _)]) [0] rfl (fun _ => rfl) ?_
  refine at_seq ?_
  refine at_region ?_
  refine op_w (p_assign (fun _ => rfl)) rfl rfl ?_
  refine op_w (p_assign (fun _ => rfl)) rfl rfl ?_
  refine ops_nil ?_
  refine nx_slots (env' := [(0, _)]) [0] rfl (fun _ => rfl) ?_
  refine nx_next ?_
  refine at_seq ?_
  refine at_seq ?_
  refine at_region ?_
  refine op_w (p_move (fun _ => rfl)) rfl rfl ?_
  first | refine op_w (p_eql_nil_nil Tryd.underlying24 (fun _ => rfl) (fun _ => rfl)) rfl rfl ?_ | refine op_w (p_eql_ptr_nil Tryd.underlying24 (fun _ => rfl) (fun _ => rfl)) rfl rfl ?_
  refine ops_nil ?_
  refine nx_slots (env' := [(0, _), (8, _)]) [0, 8] rfl (fun _ => rfl) ?_
  refine nx_next ?_
  refine at_if_bool (fun _ => rfl) (fun hc1 => ?_) (fun hc1 => ?_)
  ·
    cases hc1
  ·
    refine at_skip ?_
    refine nx_next ?_
    refine at_seq ?_
    refine at_region ?_
    refine op_w (p_move (fun _ => rfl)) rfl rfl ?_
    refine op_w (p_move (fun _ => rfl)) rfl rfl ?_
    refine op_e (w_callR (vs := [_]) (fun _ => rfl) Tryd.call21 (fun _ => rfl) rfl (disk_size d dp sd hR) (by repeat (first | exact Pull.nil _ | (apply Pull.cons; (focus (repeat (first | exact One.here _ _ | apply One.there))))))) (fun _ => rfl) rfl rfl ?_
    rintro _ _ ⟨rfl, rfl⟩
    refine op_e (w_callR (vs := [_, _, _]) (fun _ => rfl) Tryd.call20 (fun _ => rfl) rfl ((by have h := disk_read d dp sd hR 0 d.vi.length (by omega) (by have := hR.1.2.1; omega); rw [hoff] at h; simp only [Bool.false_eq_true, if_false, List.drop_zero, List.take_length] at h; exact h : DoesR Tryd.prog 20 #[.pointer (some ⟨dp, 0, none⟩), .int .i64 ((0 : Nat) : Int), .int .i64 (d.vi.length : Int)] [sd] (.tuple #[.string (str d.vi), .int .i64 0]))) (by repeat (first | exact Pull.nil _ | (apply Pull.cons; (focus (repeat (first | exact One.here _ _ | apply One.there))))))) (fun _ => rfl) rfl rfl ?_
    rintro _ _ ⟨rfl, rfl⟩
    refine op_w (p_move (fun _ => rfl)) rfl rfl ?_
    refine op_w (p_extract (fun _ => rfl) rfl) rfl rfl ?_
    refine op_w (p_extract (fun _ => rfl) rfl) rfl rfl ?_
    refine op_w (p_assign (fun _ => rfl)) rfl rfl ?_
    refine op_w (p_assign (fun _ => rfl)) rfl rfl ?_
    refine ops_nil ?_
    refine nx_slots (env' := [(0, _), (4, _), (5, _)]) [0, 4, 5] rfl (fun _ => rfl) ?_
    refine nx_next ?_
    refine at_seq ?_
    refine at_seq ?_
    refine at_region ?_
    refine op_w (p_move (fun _ => rfl)) rfl rfl ?_
    first | refine op_w (p_neq_nat (n := 0) (fun _ => rfl) (fun _ => rfl)) rfl rfl ?_ | refine op_w (p_neq (fun _ => rfl) (fun _ => rfl)) rfl rfl ?_
    refine ops_nil ?_
    refine nx_slots (env' := [(0, _), (4, _), (5, _), (17, _)]) [0, 4, 5, 17] rfl (fun _ => rfl) ?_
    refine nx_next ?_
    first | refine at_if (fun _ => rfl) (fun hc2 => ?_) (fun hc2 => ?_) | refine at_if_bool (fun _ => rfl) (fun hc2 => ?_) (fun hc2 => ?_)
    ·
      exact absurd rfl hc2
    ·
      refine at_skip ?_
      refine nx_next ?_
      refine at_seq ?_
      refine at_region ?_
      refine op_w (p_move (fun _ => rfl)) rfl rfl ?_
      refine op_w (p_move (fun _ => rfl)) rfl rfl ?_
      refine ops_eff (fun _ => rfl) (fits_of rfl) rfl (w_call (vs := [_, _]) (fun _ => rfl) Tryd.call22 (fun _ => rfl) rfl ((does_mono (Q' := fun r H' => ∃ v sr jp, h.length = 32 ∧ sz ≤ d.vi.length ∧ rs.length ≤ sz ∧ Row 9 v (rs.map strV) sr ∧ r = .tuple #[.pointer (some ⟨jp, 0, none⟩), .int .i64 0] ∧ H' = [[(jp, .cells #[v, .string (str h), .int .i64 (sz : Int), .pointer (some ⟨dp, 0, none⟩), .bool false] 58 (0, 0))], sr, [(4, .cells (kTab.map u32v).toArray Tg zg)], [(0, .cells #[.iface 155 (.pointer (some pa))] Tx zx)]]) (open_spec dp d.vi pa Tx Tg zx zg hvi) (by
      rintro r H1 (⟨rs2, h2, sz2, v, sr, jp, hl2, g1, g2, g3, g4, rfl, rfl⟩ | ⟨hl2, _⟩)
      · rw [hl] at hl2; injection hl2 with e; injection e with e1 e2; injection e2 with e2 e3; subst e1 e2 e3; exact ⟨_, ⟨v, sr, jp, g1, g2, g3, g4, rfl, rfl⟩, rfl⟩
      · rw [hl] at hl2; cases hl2))) (by repeat (first | exact Pull.nil _ | (apply Pull.cons; (focus (repeat (first | exact One.here _ _ | apply One.there))))))) ?_ no_pan
      rintro _ _ ⟨_, ⟨v, sr, jp, g1, g2, g3, g4, rfl, rfl⟩, rfl⟩
      refine op_w (p_move (fun _ => rfl)) rfl rfl ?_
      refine op_w (p_extract (fun _ => rfl) rfl) rfl rfl ?_
      refine op_w (p_extract (fun _ => rfl) rfl) rfl rfl ?_
      refine op_w (p_assign (fun _ => rfl)) rfl rfl ?_
      refine op_w (p_assign (fun _ => rfl)) rfl rfl ?_
      refine ops_nil ?_
      refine nx_slots (env' := [(0, _), (4, _), (5, _), (6, _)]) [0, 4, 5, 6] rfl (fun _ => rfl) ?_
      refine nx_next ?_
      refine at_seq ?_
      refine at_seq ?_
      refine at_region ?_
      refine op_w (p_move (fun _ => rfl)) rfl rfl ?_
      first | refine op_w (p_neq_nat (n := 0) (fun _ => rfl) (fun _ => rfl)) rfl rfl ?_ | refine op_w (p_neq (fun _ => rfl) (fun _ => rfl)) rfl rfl ?_
      refine ops_nil ?_
      refine nx_slots (env' := [(0, _), (4, _), (5, _), (6, _), (26, _)]) [0, 4, 5, 6, 26] rfl (fun _ => rfl) ?_
      refine nx_next ?_
      first | refine at_if (fun _ => rfl) (fun hc3 => ?_) (fun hc3 => ?_) | refine at_if_bool (fun _ => rfl) (fun hc3 => ?_) (fun hc3 => ?_)
      ·
        exact absurd rfl hc3
      ·
        refine at_skip ?_
        refine nx_next ?_
        refine at_seq ?_
        refine at_seq ?_
        refine at_region ?_
        refine op_w (p_move (fun _ => rfl)) rfl rfl ?_
        refine op_w (p_move (fun _ => rfl)) rfl rfl ?_
        first | refine op_w (p_nilCheck (fun _ => rfl)) rfl rfl ?_ | refine op_w (p_nilCheck_iface (fun _ => rfl)) rfl rfl ?_
        first | refine op_w (p_fieldAddr0 (off := 0) Tryd.underlying58 rfl rfl Tryd.sizeOf56 (fun _ => rfl)) rfl rfl ?_ | refine op_w (p_fieldAddr1 (off := 0) Tryd.underlying58 rfl rfl Tryd.sizeOf56 (fun _ => rfl)) rfl rfl ?_
        first | refine op_w (p_fieldAddr0 (off := 2) Tryd.underlying56 rfl rfl Tryd.sizeOf3 (fun _ => rfl)) rfl rfl ?_ | refine op_w (p_fieldAddr1 (off := 2) Tryd.underlying56 rfl rfl Tryd.sizeOf3 (fun _ => rfl)) rfl rfl ?_
        refine op_r (by repeat (first | exact Has.here _ | apply Has.there)) (p_load Tryd.isAgg3 (fun _ => rfl) (by rfl)) rfl rfl ?_
        refine op_w (p_slice_drop Tryd.underlying9 (fun _ => rfl) (fun _ => rfl) g2) rfl rfl ?_
        refine op_e (w_callR (vs := [_, _]) (fun _ => rfl) Tryd.call23 (fun _ => rfl) rfl (trim_spec _ hz (by rw [List.length_drop]; omega)) (by repeat (first | exact Pull.nil _ | (apply Pull.cons; (focus (repeat (first | exact One.here _ _ | apply One.there))))))) (fun _ => rfl) rfl rfl ?_
        rintro _ _ ⟨rfl, rfl⟩
        refine op_w (p_neq_str (fun _ => rfl) (fun _ => rfl)) rfl rfl ?_
        refine ops_nil ?_
        refine nx_slots (env' := [(0, _), (4, _), (5, _), (6, _), (36, _)]) [0, 4, 5, 6, 36] rfl (fun _ => rfl) ?_
        refine nx_next ?_
        first | refine at_if (fun _ => rfl) (fun hc4 => ?_) (fun hc4 => ?_) | refine at_if_bool (fun _ => rfl) (fun hc4 => ?_) (fun hc4 => ?_)
        ·
          exact absurd rfl hc4
        ·
          refine at_skip ?_
          refine nx_next ?_
          refine at_seq ?_
          refine at_seq ?_
          refine at_region ?_
          refine op_w (p_move (fun _ => rfl)) rfl rfl ?_
          first | refine op_w (p_neq_nat (n := 0) (fun _ => rfl) (fun _ => rfl)) rfl rfl ?_ | refine op_w (p_neq (fun _ => rfl) (fun _ => rfl)) rfl rfl ?_
          refine ops_nil ?_
          refine nx_slots (env' := [(5, _), (6, _), (59, _)]) [5, 6, 59] rfl (fun _ => rfl) ?_
          refine nx_next ?_
          first | refine at_if (fun _ => rfl) (fun hc5 => ?_) (fun hc5 => ?_) | refine at_if_bool (fun _ => rfl) (fun hc5 => ?_) (fun hc5 => ?_)
          ·
            exact absurd rfl hc5
          ·
            refine at_skip ?_
            refine nx_next ?_
            refine at_seq ?_
            refine at_region ?_
            refine op_w (p_move (fun _ => rfl)) rfl rfl ?_
            refine op_w (p_assign (fun _ => rfl)) rfl rfl ?_
            refine op_w (p_assign (fun _ => rfl)) rfl rfl ?_
            refine ops_nil ?_
            refine nx_slots (env' := [(2, _), (3, _)]) [2, 3] rfl (fun _ => rfl) ?_
            refine nx_next ?_
            refine at_ret ?_
            refine nx_end2 (H' := _) rfl Tryd.results8 (fun _ => rfl) (fun _ => rfl) (by exact ⟨v, sr, jp, g1, g2, g3, g4, rfl, rfl⟩) ?hp_1
            case hp_1 => repeat (first | exact Sub.refl _ | exact Sub.nil _ | refine Sub.cons (by repeat (first | exact One.here _ _ | apply One.there)) ?_ | refine Sub.drop _ ?_)

theorem open_damaged (dp : Nat) (d : DiskS) (sd : List Chunk) (pa : Addr) (Tx Tg : TypeId) (zx zg : Nat × Nat) (hR : DiskR d dp sd) (hoff : d.off = false) (hl : loadL d.vi (d.vi.length + 1) [] zero32 0 = none) : DoesR Tryd.prog 8 #[.pointer (some ⟨dp, 0, none⟩)] [sd, [(4, .cells (kTab.map u32v).toArray Tg zg)], [(0, .cells #[.iface 155 (.pointer (some pa))] Tx zx)]] (.tuple #[.pointer none, .int .i64 232]) := by
  have hvi : d.vi.length ≤ 4194304 := hR.1.2.2.1
  refine spec_enter Tryd.func8 rfl Tryd.ntmps8 rfl ?_
  intro u R
  refine at_slots (env' := [(0, _)]) [0] rfl (fun _ => rfl) ?_
  refine at_seq ?_
  refine at_region ?_
  refine op_w (p_assign (fun _ => rfl)) rfl rfl ?_
  refine op_w (p_assign (fun _ => rfl)) rfl rfl ?_
  refine ops_nil ?_
  refine nx_slots (env' := [(0, _)]) [0] rfl (fun _ => rfl) ?_
  refine nx_next ?_
  refine at_seq ?_
  refine at_seq ?_
  refine at_region ?_
  refine op_w (p_move (fun _ => rfl)) rfl rfl ?_
  first | refine op_w (p_eql_nil_nil Tryd.underlying24 (fun _ => rfl) (fun _ => rfl)) rfl rfl ?_ | refine op_w (p_eql_ptr_nil Tryd.underlying24 (fun _ => rfl) (fun _ => rfl)) rfl rfl ?_
  refine ops_nil ?_
  refine nx_slots (env' := [(0, _), (8, _)]) [0, 8] rfl (fun _ => rfl) ?_
  refine nx_next ?_
  refine at_if_bool (fun _ => rfl) (fun hc1 => ?_) (fun hc1 => ?_)
  ·
    cases hc1
  ·
    refine at_skip ?_
    refine nx_next ?_
    refine at_seq ?_
    refine at_region ?_
    refine op_w (p_move (fun _ => rfl)) rfl rfl ?_
    refine op_w (p_move (fun _ => rfl)) rfl rfl ?_
    refine op_e (w_callR (vs := [_]) (fun _ => rfl) Tryd.call21 (fun _ => rfl) rfl (disk_size d dp sd hR) (by repeat (first | exact Pull.nil _ | (apply Pull.cons; (focus (repeat (first | exact One.here _ _ | apply One.there))))))) (fun _ => rfl) rfl rfl ?_
    rintro _ _ ⟨rfl, rfl⟩
    refine op_e (w_callR (vs := [_, _, _]) (fun _ => rfl) Tryd.call20 (fun _ => rfl) rfl ((by have h := disk_read d dp sd hR 0 d.vi.length (by omega) (by have := hR.1.2.1; omega); rw [hoff] at h; simp only [Bool.false_eq_true, if_false, List.drop_zero, List.take_length] at h; exact h : DoesR Tryd.prog 20 #[.pointer (some ⟨dp, 0, none⟩), .int .i64 ((0 : Nat) : Int), .int .i64 (d.vi.length : Int)] [sd] (.tuple #[.string (str d.vi), .int .i64 0]))) (by repeat (first | exact Pull.nil _ | (apply Pull.cons; (focus (repeat (first | exact One.here _ _ | apply One.there))))))) (fun _ => rfl) rfl rfl ?_
    rintro _ _ ⟨rfl, rfl⟩
    refine op_w (p_move (fun _ => rfl)) rfl rfl ?_
    refine op_w (p_extract (fun _ => rfl) rfl) rfl rfl ?_
    refine op_w (p_extract (fun _ => rfl) rfl) rfl rfl ?_
    refine op_w (p_assign (fun _ => rfl)) rfl rfl ?_
    refine op_w (p_assign (fun _ => rfl)) rfl rfl ?_
    refine ops_nil ?_
    refine nx_slots (env' := [(0, _), (4, _), (5, _)]) [0, 4, 5] rfl (fun _ => rfl) ?_
    refine nx_next ?_
    refine at_seq ?_
    refine at_seq ?_
    refine at_region ?_
    refine op_w (p_move (fun _ => rfl)) rfl rfl ?_
    first | refine op_w (p_neq_nat (n := 0) (fun _ => rfl) (fun _ => rfl)) rfl rfl ?_ | refine op_w (p_neq (fun _ => rfl) (fun _ => rfl)) rfl rfl ?_
    refine ops_nil ?_
    refine nx_slots (env' := [(0, _), (4, _), (5, _), (17, _)]) [0, 4, 5, 17] rfl (fun _ => rfl) ?_
    refine nx_next ?_
    first | refine at_if (fun _ => rfl) (fun hc2 => ?_) (fun hc2 => ?_) | refine at_if_bool (fun _ => rfl) (fun hc2 => ?_) (fun hc2 => ?_)
    ·
      exact absurd rfl hc2
    ·
      refine at_skip ?_
      refine nx_next ?_
      refine at_seq ?_
      refine at_region ?_
      refine op_w (p_move (fun _ => rfl)) rfl rfl ?_
      refine op_w (p_move (fun _ => rfl)) rfl rfl ?_
      refine ops_eff (fun _ => rfl) (fits_of rfl) rfl (w_call (vs := [_, _]) (fun _ => rfl) Tryd.call22 (fun _ => rfl) rfl ((does_mono (Q' := fun r H' => r = .tuple #[.pointer none, .int .i64 232] ∧ H' = [[(4, .cells (kTab.map u32v).toArray Tg zg)], [(0, .cells #[.iface 155 (.pointer (some pa))] Tx zx)]]) (open_spec dp d.vi pa Tx Tg zx zg hvi) (by
      rintro r H1 (⟨rs2, h2, sz2, v, sr, jp, hl2, g1, g2, g3, g4, rfl, rfl⟩ | ⟨hl2, rfl, rfl⟩)
      · rw [hl] at hl2; cases hl2
      · exact ⟨_, ⟨rfl, rfl⟩, rfl⟩))) (by repeat (first | exact Pull.nil _ | (apply Pull.cons; (focus (repeat (first | exact One.here _ _ | apply One.there))))))) ?_ no_pan
      rintro _ _ ⟨_, ⟨rfl, rfl⟩, rfl⟩
      refine op_w (p_move (fun _ => rfl)) rfl rfl ?_
      refine op_w (p_extract (fun _ => rfl) rfl) rfl rfl ?_
      refine op_w (p_extract (fun _ => rfl) rfl) rfl rfl ?_
      refine op_w (p_assign (fun _ => rfl)) rfl rfl ?_
      refine op_w (p_assign (fun _ => rfl)) rfl rfl ?_
      refine ops_nil ?_
      refine nx_slots (env' := [(0, _), (4, _), (5, _), (6, _)]) [0, 4, 5, 6] rfl (fun _ => rfl) ?_
      refine nx_next ?_
      refine at_seq ?_
      refine at_seq ?_
      refine at_region ?_
      refine op_w (p_move (fun _ => rfl)) rfl rfl ?_
      first | refine op_w (p_neq_nat (n := 0) (fun _ => rfl) (fun _ => rfl)) rfl rfl ?_ | refine op_w (p_neq (fun _ => rfl) (fun _ => rfl)) rfl rfl ?_
      refine ops_nil ?_
      refine nx_slots (env' := [(0, _), (4, _), (5, _), (6, _), (26, _)]) [0, 4, 5, 6, 26] rfl (fun _ => rfl) ?_
      refine nx_next ?_
      first | refine at_if (fun _ => rfl) (fun hc3 => ?_) (fun hc3 => ?_) | refine at_if_bool (fun _ => rfl) (fun hc3 => ?_) (fun hc3 => ?_)
      ·
        refine at_seq ?_
        refine at_region ?_
        refine op_w (p_move (fun _ => rfl)) rfl rfl ?_
        refine op_w (p_assign (fun _ => rfl)) rfl rfl ?_
        refine op_w (p_assign (fun _ => rfl)) rfl rfl ?_
        refine ops_nil ?_
        refine nx_slots (env' := [(2, _), (3, _)]) [2, 3] rfl (fun _ => rfl) ?_
        refine nx_next ?_
        refine at_ret ?_
        refine nx_thru (by intro h; cases h) ?_
        refine nx_end2 (H' := _) rfl Tryd.results8 (fun _ => rfl) (fun _ => rfl) (by exact ⟨rfl, rfl⟩) ?hp_1
        case hp_1 => repeat (first | exact Sub.refl _ | exact Sub.nil _ | refine Sub.cons (by repeat (first | exact One.here _ _ | apply One.there)) ?_ | refine Sub.drop _ ?_)
      ·
        exact absurd (by decide) hc3

end Go.Proofs.YtddblcjcodejaaaDoor
