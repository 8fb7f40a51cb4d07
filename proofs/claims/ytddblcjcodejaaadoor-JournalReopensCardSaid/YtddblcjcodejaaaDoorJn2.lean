/- Contracts: journal.first, Records. -/
import Derived.Test.YtddblcjcodejaaaDoorJn1
namespace Go.Proofs.YtddblcjcodejaaaDoor
open Go Go.RowKit Gw
set_option linter.unusedVariables false
set_option maxRecDepth 100000
attribute [local irreducible] Gw.At Gw.Nx Gw.Ops
theorem first_spec (g n cap : Nat) (fc : Array Value) (Tf : TypeId) (zf : Nat × Nat) (fid : Nat → FuncId) (fst cps : Nat → Array Value) (I : Nat → List Chunk → Prop) (E : Int → List Chunk → Prop)
    (hn : n ≤ 1000) (hfc : ∀ i, i < n → fc[i]? = some (.func (.func (fid i)) (fst i) (cps i))) (hcall : ∀ i, i < n → ∀ (args : Array Value) (w : World), (callFunc (fid i) args).run Tryd.prog w = .ok (.enter (fid i) args) w)
    (hsp : ∀ i, i < n → ∀ s, I i s → Does Tryd.prog (fid i) ((fst i).toList ++ [] ++ (cps i).toList).toArray [s] (fun r H' => ∃ (e : Int) (s' : List Chunk), r = .int .i64 e ∧ H' = [s'] ∧ ((e = 0 ∧ I (i + 1) s') ∨ (e ≠ 0 ∧ E e s')))) (s : List Chunk) (h0 : I 0 s) :
    Does Tryd.prog 24 #[.slice (some ⟨g, 0, none⟩) n cap] [[(g, .cells fc Tf zf)], s] (fun r H' => ∃ (e : Int) (s' : List Chunk), r = .int .i64 e ∧ H' = [[(g, .cells fc Tf zf)], s'] ∧ ((e = 0 ∧ I n s') ∨ (e ≠ 0 ∧ E e s'))) := by
  refine spec_enter Tryd.func24 rfl Tryd.ntmps24 rfl ?_
  intro u R
  refine at_slots (env' := [(0, _)]) [0] rfl (fun _ => rfl) ?_
  refine at_seq ?_
  refine at_region ?_
  refine op_w (p_assign (fun _ => rfl)) rfl rfl ?_
  refine ops_nil ?_
  refine nx_slots (env' := [(0, _)]) [0] rfl (fun _ => rfl) ?_
  refine nx_next ?_
  refine at_seq ?_
  refine at_seq ?_
  refine at_region ?_
  refine op_w (p_move (fun _ => rfl)) rfl rfl ?_
  refine op_w (p_len_slice Tryd.underlying88 (fun _ => rfl)) rfl rfl ?_
  refine op_w (p_move (fun _ => rfl)) rfl rfl ?_
  refine ops_nil ?_
  refine nx_slots (env' := [(6, _), (7, _), (8, _)]) [6, 7, 8] rfl (fun _ => rfl) ?_
  refine nx_next ?_
  refine at_block ?_
  refine at_slots (env' := [(8, _), (6, _), (7, _)]) [8, 6, 7] rfl (fun _ => rfl) ?_
  refine at_loopB (e0 := [(8, _)]) (H0 := _) (n := _) (fun m e H => ∃ (i : Nat) (s : List Chunk), m = n - i ∧ (i ≤ n ∧ I i s) ∧ e = [(8, .int .i64 (i : Int))] ∧ H = [s]) (by exact ⟨0, s, rfl, ⟨Nat.zero_le _, h0⟩, rfl, rfl⟩) (by repeat (first | exact Pull.nil _ | (apply Pull.cons; (focus (repeat (first | exact One.here _ _ | apply One.there)))))) ?_
  rintro _ _ _ ⟨i, s, rfl, ⟨hi, hI⟩, rfl, rfl⟩
  refine at_seq ?_
  refine at_region ?_
  first | refine op_w (p_lss_nat (fun _ => rfl) (fun _ => rfl)) rfl rfl ?_ | refine op_w (p_lss (fun _ => rfl) (fun _ => rfl)) rfl rfl ?_
  refine ops_nil ?_
  refine nx_slots (env' := [(6, _), (7, _), (8, _), (9, _)]) [6, 7, 8, 9] rfl (fun _ => rfl) ?_
  refine nx_next ?_
  refine at_seq ?_
  first | refine at_if (fun _ => rfl) (fun hi2 => ?_) (fun hi2 => ?_) | refine at_if_bool (fun _ => rfl) (fun hi2 => ?_) (fun hi2 => ?_)
  ·
    refine at_skip ?_
    refine nx_next ?_
    refine at_seq ?_
    refine at_block ?_
    refine at_seq ?_
    refine at_region ?_
    first | (refine op_w (p_indexAddr_nat0 Tryd.underlying88 Tryd.sizeOf60 (fun _ => rfl) (fun _ => rfl) ?_) rfl rfl ?_; (focus (omega))) | (refine op_w (p_indexAddr_nat1 Tryd.underlying88 Tryd.sizeOf60 (fun _ => rfl) (fun _ => rfl) ?_) rfl rfl ?_; (focus (omega)))
    refine op_r (by repeat (first | exact Has.here _ | apply Has.there)) (p_load Tryd.isAgg60 (fun _ => rfl) (by first | exact hfc i hi2 | (rw [Nat.mul_one, Nat.zero_add]; exact hfc i hi2) | (rw [Nat.mul_one]; exact hfc i hi2))) rfl rfl ?_
    refine op_w (p_assign (fun _ => rfl)) rfl rfl ?_
    refine ops_nil ?_
    refine nx_slots (env' := [(4, _), (6, _), (7, _), (8, _)]) [4, 6, 7, 8] rfl (fun _ => rfl) ?_
    refine nx_next ?_
    refine at_seq ?_
    refine at_region ?_
    refine op_w (p_move (fun _ => rfl)) rfl rfl ?_
    refine ops_eff (fun _ => rfl) (fits_of rfl) rfl (w_call (vs := []) (fun _ => rfl) (hcall i hi2) (fun _ => rfl) rfl (hsp i hi2 s hI) (by repeat (first | exact Pull.nil _ | (apply Pull.cons; (focus (repeat (first | exact One.here _ _ | apply One.there))))))) ?_ no_pan
    rintro _ _ ⟨_, ⟨e, s', rfl, rfl, hE⟩, rfl⟩
    refine op_w (p_assign (fun _ => rfl)) rfl rfl ?_
    refine ops_nil ?_
    refine nx_slots (env' := [(5, _), (6, _), (7, _), (8, _)]) [5, 6, 7, 8] rfl (fun _ => rfl) ?_
    refine nx_next ?_
    refine at_seq ?_
    refine at_region ?_
    refine op_w (p_move (fun _ => rfl)) rfl rfl ?_
    first | refine op_w (p_neq_nat (n := 0) (fun _ => rfl) (fun _ => rfl)) rfl rfl ?_ | refine op_w (p_neq (fun _ => rfl) (fun _ => rfl)) rfl rfl ?_
    refine ops_nil ?_
    refine nx_slots (env' := [(5, _), (6, _), (7, _), (8, _), (15, _)]) [5, 6, 7, 8, 15] rfl (fun _ => rfl) ?_
    refine nx_next ?_
    first | refine at_if (fun _ => rfl) (fun he => ?_) (fun he => ?_) | refine at_if_bool (fun _ => rfl) (fun he => ?_) (fun he => ?_)
    ·
      refine at_seq ?_
      refine at_region ?_
      refine op_w (p_move (fun _ => rfl)) rfl rfl ?_
      refine op_w (p_assign (fun _ => rfl)) rfl rfl ?_
      refine ops_nil ?_
      refine nx_slots (env' := [(2, _)]) [2] rfl (fun _ => rfl) ?_
      refine nx_next ?_
      refine at_ret ?_
      refine nx_block_ret ?_
      refine nx_thru (by intro h; cases h) ?_
      refine nx_thru (by intro h; cases h) ?_
      refine nx_block_ret ?_
      refine nx_thru (by intro h; cases h) ?_
      refine nx_end1 (H' := _) rfl Tryd.results24 (fun _ => rfl) (by exact ⟨e, s', rfl, rfl, .inr (hE.resolve_left (fun h => he h.1))⟩) ?hp_2
      case hp_2 => repeat (first | exact Sub.refl _ | exact Sub.nil _ | refine Sub.cons (by repeat (first | exact One.here _ _ | apply One.there)) ?_ | refine Sub.drop _ ?_)
    ·
      refine at_skip ?_
      refine nx_block_normal ?_
      refine nx_next ?_
      refine at_region ?_
      first | (refine op_w (p_add_nat (n := 1) (fun _ => rfl) (fun _ => rfl) ?_) rfl rfl ?_; (focus (omega))) | (refine op_w (p_add (fun _ => rfl) (fun _ => rfl) (IntWalk.i64_in _ ?_)) rfl rfl ?_; (focus (omega)))
      refine op_w (p_move (fun _ => rfl)) rfl rfl ?_
      refine ops_nil ?_
      refine nx_slots (env' := [(6, _), (7, _), (8, _)]) [6, 7, 8] rfl (fun _ => rfl) ?_
      refine nx_slots (env' := [(8, _), (6, _), (7, _)]) [8, 6, 7] rfl (fun _ => rfl) ?_
      refine nx_againB (e' := [(8, _)]) (m := _) (H' := _) (by exact ⟨i + 1, s', rfl, ⟨by omega, (hE.resolve_right (fun h => he h.1)).2⟩, rfl, rfl⟩) ?hm_3 ?hp_3
      case hm_3 => omega
      case hp_3 => repeat (first | exact Sub.refl _ | exact Sub.nil _ | refine Sub.cons (by repeat (first | exact One.here _ _ | apply One.there)) ?_ | refine Sub.drop _ ?_)
  ·
    have ei : i = n := by omega
    subst ei
    refine at_exit ?_
    refine nx_thru (by intro h; cases h) ?_
    refine nx_thru (by intro h; cases h) ?_
    refine nx_block_exit ?_
    refine nx_next ?_
    refine at_seq ?_
    refine at_region ?_
    refine op_w (p_assign (fun _ => rfl)) rfl rfl ?_
    refine ops_nil ?_
    refine nx_slots (env' := [(2, _)]) [2] rfl (fun _ => rfl) ?_
    refine nx_next ?_
    refine at_ret ?_
    refine nx_end1 (H' := _) rfl Tryd.results24 (fun _ => rfl) (by exact ⟨0, s, rfl, rfl, .inl ⟨rfl, hI⟩⟩) ?hp_4
    case hp_4 => repeat (first | exact Sub.refl _ | exact Sub.nil _ | refine Sub.cons (by repeat (first | exact One.here _ _ | apply One.there)) ?_ | refine Sub.drop _ ?_)

theorem sat_fresh {u w w' : World} {H : Hp} (h : Sat u H w) (hb : Below w.heap.size w w') {g : Nat} {o : Obj} (hg : w.heap.size ≤ g) (ho : w'.heap[g]? = some o) : Sat u ([(g, o)] :: H) w' := by
  have h2 := h.below hb
  refine ⟨h2.os, h2.tape, h2.output, ?_, ?_⟩
  · simp only [List.flatten_cons, List.singleton_append, List.map_cons, List.nodup_cons]
    refine ⟨fun hm => ?_, h.nodup⟩
    obtain ⟨p, hp, e⟩ := List.mem_map.1 hm
    have := h.lt hp
    omega
  · intro p hp
    simp only [List.flatten_cons, List.singleton_append, List.mem_cons] at hp
    rcases hp with rfl | hp
    · exact ho
    · exact h2.get p hp
theorem sat_own {u w w' : World} {H : Hp} (h : Sat u H w) (hb : Below w.heap.size w w') {e n : Nat} {v : Value} {xs : List Value} (ho : w'.ownsRow w.heap.size e 1 v n xs) : ∃ s', Row e v xs s' ∧ Sat u (s' :: H) w' := by
  obtain ⟨hl, ⟨rfl, rfl⟩ | ⟨g, cap, cur, rfl, hg, hc, h1, h2, h3, h4⟩⟩ := ho
  · have : xs = [] := List.eq_nil_of_length_eq_zero (by omega)
    subst this
    exact ⟨[], row_nil e, (h.below hb).sub ⟨[], by simp⟩⟩
  · have hn : n = xs.length := by omega
    subst hn
    exact ⟨[(g, .cells cur e (0, 0))], .inr ⟨g, cap, cur, (0, 0), rfl, rfl, h1, h2, by omega, by simpa using h4, free_zero _⟩, sat_fresh h hb hg hc⟩
theorem clone_spec (v : Value) (rs : List (List UInt8)) (sr : List Chunk) (hr : Row 9 v (rs.map strV) sr) (hb : rs.length ≤ 1073741824) :
    Does Tryd.prog 30 #[v] [sr] (fun r H' => ∃ sr', Row 9 r (rs.map strV) sr' ∧ H' = [sr', sr]) := fun u R w hs => by
  rcases hr with ⟨rfl, hx, rfl⟩ | ⟨g, cap, cur, z, rfl, rfl, hle, hcm, hcs, htk, hfr⟩
  · refine (Tryd.slices_Clone_string_nil 0 0 w).mono ?_
    rintro e w' ⟨rfl, rfl⟩
    exact .inl ⟨_, [[], []], rfl, ⟨[], by rw [hx]; exact row_nil _, rfl⟩, hs.sub ⟨[], by simp⟩⟩
  · rw [List.length_map] at hle ⊢
    rcases Nat.eq_zero_or_pos rs.length with h0 | h0
    · have hx : rs = [] := List.eq_nil_of_length_eq_zero h0
      subst hx
      refine (Tryd.slices_Clone_string_zero ⟨g, 0, none⟩ cap w).mono ?_
      rintro e w' ⟨v', rfl, ho, _, hbl⟩
      obtain ⟨s', hrow, hsat⟩ := sat_own hs hbl ho
      exact .inl ⟨_, [s', _], rfl, ⟨s', hrow, rfl⟩, by simpa using hsat⟩
    · have hg := hs.get (g, .cells cur 9 z) (by simp)
      have hin : CellsIn cur 0 (rs.map strV) := by unfold CellsIn; rw [List.drop_zero]; exact htk
      refine (Tryd.slices_Clone_string g 0 rs.length cap (rs.map str) w (by simp) (by omega) (fun j hj => ?_)).mono ?_
      · have := cell_in hg hin j (.string ((rs.map str).getD j ByteArray.empty)) (by
          rw [List.length_map] at hj
          rw [List.getElem?_map, List.getElem?_eq_getElem hj, List.getD_eq_getElem?_getD, List.getElem?_map, List.getElem?_eq_getElem hj]; rfl)
        exact this
      · rintro e w' ⟨v', rfl, ho, _, hbl⟩
        have e1 : ((rs.map str).take rs.length).map Value.string = rs.map strV := by
          rw [List.take_of_length_le (by simp), List.map_map]; rfl
        rw [e1] at ho
        obtain ⟨s', hrow, hsat⟩ := sat_own hs hbl ho
        exact .inl ⟨_, [s', _], rfl, ⟨s', hrow, rfl⟩, by simpa using hsat⟩

theorem records_spec (jp : Nat) (v c1 c2 c3 c4 : Value) (rs : List (List UInt8)) (sr : List Chunk) (Tt : TypeId) (hr : Row 9 v (rs.map strV) sr) (hb : rs.length ≤ 1073741824) :
    Does Tryd.prog 13 #[.pointer (some ⟨jp, 0, none⟩)] [[(jp, .cells #[v, c1, c2, c3, c4] Tt (0, 0))], sr] (fun r H' => ∃ sr', Row 9 r (rs.map strV) sr' ∧ H' = [[(jp, .cells #[v, c1, c2, c3, c4] Tt (0, 0))], sr', sr]) := by
  refine spec_enter Tryd.func13 rfl Tryd.ntmps13 rfl ?_
  intro u R
  refine at_slots (env' := [(0, _)]) [0] rfl (fun _ => rfl) ?_
  refine at_seq ?_
  refine at_region ?_
  refine op_w (p_assign (fun _ => rfl)) rfl rfl ?_
  refine ops_nil ?_
  refine nx_slots (env' := [(0, _)]) [0] rfl (fun _ => rfl) ?_
  refine nx_next ?_
  refine at_seq ?_
  refine at_seq ?_
  refine at_region ?_
  refine op_w (p_move (fun _ => rfl)) rfl rfl ?_
  first | refine op_w (p_eql_nil_nil Tryd.underlying29 (fun _ => rfl) (fun _ => rfl)) rfl rfl ?_ | refine op_w (p_eql_ptr_nil Tryd.underlying29 (fun _ => rfl) (fun _ => rfl)) rfl rfl ?_
  refine ops_nil ?_
  refine nx_slots (env' := [(0, _), (4, _)]) [0, 4] rfl (fun _ => rfl) ?_
  refine nx_next ?_
  refine at_if_bool (fun _ => rfl) (fun hc1 => ?_) (fun hc1 => ?_)
  ·
    cases hc1
  ·
    refine at_skip ?_
    refine nx_next ?_
    refine at_seq ?_
    refine at_region ?_
    refine op_w (p_move (fun _ => rfl)) rfl rfl ?_
    first | refine op_w (p_nilCheck (fun _ => rfl)) rfl rfl ?_ | refine op_w (p_nilCheck_iface (fun _ => rfl)) rfl rfl ?_
    first | refine op_w (p_fieldAddr0 (off := 0) Tryd.underlying58 rfl rfl Tryd.sizeOf56 (fun _ => rfl)) rfl rfl ?_ | refine op_w (p_fieldAddr1 (off := 0) Tryd.underlying58 rfl rfl Tryd.sizeOf56 (fun _ => rfl)) rfl rfl ?_
    first | refine op_w (p_fieldAddr0 (off := 0) Tryd.underlying56 rfl rfl Tryd.sizeOf22 (fun _ => rfl)) rfl rfl ?_ | refine op_w (p_fieldAddr1 (off := 0) Tryd.underlying56 rfl rfl Tryd.sizeOf22 (fun _ => rfl)) rfl rfl ?_
    refine op_r (by repeat (first | exact Has.here _ | apply Has.there)) (p_load Tryd.isAgg22 (fun _ => rfl) (by rfl)) rfl rfl ?_
    refine ops_eff (fun _ => rfl) (fits_of rfl) rfl (w_call (vs := [_]) (fun _ => rfl) Tryd.call30 (fun _ => rfl) rfl (clone_spec _ rs sr hr hb) (by repeat (first | exact Pull.nil _ | (apply Pull.cons; (focus (repeat (first | exact One.here _ _ | apply One.there))))))) ?_ no_pan
    rintro _ _ ⟨_, ⟨sr', hrr, rfl⟩, rfl⟩
    refine op_w (p_assign (fun _ => rfl)) rfl rfl ?_
    refine ops_nil ?_
    refine nx_slots (env' := [(2, _)]) [2] rfl (fun _ => rfl) ?_
    refine nx_next ?_
    refine at_ret ?_
    refine nx_end1 (H' := _) rfl Tryd.results13 (fun _ => rfl) (by exact ⟨sr', hrr, rfl⟩) ?hp_1
    case hp_1 => repeat (first | exact Sub.refl _ | exact Sub.nil _ | refine Sub.cons (by repeat (first | exact One.here _ _ | apply One.there)) ?_ | refine Sub.drop _ ?_)

end Go.Proofs.YtddblcjcodejaaaDoor
