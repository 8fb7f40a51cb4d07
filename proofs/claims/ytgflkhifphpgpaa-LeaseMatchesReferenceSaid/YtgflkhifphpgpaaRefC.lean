/- The reference table of layer 16: Fill. -/
import Derived.Test.YtgflkhifphpgpaaRefB
import Derived.Deep.RegionLaw
import Derived.Deep.RegionLawGrows
namespace Go.Proofs.Ytgflkhifphpgpaa
open Go Go.RowKit Gw
open Go.ChangeMaps (setBlock)
set_option maxHeartbeats 1000000

def rfitsA (k : ByteArray) (tok : Int) (R : RL) : Bool := match mlook k R with | some x => decide (x.tok = tok) | none => false
def rfillB (tok p : Int) (o : Option Ls) : Bool := match o with | some x => decide (x.tok = tok) && decide (x.bar ≤ p) | none => false
def rfillR (k : ByteArray) (tok : Int) (R : RL) : RL := if rfitsA k tok R then mdel k R else R
theorem run_append_zero {P : Program} (w : World) (t ty e : TypeId) (i : TypeInfo) (ht : P.underlying t = some (.slice e)) (hi : P.info? e = some i) (ao a2 : Option Addr) (n cap c : Nat) (hn : n ≤ cap) :
    (Builtin.append_ #[t, t] ty #[.slice ao n cap, .slice a2 0 c]).run P w = .ok (.slice ao n cap) w := by
  cases a2 with
  | none => cases ao <;> simp [Builtin.append_, run_underlying ht, sizeOf, typeInfo, hi, Builtin.lenOf, Builtin.firstCells, hn, storeCells]
  | some a =>
    have hf := run_firstCells_some (P := P) w i.size 0 a 0 c [] (by simp) (fun j u h => by simp at h)
    cases ao <;> simp [Builtin.append_, run_underlying ht, sizeOf, typeInfo, hi, Builtin.lenOf, hn, hf, storeCells]
theorem step_append_zero {P : Program} {ops : Array Oper} {o : Oper} {a : Act} {w : World} {K : Act → World → Prop} {Q : Exit → Act → World → Prop} {E : Prop}
    (hg : o.guard = none) (s x : Operand) (t : TypeId) (ho : o.op = .call { callee := .builtin .append, args := #[s, x], argTypes := #[t, t] }) (e : TypeId) (i : TypeInfo) (ht : P.underlying t = some (.slice e)) (hi : P.info? e = some i)
    (ao a2 : Option Addr) (n cap c : Nat) (hn : n ≤ cap) (hs : a.eval s = .slice ao n cap) (hx : a.eval x = .slice a2 0 c) (h : K (a.put o.dst (.slice ao n cap)) w) :
    if Region.wanted o (yielded ops a.tmps) = true then Oper.wp P o a w K Q else E := by
  have hw : Region.wanted o (yielded ops a.tmps) = true := by simp [Region.wanted, hg]
  rw [if_pos hw]
  have hr := run_append_zero (P := P) w t o.type e i ht hi ao a2 n cap c hn
  unfold Oper.wp execOp
  simp only [ho, resolve, invoke, builtin, Sem.run_bind, Sem.run_pure, Result.andThen_ok, List.map_toArray, List.map_cons, List.map_nil, hs, hx, hr]
  exact h
theorem RowR.of_own {w : World} {base : Nat} {v : Value} {R : RL} (h : w.ownsRow base 60 4 v R.length (rcells R)) : RowR w v R ∧ ∀ g, v.ownBlock = some g → base ≤ g := by
  rcases h.2 with ⟨rfl, h0⟩ | ⟨g, cap, cur, rfl, hb, hh, hc, _, hs, ht⟩
  · exact ⟨.inl ⟨rfl, List.eq_nil_of_length_eq_zero h0⟩, fun g h => by cases h⟩
  · refine ⟨.inr ⟨g, cap, cur, rfl, hc, hh, Nat.le_of_eq hs.symm, ht⟩, fun g' h => ?_⟩
    have : g = g' := by simpa [Value.ownBlock] using h
    omega
theorem RowR.reads {w : World} {g cap : Nat} {R : RL} (h : RowR w (.slice (some ⟨g, 0, none⟩) R.length cap) R) : ∀ j u, (rcells R)[j]? = some u → w.cell? ⟨g, j, none⟩ = some u := by
  rcases h with ⟨h, _⟩ | ⟨g', cap', c, h, h1, h2, h3, h4⟩
  · cases h
  · intro j u hu
    simp only [Value.slice.injEq, Option.some.injEq, Addr.mk.injEq, and_true, true_and] at h
    obtain ⟨rfl, rfl⟩ := h
    refine cell_of_block h2 ?_
    rw [← h4, List.getElem?_take] at hu
    split at hu
    · simpa using hu
    · cases hu
/-- The receiver's slice is replaced. -/
theorem row_new {B : Nat} {w w' : World} {b : Nat} {sv v' : Value} {R R' : RL} {n : Int} (hT : RefT B w b sv R n) (hK : Keep (fun _ => False) w w') (hr : RowR w' v' R') (hv : ∀ g, v'.ownBlock = some g → sv.ownBlock = some g ∨ w.heap.size ≤ g)
    (hs : R'.Pairwise ltB) (ht : ∀ q ∈ R', 0 ≤ q.2.began ∧ q.2.began ≤ maxInt) (hl : R'.length ≤ 1000000) : RPost B b sv R' n w (w'.setCell ⟨b, 0, none⟩ v') := by
  have hhd := hK.get hT.hd (fun x => x)
  have hbl := lt_of_get hT.hd
  have hne : v'.ownBlock ≠ some b := by
    intro e
    rcases hv b e with h | h
    · exact hT.ne h
    · omega
  refine ⟨v', ⟨?_, ?_, ?_, hne, hs, ht, hT.n0, hT.n1, hl⟩, ?_, ?_⟩
  · have := hp_setCell_same (i := 0) v' hhd
    simpa using this
  · exact hr.same fun g hg => Below.heap_setCell _ _ _ _ (fun e => hne (by rw [hg]; exact congrArg some e))
  · rintro i (rfl | hi)
    · exact hT.low _ (.inl rfl)
    · rcases hv i hi with h | h
      · exact hT.low i (.inr h)
      · exact Nat.le_trans hT.size h
  · exact (hK.mono fun _ h => h.elim).setCell _ _ fun _ => .inl rfl
  · rintro i (rfl | hi)
    · exact .inl (.inl rfl)
    · rcases hv i hi with h | h
      · exact .inl (.inr h)
      · exact .inr h
theorem RPost.drew {B b : Nat} {sv : Value} {R' : RL} {n' : Int} {w w' : World} (h : RPost B b sv R' n' w w') : RPost B b sv R' n' w w'.drew := by
  obtain ⟨sv', h1, h2, h3⟩ := h
  exact ⟨sv', h1.keep (Keep.refl (fun _ => False) w').drew (fun _ _ x => x), h2.drew, h3⟩
theorem row_take {w : World} {g cap : Nat} {R : RL} (h : RowR w (.slice (some ⟨g, 0, none⟩) R.length cap) R) (i : Nat) (hi : i ≤ R.length) : RowR w (.slice (some ⟨g, 0, none⟩) i i) (R.take i) := by
  rcases h with ⟨h, _⟩ | ⟨g', cap', c, h, h1, h2, h3, h4⟩
  · cases h
  · simp only [Value.slice.injEq, Option.some.injEq, Addr.mk.injEq, and_true, true_and] at h
    obtain ⟨rfl, rfl⟩ := h
    have hl : (R.take i).length = i := by rw [List.length_take]; omega
    refine .inr ⟨g, i, c, by rw [hl], by rw [hl]; exact Nat.le_refl _, h2, by omega, ?_⟩
    rw [hl, rcells_take, ← h4, List.take_take, Nat.min_eq_left (by omega)]
theorem srt_erase {R : RL} (h : R.Pairwise ltB) (i : Nat) : (R.take i ++ R.drop (i + 1)).Pairwise ltB := by
  refine h.sublist ?_
  rw [← List.eraseIdx_eq_take_drop_succ]
  exact List.eraseIdx_sublist _ _
theorem fill_same {B : Nat} {w : World} {b g cap i : Nat} {k : ByteArray} {x : Ls} {tok : Int} {R : RL} {n : Int} (hT : RefT B w b (.slice (some ⟨g, 0, none⟩) R.length cap) R n) (hi : R[i]? = some (k, x)) (ht : x.tok = tok) (hm : R.length - (i + 1) = 0) :
    RPost B b (.slice (some ⟨g, 0, none⟩) R.length cap) (rfillR k tok R) n w (w.setCell ⟨b, 0, none⟩ (.slice (some ⟨g, 0, none⟩) i i)) := by
  have hlt : i < R.length := (List.getElem?_eq_some_iff.1 hi).1
  have e : rfillR k tok R = R.take i := by
    unfold rfillR rfitsA
    rw [look_of hT hi]
    simp only [ht, decide_true, if_true]
    rw [mdel_erase hT.keys hi, List.drop_eq_nil_of_le (by omega), List.append_nil]
  rw [e]
  have hs : (R.take i).Sublist R := List.take_sublist _ _
  exact row_new hT (Keep.refl _ w) (row_take hT.row i (by omega)) (fun j hj => .inl hj) (hT.srt.sublist hs) (fun q hq => hT.times q (hs.subset hq)) (Nat.le_trans hs.length_le hT.len)
theorem fill_grow {B : Nat} {w w2 : World} {b g cap i : Nat} {k : ByteArray} {x : Ls} {tok : Int} {R : RL} {n : Int} {v' : Value} (hT : RefT B w b (.slice (some ⟨g, 0, none⟩) R.length cap) R n) (hi : R[i]? = some (k, x)) (ht : x.tok = tok)
    (hown : w2.ownsRow w.heap.size 60 4 v' (i + (R.length - (i + 1))) (rcells (R.take i) ++ rcells (R.drop (i + 1)))) (hg : w.drew.grownBy w2 none) :
    RPost B b (.slice (some ⟨g, 0, none⟩) R.length cap) (rfillR k tok R) n w (w2.setCell ⟨b, 0, none⟩ v') := by
  have hlt : i < R.length := (List.getElem?_eq_some_iff.1 hi).1
  have e : rfillR k tok R = R.take i ++ R.drop (i + 1) := by
    unfold rfillR rfitsA
    rw [look_of hT hi]
    simp only [ht, decide_true, if_true]
    rw [mdel_erase hT.keys hi]
  rw [e]
  have hs : (R.take i ++ R.drop (i + 1)).Sublist R := by rw [← List.eraseIdx_eq_take_drop_succ]; exact List.eraseIdx_sublist _ _
  have hl : (R.take i ++ R.drop (i + 1)).length = i + (R.length - (i + 1)) := by rw [List.length_append, List.length_take, List.length_drop]; omega
  rw [← rcells_append, ← hl] at hown
  obtain ⟨h1, h2⟩ := RowR.of_own hown
  exact row_new hT (Keep.grown (S := fun _ => False) (Keep.refl _ w).drew hg (fun k h => by cases h)) h1 (fun j hj => .inr (h2 j hj)) (hT.srt.sublist hs) (fun q hq => hT.times q (hs.subset hq)) (Nat.le_trans hs.length_le hT.len)
theorem leaseInf : (Try.prog.info? 60).map (fun i => (i.zero, i.size, i.bytes)) = some (some (.agg #[.string ByteArray.empty, .int .i64 0, .int .i64 0, .int .i64 0]), 4, 40) := by kernel_rfl
theorem wp_append_zero {P : Program} (w : World) {o : Oper} {a : Act} {K : Act → World → Prop} {Q : Exit → Act → World → Prop} (s x : Operand) (t : TypeId)
    (ho : o.op = .call { callee := .builtin .append, args := #[s, x], argTypes := #[t, t] }) (e : TypeId) (i : TypeInfo) (ht : P.underlying t = some (.slice e)) (hi : P.info? e = some i)
    (ao a2 : Option Addr) (n cap c : Nat) (hn : n ≤ cap) (hs : a.eval s = .slice ao n cap) (hx : a.eval x = .slice a2 0 c) (h : K (a.put o.dst (.slice ao n cap)) w) : o.wp P a w K Q := by
  have hr := run_append_zero (P := P) w t o.type e i ht hi ao a2 n cap c hn
  unfold Oper.wp execOp
  simp only [ho, resolve, invoke, builtin, Sem.run_bind, Sem.run_pure, Result.andThen_ok, List.map_toArray, List.map_cons, List.map_nil, hs, hx, hr]
  exact h
theorem wpList_append_zero {P : Program} (w : World) {ops : Array Oper} {rest : List Oper} {o : Oper} {a : Act} {Q : Exit → Act → World → Prop} (hgd : o.guard = none) (s x : Operand) (t : TypeId)
    (ho : o.op = .call { callee := .builtin .append, args := #[s, x], argTypes := #[t, t] }) (e : TypeId) (i : TypeInfo) (ht : P.underlying t = some (.slice e)) (hi : P.info? e = some i)
    (ao a2 : Option Addr) (n cap c : Nat) (hn : n ≤ cap) (hs : a.eval s = .slice ao n cap) (hx : a.eval x = .slice a2 0 c) (h : wpList P ops Q rest (a.put o.dst (.slice ao n cap)) w) : wpList P ops Q (o :: rest) a w :=
  wpList_plain hgd fun _ hK => wp_append_zero w s x t ho e i ht hi ao a2 n cap c hn hs hx (hK _ _ h)

theorem rfill_calls (B : Nat) (k : ByteArray) (tok p : Int) (b : Nat) (sv : Value) (R : RL) (n : Int) (w : World) (hT : RefT B w b sv R n) :
    Calls Try.prog 19 #[.pointer (some ⟨b, 0, none⟩), .string k, .int .i64 tok, .int .i64 p] w fun e w' => e = .returned (.bool (rfillB tok p (mlook k R))) ∧ RPost B b sv (rfillR k tok R) n w w' := by
  have HT := Lib.hid hT
  obtain ⟨ao, cap, rfl, hcap, hnil, hel⟩ := hT.row.form
  have hcb : w.cell? ⟨b, 0, none⟩ = some (.slice ao R.length cap) := cell_of_block hT.hd rfl
  have hfb : w.frozen? ⟨b, 0, none⟩ = false := free_of_block hT.hd
  have HEL := Lib.hid hel
  have hlen := hT.len
  clear hT hel hnil
  go_enter Try.func19, Try.ntmps19
  go_wp2_with fail
  refine (find_calls B k b _ R n w HT.out).mono ?_
  rintro e w' (⟨i, x, rfl, hi, rfl⟩ | ⟨rfl, hn, rfl⟩)
  · obtain ⟨g, rfl, hown, _, hc1, _, hc3⟩ := HEL.out i _ hi
    have hlt : i < R.length := (List.getElem?_eq_some_iff.1 hi).1
    simp only at hc1 hc3
    have HL := Lib.hid (look_of HT.out hi)
    have HI := Lib.hid hi
    clear hi hown
    by_cases ht : x.tok = tok
    · have HTOK := Lib.hid ht
      have ht2 : (x.tok != tok) = false := by simpa using ht
      clear ht
      go_wp2_with fail
      have hwr : IntKind.i64.wrap ((i : Int) + 1) = (i : Int) + 1 := by rw [IntKind.wrap_i64]; omega
      have hp0 : (0 : Int) ≤ (i : Int) + 1 := by omega
      have hp1 : (i : Int) + 1 ≤ (R.length : Int) := by omega
      have hp2 : ((i : Int) + 1).toNat = i + 1 := by omega
      have hic : i ≤ cap := by omega
      obtain ⟨i0, hi0, hz0, hz1, hz2⟩ := info_parts leaseInf
      have hret : Hid (rfillB tok p (mlook k R) = decide (x.bar ≤ p)) := by
        show rfillB tok p (mlook k R) = _
        unfold rfillB; rw [HL.out]; simp only [HTOK.out, decide_true, Bool.true_and]
      by_cases hm : R.length = i + 1
      · have hm0 : R.length - (i + 1) = 0 := by omega
        have HP := Lib.hid (fill_same HT.out HI.out HTOK.out hm0).drew
        clear hm
        go_wp2_with fail
        go_region_law (refine step_append_zero rfl (.tmp 43) (.tmp 50) 36 rfl 60 i0 Try.underlying36 hi0 (some ⟨g, 0, none⟩) (if cap = i + 1 then some ⟨g, 0, none⟩ else some ⟨g, (i + 1) * 4, none⟩) i i (cap - (i + 1)) (Nat.le_refl _) (by simp [Act.eval, Act.put]) (by simp only [Act.eval, Act.put]; simp) ?_)
        all_goals go_wp2
        all_goals go_ret
        all_goals exact ⟨by rw [hret.out]; rfl, HP.out⟩
      · have hm1 : ¬ cap = i + 1 := by omega
        have hrd := RowR.reads HT.out.row
        have hlo : Hid ((rcells (R.take i)).length = i * 4) := by
          show (rcells (R.take i)).length = i * 4
          rw [rcells_length, List.length_take, Nat.min_eq_left (by omega)]
        have hno : Hid ((rcells (R.drop (i + 1))).length = (R.length - (i + 1)) * 4) := by
          show (rcells (R.drop (i + 1))).length = _
          rw [rcells_length, List.length_drop]
        have hld : Hid (∀ q, (some (⟨g, 0, none⟩ : Addr)) = some q → ∀ j u, (rcells (R.take i))[j]? = some u → w.drew.cell? (q.add j) = some u) := by
          intro q hq j u hu
          cases hq
          rw [add_mk, Nat.zero_add]
          refine hrd j u ?_
          rw [rcells_take, List.getElem?_take] at hu
          split at hu
          · exact hu
          · cases hu
        have hnd : Hid (∀ j u, (rcells (R.drop (i + 1)))[j]? = some u → w.drew.cell? ((⟨g, (i + 1) * 4, none⟩ : Addr).add j) = some u) := by
          intro j u hu
          rw [add_mk]
          refine hrd _ u ?_
          rw [rcells_drop, List.getElem?_drop] at hu
          exact hu
        have HFG := Lib.hid (fun (v' : Value) (w2 : World) => fill_grow (v' := v') (w2 := w2) HT.out HI.out HTOK.out)
        have hf1 : Hid (i < i + (R.length - (i + 1))) := by show i < i + (R.length - (i + 1)); omega
        have hf2 : Hid (0 < i + (R.length - (i + 1))) := by show 0 < i + (R.length - (i + 1)); omega
        have hf3 : Hid (i + (R.length - (i + 1)) ≤ maxLen) := by show i + (R.length - (i + 1)) ≤ maxLen; unfold maxLen; omega
        have hf4 : Hid ((i + (R.length - (i + 1))) * 40 ≤ 140737488355328) := by show (i + (R.length - (i + 1))) * 40 ≤ 140737488355328; omega
        clear hrd hm
        go_wp2_with fail
        go_region_law (refine step_append_grows rfl (.tmp 43) (.tmp 50) 36 rfl 60 i0 _ 4 40 Try.underlying36 hi0 hz0 hz1 hz2 rfl (by decide) (some ⟨g, 0, none⟩) i i (rcells (R.take i)) (by simp [Act.eval, Act.put]) (fun h => by cases h) hlo.out hld.out ⟨g, (i + 1) * 4, none⟩ (R.length - (i + 1)) (cap - (i + 1)) (rcells (R.drop (i + 1))) (by simp [Act.eval, Act.put]) hno.out hnd.out rcells_one hf1.out hf3.out hf4.out ?_; intro v' w2 hown hgrow; have HFP := Lib.hid (HFG.out v' w2 hown hgrow); have hcb2 : w2.cell? ⟨b, 0, none⟩ = some (.slice (some ⟨g, 0, none⟩) R.length cap) := (World.cell?_of_block (hgrow.block b (World.block_lt_of_cell? _ _ hcb) (by simp))).trans hcb; have hfb2 : w2.frozen? ⟨b, 0, none⟩ = false := (World.frozen?_of_block (hgrow.block b (World.block_lt_of_cell? _ _ hcb) (by simp))).trans hfb; obtain ⟨g2, cap2, rfl, _, _⟩ := hown.form hf2.out)
        all_goals go_wp2
        all_goals go_ret
        all_goals exact ⟨by rw [hret.out]; rfl, HFP.out⟩
    · have HTOK := Lib.hid ht
      have ht2 : (x.tok != tok) = true := by simpa using ht
      clear ht
      go_wp2
      go_ret
      have e1 : rfitsA k tok R = false := by unfold rfitsA; rw [HL.out]; simpa using HTOK.out
      have e2 : rfillB tok p (mlook k R) = false := by unfold rfillB; rw [HL.out]; simp only [Bool.and_eq_false_iff]; left; simpa using HTOK.out
      rw [e2, show rfillR k tok R = R by unfold rfillR; rw [e1]; rfl]
      exact ⟨rfl, _, HT.out, Keep.refl _ _, fun i hi => .inl hi⟩
  · have HL := Lib.hid hn
    clear hn
    go_wp2
    go_ret
    have e1 : rfitsA k tok R = false := by unfold rfitsA; rw [HL.out]
    have e2 : rfillB tok p (mlook k R) = false := by unfold rfillB; rw [HL.out]
    rw [e2, show rfillR k tok R = R by unfold rfillR; rw [e1]; rfl]
    exact ⟨rfl, _, HT.out, Keep.refl _ _, fun i hi => .inl hi⟩
end Go.Proofs.Ytgflkhifphpgpaa
