/- The statement StatetreeProofsMatchReference (its tied card): for every input the law returns true, and the input reads as it did. Conditions: the listed package-level variables hold what the program's text lays (tied by the card). -/
import Derived.Test.YtjeepldonhgohaaGreatDoorEz
import Derived.Test.YtjeepldonhgohaaGreatDoorCards
import Derived.Test.YtjeepldonhgohaaGreatDoorTie
import Derived.Test.YtjeepldonhgohaaGreatDoorTkB
import Derived.Test.YtjeepldonhgohaaGreatDoorTk9
import Derived.LaidMore
import Derived.Lay
import Derived.SevenTiedAt
import Derived.Stop.Joined
import Derived.ChangeMaps5

namespace Go.Proofs.YtjeepldonhgohaaGreatDoor.statetreeProofsMatchReference
open Go.Proofs.Tryz
open Go.ChangeShapes Go.WideShapes Go.ChangeAt Go.RowKit
open Go Gw
set_option linter.unusedVariables false

theorem own : ownKnob Tryz.prog.godebug = none := by kernel_rfl
theorem laidOut : laidOutB Tryz.prog = true := by kernel_rfl
set_option maxRecDepth 100000 in
theorem lifted (os : Os) (started : os.Started) (H : Type) (enc : TypeId × Value → H) :
    ReturnsInHanded {} Tryz.checked os 4 .any (fun w args => (Rows.statetreeProofsMatchReferenceSpec.pre enc Tryz.prog Tryz.f4 Rows.statetreeProofsMatchReferenceRow.domain false w args ∧ laidMetH Tryz.prog Rows.statetreeProofsMatchReferenceRow.laid w) ∧ sizedMet enc Tryz.prog Tryz.f4 (OpenSpec.ofChange Rows.statetreeProofsMatchReferenceSpec) false w args)
      (Rows.statetreeProofsMatchReferenceSpec.post enc Tryz.prog Tryz.f4 false true false false) := by
  refine returnsInHanded_of_change_and (C := Tryz.checked) (X := fun w _ => laidMetH Tryz.prog Rows.statetreeProofsMatchReferenceRow.laid w) (fun _ _ _ hh h => h.of_heap hh) own started (by kernel_rfl) func4
    (ChangeSpec.witness_shaped (enc := enc) (C := Tryz.checked) (os := os) (X := fun w _ => laidMetH Tryz.prog Rows.statetreeProofsMatchReferenceRow.laid w) false (World.laidAll Tryz.prog os Rows.statetreeProofsMatchReferenceRow.laid) #[.agg #[.int .i64 0, .int .i64 0, .int .i64 0, .int .i64 0, .int .i64 0, .int .i64 0, .slice none 0 0, .slice none 0 0, .slice none 0 0], .string ByteArray.empty, .slice none 0 0, .agg #[.int .i64 0, .int .i64 0, .int .i64 0, .int .i64 0], .agg #[.int .i64 0, .int .i64 0, .int .i64 0]] 8 (World.laidAll_os _ _ _)
      (World.shaped_of_ZipB (by kernel_rfl) (by kernel_rfl)) (by kernel_rfl) (by kernel_rfl) (by kernel_rfl)
      (by rw [MakeChecks.laidMetH_plain _ _ _ (by kernel_rfl)]; exact laidMet_laidAll _ (by kernel_rfl) (by kernel_rfl))) ?_
  intro W base args ds gs before hval0 hW hc hzz hL _
  have hval : ∀ (j : Nat) t v, Tryz.f4.params[j]? = some t → args[j]? = some v → Value.okWide Tryz.prog W .any base t v := hval0
  have hW' := hW
  obtain ⟨p, q, hA0, hV, rfl, hfz, hnd⟩ := hW
  have hA : DataW.TrodAll enc Tryz.prog W 0 (fun _ => true) true Tryz.f4.params.toList args.toList ds p := hA0
  rw [Tryz.params4] at hA hval
  obtain ⟨v0, vs0, d0, ds0, p0, q0, hargs, rfl, rfl, h0, r0⟩ := trodAll_cons hA
  obtain ⟨v1, vs1, d1, ds1, p1, q1, rfl, rfl, rfl, h1, r1⟩ := trodAll_cons r0
  obtain ⟨v2, vs2, d2, ds2, p2, q2, rfl, rfl, rfl, h2, r2⟩ := trodAll_cons r1
  obtain ⟨v3, vs3, d3, ds3, p3, q3, rfl, rfl, rfl, h3, r3⟩ := trodAll_cons r2
  obtain ⟨v4, vs4, d4, ds4, p4, q4, rfl, rfl, rfl, h4, r4⟩ := trodAll_cons r3
  obtain ⟨rfl, rfl, rfl⟩ := trodAll_nil r4
  obtain rfl : args = #[v0, v1, v2, v3, v4] := by cases args; simp_all
  obtain ⟨rfl, rfl⟩ := trodVars_none hV
  obtain ⟨Tg, zg, b4⟩ := of_laid1 (r := _) (by rw [MakeChecks.laidMetH_plain _ _ _ (by kernel_rfl)] at hL; exact hL)
  obtain ⟨cs0, rfl, cz0⟩ := okWide_str underlying37 (hval 0 37 v0 rfl rfl)
  rw [cProof9] at cz0
  have k0 := h0
  have lt0 : ∀ x ∈ p0, x.block < W.heap.size := by obtain ⟨m, hm⟩ := k0; exact DataW.trod_lt m _ _ _ hm
  obtain ⟨fuel0, hf0⟩ := h0
  obtain ⟨X0, u0, u02, u03, he0, hm0, hx0⟩ := open_proof1 b4 hf0 (by simpa [Value.cells] using cz0)
  obtain rfl : cs0 = #[.int .i64 X0.tb, .int .i64 X0.cl, .int .i64 X0.lo, .int .i64 X0.hi, .int .i64 X0.ct, .int .i64 X0.fi, u0, u02, u03] := Array.toList_inj.1 (by simpa [Value.cells] using he0)
  obtain ⟨a1, rfl, rfl, rfl, w1⟩ := ChangeMaps.open_string underlying9 (hval 1 9 v1 rfl rfl) h1
  obtain ⟨s1, rfl⟩ : ∃ s, a1 = str s := ⟨_, (str_self _).symm⟩
  obtain ⟨x2, len2, cap2, rfl⟩ := okWide_slice underlying22 (hval 2 22 v2 rfl rfl)
  have k2 := h2
  have lt2 : ∀ x ∈ p2, x.block < W.heap.size := by obtain ⟨m, hm⟩ := k2; exact DataW.trod_lt m _ _ _ hm
  obtain ⟨fuel2, hf2⟩ := h2
  obtain ⟨u2, g2, hu2, hm2⟩ := open_sixes1 b4 hf2
  obtain ⟨e12, e22⟩ : u2 = .slice x2 len2 cap2 ∧ len2 = g2.length := by
    have hu : Value.slice x2 len2 cap2 = u2 := by injection hu2
    refine ⟨hu.symm, ?_⟩
    subst hu
    obtain ⟨_, _, e, _⟩ := hm2
    injection e
  subst e12 e22
  obtain ⟨cs3, rfl, cz3⟩ := okWide_arr underlying23 (hval 3 23 v3 rfl rfl)
  rw [cFour] at cz3
  have k3 := h3
  have lt3 : ∀ x ∈ p3, x.block < W.heap.size := by obtain ⟨m, hm⟩ := k3; exact DataW.trod_lt m _ _ _ hm
  obtain ⟨fuel3, hf3⟩ := h3
  obtain ⟨a3, b3, c3, e3, he3, ba3, bb3, bc3, be3⟩ := open_arr4 hf3 (by simpa [Value.cells] using cz3)
  obtain rfl : cs3 = #[.int .i64 a3, .int .i64 b3, .int .i64 c3, .int .i64 e3] := Array.toList_inj.1 (by simpa [Value.cells] using he3)
  obtain ⟨cs4, rfl, cz4⟩ := okWide_arr underlying47 (hval 4 47 v4 rfl rfl)
  rw [cThree] at cz4
  have k4 := h4
  have lt4 : ∀ x ∈ p4, x.block < W.heap.size := by obtain ⟨m, hm⟩ := k4; exact DataW.trod_lt m _ _ _ hm
  obtain ⟨fuel4, hf4⟩ := h4
  obtain ⟨na4, nb4, nc4, he49, nba4, nbb4, nbc4⟩ := open_arr3 hf4 (by simpa [Value.cells] using cz4)
  obtain rfl : cs4 = #[.int .i64 na4, .int .i64 nb4, .int .i64 nc4] := Array.toList_inj.1 (by simpa [Value.cells] using he49)
  clear hA0 hval0
  refine (law_at1 b4 (pmatch_card X0 u0 u02 u03 _ hm0 (fun s hs => Nat.le_trans (of_decide_eq_true (List.all_eq_true.1 hzz _ (mem_each (i := 0) rfl rfl (hx0 s hs)))) reach_lt) s1 x2 cap2 g2 hm2 a3 b3 c3 e3 ba3 bb3 bc3 be3 na4 nb4 nc4 nba4 nbb4 nbc4 Tg zg)).mono fun e W' ⟨he, bel⟩ => ?_
  subst he
  exact ⟨_, rfl, _, _, _, [], _, [], hW', trodAll_mk1 (shut_bool underlying4 _), (trodAll_cons_mk (Below.trod laidOut (by kernel_rfl) (of_decide_eq_true (by kernel_rfl)) k0 bel lt0) (trodAll_cons_mk (ChangeMaps.shut_string underlying9 w1) (trodAll_cons_mk (Below.trod laidOut (by kernel_rfl) (of_decide_eq_true (by kernel_rfl)) k2 bel lt2) (trodAll_cons_mk (Below.trod laidOut (by kernel_rfl) (of_decide_eq_true (by kernel_rfl)) k3 bel lt3) (trodAll_cons_mk (Below.trod laidOut (by kernel_rfl) (of_decide_eq_true (by kernel_rfl)) k4 bel lt4) trodAll_mk0))))), rfl, bel.frame _, fun h => by cases h⟩

theorem said : Rows.StatetreeProofsMatchReferenceSaid :=
  OpenClaim.holds_of_wide 4 Tryz.f4 rfl rfl rfl rfl rfl rfl rfl ⟨rfl, rfl, rfl, rfl, rfl⟩ rfl rfl rfl rfl rfl (by kernel_rfl) func4 (by kernel_rfl)
    (of_decide_eq_true (by kernel_rfl)) (by unfold Func.isWrapper; first | (rw [if_pos (by decide +kernel)]; kernel_rfl) | (rw [if_neg (by decide +kernel)]; exact ⟨rfl, rfl⟩))
    (fun os started H enc _ => lifted os started H enc)
theorem plain (f : FuncId) (fn : Func) (hf : Tryz.pinned.checked.prog.funcNamed "cachetier/cachetierlaw10.StatetreeProofsMatchReference" = some f) (hfn : Tryz.pinned.checked.prog.funcs[f]? = some fn) :
    false = Tryz.pinned.checked.prog.looks [] ∧ ∀ (j : Nat) t, fn.params[j]? = some t → Tryz.pinned.checked.prog.wantsStandIn t = false := by
  obtain rfl : f = 4 := Option.some.inj ((show Tryz.prog.funcNamed "cachetier/cachetierlaw10.StatetreeProofsMatchReference" = some 4 by kernel_rfl).symm.trans hf) |>.symm
  obtain rfl : fn = Tryz.f4 := (Option.some.inj (func4.symm.trans hfn)).symm
  refine ⟨by kernel_rfl, fun j t ht => ?_⟩
  rw [Tryz.params4] at ht
  have hm : t ∈ [37, 9, 22, 23, 47] := by have := Array.mem_of_getElem? ht; simp at this; first | (simp [this]; done) | (rcases this with h | h | h | h | h <;> simp [h]) | (rcases this with h | h | h | h <;> simp [h]) | (rcases this with h | h | h <;> simp [h]) | (rcases this with h | h <;> simp [h]) | (rcases this with h <;> simp [h])
  have hall : ([37, 9, 22, 23, 47].all fun u => !Tryz.prog.wantsStandIn u) = true := by kernel_rfl
  exact (show Tryz.prog.wantsStandIn t = false by simpa using List.all_eq_true.1 hall t hm)
/-- The card. -/
theorem proved : Rows.StatetreeProofsMatchReferenceCardSaid :=
  Claim7.holds_tied_plain_at .later [] _ _ _ _ said (fun _ h => by cases h) (by kernel_rfl) (fun _ h => by cases h) statetreeProofsMatchReference_row_tie rfl ⟨rfl, rfl⟩ (by kernel_rfl) rfl plain (by kernel_rfl)
#print axioms proved
end Go.Proofs.YtjeepldonhgohaaGreatDoor.statetreeProofsMatchReference
