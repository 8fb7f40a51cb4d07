/- Walking by chunks: a range over a function whose variables lie in memory. No function of the program is named. -/
import Derived.Test.YtjeepldonhgohaaGreatDoorEx22
import Derived.Test.YtjeepldonhgohaaGreatDoorEx6
import Derived.Scope

namespace Gw
open Go Go.RowKit
theorem at_rangeAllX {α : Type} {A : List Chunk → Prop} {P : Program} {cx : Cx} {Q : Exit → Act → World → Prop} {env : Env} {H Hit H0 R : Hp} {g : Operand} {ps : Array Tmp} {assign body : Code} {gf : FuncId} {lb : Array Value} {encs : α → Array Value} {xs : List α}
    (I : List α → Hp → Prop) (E : α → Env → Hp → Prop) (hr : cx.r = none) (hg : ∀ a, ev a env g = .func (.func gf) #[] lb) (hcall : ∀ (args : Array Value) (w : World), (callFunc gf args).run P w = .ok (.enter gf args) w)
    (hiter : IterSpecA P gf lb Hit A encs xs) (hA : ∀ pre H1 c d, I pre H1 → A ([c, d] ++ H1.flatten)) (hps : ∀ x, (encs x).size = ps.size) (hpf : (ps.toList.all fun t => Nat.blt t cx.N) = true) (hp : Pull (Hit ++ H0) H R) (h0 : I [] H0)
    (hassign : ∀ (l : Nat) (x : α) (u : World) (H : Hp), At P ⟨cx.N, [], u, some l⟩ assign (Exit.then (fun a w => ∃ e Hn, E x e Hn ∧ Is ⟨cx.N, [], u, some l⟩ (e ++ env) (Hn ++ H) a w) (fun _ _ _ => False)) ((ps.toList.zip (encs x).toList).reverse ++ env) H)
    (hbody : ∀ (l : Nat) (pre : List α) (x : α) (post : List α) (u : World) (e : Env) (Hn H1 R1 : Hp), xs = pre ++ x :: post → I pre H1 → E x e Hn → At P ⟨cx.N, [], u, some l⟩ body (RoundEnd u I (pre ++ [x]) R1) (e ++ env) (H1 ++ (Hn ++ R1)))
    (hk : ∀ (D : Nat) (H2 : Hp), I xs H2 → Nx ⟨cx.N, ⟨.collected D, #[]⟩ :: cx.D, cx.u, none⟩ (Q .normal) env ([(D, .deferred (some []))] :: (H2 ++ R))) : At P cx (.rangeFunc g ps assign body) Q env H := by
  intro a w hs
  refine wpIn_rangeFunc ?_
  intro fn hfn
  have hro : (Fx cx.r).round = none := hr
  rw [hro]
  obtain ⟨rec, hrec⟩ : ∃ rec : LoopState → Option Code → Loop, rec = fun st pe => { state := st, pending := pe, fn, tmps := (puts env a).tmps, params := ps, assign, body, defers := w.heap.size } := ⟨_, rfl⟩
  have hsat : Sat cx.u ((Hit ++ H0) ++ R) w := hs.sat.perm hp.perm
  have hsat1 : Sat cx.u ([(w.heap.size + 1, .loop (rec .ready none))] :: ([(w.heap.size, .deferred (some []))] :: (Hit ++ H0 ++ R))) ((w.alloc (.deferred (some []))).alloc (.loop (rec .ready none))) := by
    have := (hsat.alloc (.deferred (some []))).alloc (.loop (rec .ready none))
    rw [show ({ w with heap := w.heap.push (.deferred (some [])) } : World).heap.size = w.heap.size + 1 from Array.size_push _] at this
    exact this
  have hfitA : Fit a.tmps.size env := by rw [hs.size]; exact hs.fit
  refine ⟨w.heap.size + 1, [⟨.collected w.heap.size, #[]⟩], (w.alloc (.deferred (some []))).alloc (.loop (rec .ready none)), ⟨.fn (.func gf) lb, #[.func (.yield (w.heap.size + 1)) #[] #[]]⟩, (w.alloc (.deferred (some []))).alloc (.loop (rec .ready none)), gf,
    #[.func (.yield (w.heap.size + 1)) #[] #[]] ++ lb, (w.alloc (.deferred (some []))).alloc (.loop (rec .ready none)), ?_, ?_, fun _ _ => trivial, ?_, fun h => by simp [Fx, Fence.wide] at h, ?_⟩
  · rw [hrec]; exact run_enterLoop_outer _ _ _ _ _
  · simp only [resolve, puts_eval a env hfitA, hg a]
    simp [Deferred.ofValue, ev, Act.eval]
  · simp [invoke, hcall]
  · refine callsFx ?_
    have hJ := hiter (w.heap.size + 1) (fun pre s => ∃ H1, I pre H1 ∧ s = [(w.heap.size + 1, .loop (rec .ready none)), (w.heap.size, .deferred (some []))] ++ H1.flatten) (by rintro pre _ ⟨H1, h1, rfl⟩; exact hA pre H1 _ _ h1) ?_ _ ⟨H0, h0, rfl⟩
    · have hperm : ([(w.heap.size + 1, Obj.loop (rec .ready none))] :: ([(w.heap.size, Obj.deferred (some []))] :: (Hit ++ H0 ++ R))).flatten.Perm ((Hit ++ [[(w.heap.size + 1, Obj.loop (rec .ready none)), (w.heap.size, .deferred (some []))] ++ H0.flatten]) ++ R).flatten := by
        simp only [List.flatten_cons, List.flatten_append, List.singleton_append, List.cons_append, List.nil_append, List.flatten_nil, List.append_nil, List.append_assoc]
        have e : ∀ (x y : Chunk) (A B C : List Chunk), (x :: y :: (A ++ (B ++ C))).Perm (A ++ (x :: y :: (B ++ C))) := fun x y A B C => by
          refine (List.Perm.cons x List.perm_middle.symm).trans ?_
          exact List.perm_middle.symm
        exact e _ _ _ _ _
      have hs1 : Sat cx.u ((Hit ++ [[(w.heap.size + 1, Obj.loop (rec .ready none)), (w.heap.size, .deferred (some []))] ++ H0.flatten]) ++ R) ((w.alloc (.deferred (some []))).alloc (.loop (rec .ready none))) := by
        exact hsat1.perm hperm
      refine Calls.mono (hJ cx.u R _ hs1) fun e w2 he => ?_
      rcases he with ⟨v, H', rfl, ⟨s', rfl, H2, hI2, rfl⟩, hsat2⟩ | ⟨_, _, _, h, _⟩
      · -- behind the iterator
        have hsat3 : Sat cx.u ([(w.heap.size + 1, Obj.loop (rec .ready none))] :: ([(w.heap.size, .deferred (some []))] :: (H2 ++ R))) w2 := by
          refine hsat2.perm ?_
          simp
        have hl := hsat3.get (w.heap.size + 1, Obj.loop (rec .ready none)) (by simp)
        have hend := run_endLoop (P := P) hl (by rw [hrec]; simp)
        have hpd : (rec .ready none).pending = none := by rw [hrec]
        have hk' := hk w.heap.size H2 hI2 { a with defers := ⟨.collected w.heap.size, #[]⟩ :: cx.D } (w2.putObj (w.heap.size + 1) (.loop { rec .ready none with state := .exhausted }))
          ⟨hs.size, rfl, hs.fit, (hsat3.turn (o' := .loop { rec .ready none with state := .exhausted })).sub ⟨[(w.heap.size + 1, .loop { rec .ready none with state := .exhausted })], by
            simp only [List.flatten_cons]
            exact List.perm_append_comm⟩⟩
        refine ⟨_, _, hend, ?_⟩
        have key : ∀ (p : Option Code) (A : Act) (W : World), p = none → Q .normal A W → (match p with | none => Q .normal A W | some c => c.wpIn (Fx cx.r) 0 P Q A W) := fun p A W h1 h2 => by subst h1; exact h2
        refine key _ _ _ hpd ?_
        have : puts env { a with defers := ⟨.collected w.heap.size, #[]⟩ :: cx.D } = { puts env a with defers := [⟨.collected w.heap.size, #[]⟩] ++ (puts env a).defers } := by
          rw [puts_defers, puts_def, hs.defers]; rfl
        rw [this] at hk'
        exact hk'
      · exact h.elim
    · -- one round
      rintro pre x post s hxs ⟨H1, hI, rfl⟩ u R1 w1 hw1 K Kp hK
      have hw1' : Sat u ([(w.heap.size + 1, Obj.loop (rec .ready none))] :: ([(w.heap.size, .deferred (some []))] :: (H1 ++ R1))) w1 := by
        refine hw1.perm ?_
        simp
      have hl := hw1'.get (w.heap.size + 1, Obj.loop (rec .ready none)) (by simp)
      have hy := run_yield (P := P) (args := encs x) hl (by rw [hrec]; exact hps x)
      rw [hy]
      show RoundIn Fence.wide 0 P (w.heap.size + 1) _ _ _ _ w1 _
      rw [hrec]
      refine roundIn_of_wpIn (F := Fence.wide) trivial ?_
      have htm : ({ tmps := (ps.zip (encs x)).foldl (fun tmps x => match x with | (t, a) => tmps.setIfInBounds t a) (puts env a).tmps, defers := [] } : Act) = puts ((ps.toList.zip (encs x).toList).reverse ++ env) { a with defers := [] } := by
        rw [puts_append, puts_defers [] env a]
        have h1 : (ps.zip (encs x)).foldl (fun tmps x => match x with | (t, a) => tmps.setIfInBounds t a) (puts env a).tmps = (puts (ps.toList.zip (encs x).toList).reverse (puts env a)).tmps := by
          rw [← foldl_puts, ← Array.foldl_toList, Array.toList_zip]
        rw [h1, puts_defers [] _ (puts env a)]
      have hfit2 : Fit cx.N ((ps.toList.zip (encs x).toList).reverse ++ env) := by
        intro q hq
        rcases List.mem_append.1 hq with hq | hq
        · have := List.mem_reverse.1 hq
          have h2 := List.all_eq_true.1 hpf q.1 (List.of_mem_zip this).1
          simpa using h2
        · exact hs.fit q hq
      have ha := hassign (w.heap.size + 1) x u ([(w.heap.size + 1, Obj.loop (rec .ready none))] :: ([(w.heap.size, .deferred (some []))] :: (H1 ++ R1))) { a with defers := [] } w1 ⟨hs.size, rfl, hfit2, hw1'⟩
      rw [← htm] at ha
      refine wpIn_mono ha fun e a1 w2 he => ?_
      cases e <;> first | exact he | skip
      obtain ⟨e9, Hn, hE, a2, hst, rfl⟩ := he
      have hst1 : Sat u ([(w.heap.size + 1, Obj.loop (rec .ready none))] :: ([(w.heap.size, .deferred (some []))] :: (H1 ++ (Hn ++ R1)))) w2 := by
        refine hst.sat.perm ?_
        simp only [List.flatten_cons, List.flatten_append, List.singleton_append]
        refine List.perm_middle.trans (List.Perm.cons _ ?_)
        refine List.perm_middle.trans (List.Perm.cons _ ?_)
        rw [← List.append_assoc, ← List.append_assoc]
        exact List.perm_append_comm.append_right _
      have hl2 := hst1.get (w.heap.size + 1, Obj.loop (rec .ready none)) (by simp)
      refine ⟨_, run_beginRound hl2 (by rw [hrec]), ?_⟩
      have hst2 : Sat u (H1 ++ (Hn ++ ([(w.heap.size + 1, Obj.loop { rec .ready none with state := .busy })] :: ([(w.heap.size, .deferred (some []))] :: R1)))) (w2.putObj (w.heap.size + 1) (.loop { rec .ready none with state := .busy })) := by
        refine (hst1.turn (o' := .loop { rec .ready none with state := .busy })).perm ?_
        simp only [List.flatten_cons, List.flatten_append, List.singleton_append]
        rw [← List.append_assoc, ← List.append_assoc]
        refine List.Perm.trans ?_ (List.perm_middle.symm)
        refine List.Perm.cons _ ?_
        exact List.perm_middle.symm
      have hb := hbody (w.heap.size + 1) pre x post u e9 Hn H1 _ hxs hI hE a2 _ ⟨hst.size, hst.defers, hst.fit, hst2⟩
      refine wpIn_mono hb fun e a3 w3 he3 => ?_
      cases e <;> first | exact he3.elim | skip
      obtain ⟨H2, hI2, hs3⟩ := he3
      have hs3' : Sat u ([(w.heap.size + 1, Obj.loop { rec .ready none with state := .busy })] :: ([(w.heap.size, .deferred (some []))] :: (H2 ++ R1))) w3 := by
        refine hs3.perm ?_
        simp only [List.flatten_cons, List.flatten_append, List.singleton_append]
        exact List.perm_middle.trans (List.Perm.cons _ List.perm_middle)
      have hl3 := hs3'.get (w.heap.size + 1, Obj.loop { rec .ready none with state := .busy }) (by simp)
      have hend := run_endRound (P := P) none hl3
      refine ⟨_, _, hend, ?_⟩
      refine hK _ _ _ ⟨[(w.heap.size + 1, .loop (rec .ready none)), (w.heap.size, .deferred (some []))] ++ H2.flatten, rfl, rfl, H2, hI2, rfl⟩ ?_
      have hfin := hs3'.turn (o' := .loop (rec .ready none))
      have hsame : ({ { rec .ready none with state := LoopState.busy } with state := if (none : Option Code).isNone = true then LoopState.ready else .done, pending := none } : Loop) = rec .ready none := by rw [hrec]; rfl
      rw [hsame]
      refine hfin.perm ?_
      simp

/-- The end of the assignment of a round: the slots e and the blocks Hn are new. -/
theorem nx_isX {cx : Cx} {E : Env → Hp → Prop} {env e : Env} {H Hn : Hp} {Q : Exit → Act → World → Prop} (hE : E e Hn) : Nx cx ((Exit.then (fun a w => ∃ e Hn, E e Hn ∧ Is cx (e ++ env) (Hn ++ H) a w) Q) .normal) (e ++ env) (Hn ++ H) := fun a _ hs => ⟨e, Hn, hE, a, hs, rfl⟩
section
variable {F : Fence} {n : Nat} {P : Program} {Q : Exit → Act → World → Prop} {a : Act} {w : World} {b : Frame} {k : List Item} {cs : List Frame}
theorem stepR_scope {c : Code} : step P (lone (b.atR a (.code (.scope c) :: k)) cs w) = .next (lone (b.atR a (.code c :: .inScope c :: k)) cs w) :=
  step_lone_go (by simp [stepG, stepG.exec, Frame.atR])
theorem stepR_inScope {c : Code} : step P (lone (b.atR a (.inScope c :: k)) cs w) = .next (lone (b.atR a k) cs w) :=
  step_lone_go (by simp [stepG, stepG.exec, Frame.atR])
theorem wpIn_scope {c : Code} (h : c.wpIn F n P (Exit.noGoto Q) a w) : (Code.scope c).wpIn F n P Q a w := by
  intro b k cs hro hb hr
  have h0 : (lone (b.atR a (.code (.scope c) :: k)) cs w).fenced P F := fenced_calm hb hr rfl
  obtain ⟨e, a₁, w₁, hq, harr⟩ := h b (.inScope c :: k) cs hro hb hr
  cases e with
  | normal => exact ⟨.normal, a₁, w₁, hq, .head h0 stepR_scope (StepsIn.trans harr (.one (fenced_calm hb hr rfl) stepR_inScope))⟩
  | exit id' =>
    have hx : exitTo id' (.inScope c :: k) = exitTo id' k := by simp [exitTo]
    exact ⟨.exit id', a₁, w₁, hq, fun k' hk => .head h0 stepR_scope (harr.1 k' (by rw [hx]; exact hk)),
      fun hr' hk => let ⟨k₁, h1, h2⟩ := harr.2 hr' (by rw [hx]; exact hk); ⟨k₁, h1, .head h0 stepR_scope h2⟩⟩
  | goto l => exact hq.elim
  | ret => exact ⟨_, a₁, w₁, hq, .of_steps (.one h0 stepR_scope) harr⟩
  | panic ch => exact ⟨_, a₁, w₁, hq, .of_steps (.one h0 stepR_scope) harr⟩
  | outgrown => exact ⟨_, a₁, w₁, hq, .of_steps (.one h0 stepR_scope) harr⟩
end
section
variable {P : Program} {cx : Cx} {Q : Exit → Act → World → Prop} {env : Env} {H : Hp}
theorem at_scope {c : Code} (h : At P cx c (Exit.noGoto Q) env H) : At P cx (.scope c) Q env H := fun a w hs => wpIn_scope (h a w hs)
theorem nx_scope_ret (h : Nx cx (Q .ret) env H) : Nx cx (Exit.noGoto Q .ret) env H := h
end
end Gw
