/- Walking by chunks: a range over a function whose variables lie in memory. No function of the program is named. -/
/- digest.left, Proof. -/
/- Walking by chunks: a load out of a segment in a region that draws; the same memory cut otherwise. No function of the program is named. -/
import Derived.Test.YtjeepldonhgohaaGreatDoorEz
import Derived.Test.YtjeepldonhgohaaGreatDoorTr1
import Derived.Test.YtjeepldonhgohaaGreatDoorEx6
import Derived.Scope
import Derived.Test.YtjeepldonhgohaaGreatDoorTr2
import Derived.Test.YtjeepldonhgohaaGreatDoorEx5
import Derived.Test.YtjeepldonhgohaaGreatDoorEx14
import Derived.Test.YtjeepldonhgohaaGreatDoorLg8

namespace Gw
open Go Go.RowKit
theorem at_rangeAllX {α : Type} {A : List Chunk → Prop} {P : Program} {cx : Cx} {Q : Exit → Act → World → Prop} {env : Env} {H Hit H0 R : Hp} {g : Operand} {ps : Array Tmp} {assign body : Code} {gf : FuncId} {lb : Array Value} {encs : α → Array Value} {xs : List α}
    (I : List α → Hp → Prop) (E : α → Env → Hp → Prop) (hr : cx.r = none) (hg : ∀ a, ev a env g = .func (.func gf) #[] lb) (hcall : ∀ (args : Array Value) (w : World), (callFunc gf args).run P w = .ok (.enter gf args) w)
    (hiter : IterSpecA P gf lb Hit A encs xs) (hA : ∀ pre H1 c d, I pre H1 → A ([c, d] ++ H1.flatten)) (hps : ∀ x, (encs x).size = ps.size) (hpf : (ps.toList.all fun t => Nat.blt t cx.N) = true) (hp : Pull (Hit ++ H0) H R) (h0 : I [] H0)
    (hassign : ∀ (l : Nat) (x : α) (u : World) (H : Hp), At P ⟨cx.N, [], u, some l⟩ assign (Exit.then (fun a w => ∃ e Hn, E x e Hn ∧ Is ⟨cx.N, [], u, some l⟩ (e ++ env) (Hn ++ H) a w) (fun _ _ _ => False)) ((ps.toList.zip (encs x).toList).reverse ++ env) H)
    (hbody : ∀ (l : Nat) (pre : List α) (x : α) (post : List α) (u : World) (e : Env) (Hn H1 R1 : Hp), xs = pre ++ x :: post → I pre H1 → E x e Hn → At P ⟨cx.N, [], u, some l⟩ body (RoundEnd u I (pre ++ [x]) R1) (e ++ env) (H1 ++ (Hn ++ R1)))
    (hk : ∀ (D : Nat) (H2 : Hp), I xs H2 → Nx ⟨cx.N, ⟨.collected D, #[]⟩ :: cx.D, cx.u, none⟩ (Q .normal) env ([(D, .deferred (some []))] :: (H2 ++ R))) : At P cx (.rangeFunc g ps assign body) Q env H := by
  intro a w hs
  refine wpIn_rangeFunc ?_
  intro fn hfn
  have hro : (Fx cx.r).round = none := hr
  rw [hro]
  obtain ⟨rec, hrec⟩ : ∃ rec : LoopState → Option Code → Loop, rec = fun st pe => { state := st, pending := pe, fn, tmps := (puts env a).tmps, params := ps, assign, body, defers := w.heap.size } := ⟨_, rfl⟩
  have hsat : Sat cx.u ((Hit ++ H0) ++ R) w := hs.sat.perm hp.perm
  have hsat1 : Sat cx.u ([(w.heap.size + 1, .loop (rec .ready none))] :: ([(w.heap.size, .deferred (some []))] :: (Hit ++ H0 ++ R))) ((w.alloc (.deferred (some []))).alloc (.loop (rec .ready none))) := by
    have := (hsat.alloc (.deferred (some []))).alloc (.loop (rec .ready none))
    rw [show ({ w with heap := w.heap.push (.deferred (some [])) } : World).heap.size = w.heap.size + 1 from Array.size_push _] at this
    exact this
  have hfitA : Fit a.tmps.size env := by rw [hs.size]; exact hs.fit
  refine ⟨w.heap.size + 1, [⟨.collected w.heap.size, #[]⟩], (w.alloc (.deferred (some []))).alloc (.loop (rec .ready none)), ⟨.fn (.func gf) lb, #[.func (.yield (w.heap.size + 1)) #[] #[]]⟩, (w.alloc (.deferred (some []))).alloc (.loop (rec .ready none)), gf,
    #[.func (.yield (w.heap.size + 1)) #[] #[]] ++ lb, (w.alloc (.deferred (some []))).alloc (.loop (rec .ready none)), ?_, ?_, fun _ _ => trivial, ?_, fun h => by simp [Fx, Fence.wide] at h, ?_⟩
  · rw [hrec]; exact run_enterLoop_outer _ _ _ _ _
  · simp only [resolve, puts_eval a env hfitA, hg a]
    simp [Deferred.ofValue, ev, Act.eval]
  · simp [invoke, hcall]
  · refine callsFx ?_
    have hJ := hiter (w.heap.size + 1) (fun pre s => ∃ H1, I pre H1 ∧ s = [(w.heap.size + 1, .loop (rec .ready none)), (w.heap.size, .deferred (some []))] ++ H1.flatten) (by rintro pre _ ⟨H1, h1, rfl⟩; exact hA pre H1 _ _ h1) ?_ _ ⟨H0, h0, rfl⟩
    · have hperm : ([(w.heap.size + 1, Obj.loop (rec .ready none))] :: ([(w.heap.size, Obj.deferred (some []))] :: (Hit ++ H0 ++ R))).flatten.Perm ((Hit ++ [[(w.heap.size + 1, Obj.loop (rec .ready none)), (w.heap.size, .deferred (some []))] ++ H0.flatten]) ++ R).flatten := by
        simp only [List.flatten_cons, List.flatten_append, List.singleton_append, List.cons_append, List.nil_append, List.flatten_nil, List.append_nil, List.append_assoc]
        have e : ∀ (x y : Chunk) (A B C : List Chunk), (x :: y :: (A ++ (B ++ C))).Perm (A ++ (x :: y :: (B ++ C))) := fun x y A B C => by
          refine (List.Perm.cons x List.perm_middle.symm).trans ?_
          exact List.perm_middle.symm
        exact e _ _ _ _ _
      have hs1 : Sat cx.u ((Hit ++ [[(w.heap.size + 1, Obj.loop (rec .ready none)), (w.heap.size, .deferred (some []))] ++ H0.flatten]) ++ R) ((w.alloc (.deferred (some []))).alloc (.loop (rec .ready none))) := by
        exact hsat1.perm hperm
      refine Calls.mono (hJ cx.u R _ hs1) fun e w2 he => ?_
      rcases he with ⟨v, H', rfl, ⟨s', rfl, H2, hI2, rfl⟩, hsat2⟩ | ⟨_, _, _, h, _⟩
      · -- behind the iterator
        have hsat3 : Sat cx.u ([(w.heap.size + 1, Obj.loop (rec .ready none))] :: ([(w.heap.size, .deferred (some []))] :: (H2 ++ R))) w2 := by
          refine hsat2.perm ?_
          simp
        have hl := hsat3.get (w.heap.size + 1, Obj.loop (rec .ready none)) (by simp)
        have hend := run_endLoop (P := P) hl (by rw [hrec]; simp)
        have hpd : (rec .ready none).pending = none := by rw [hrec]
        have hk' := hk w.heap.size H2 hI2 { a with defers := ⟨.collected w.heap.size, #[]⟩ :: cx.D } (w2.putObj (w.heap.size + 1) (.loop { rec .ready none with state := .exhausted }))
          ⟨hs.size, rfl, hs.fit, (hsat3.turn (o' := .loop { rec .ready none with state := .exhausted })).sub ⟨[(w.heap.size + 1, .loop { rec .ready none with state := .exhausted })], by
            simp only [List.flatten_cons]
            exact List.perm_append_comm⟩⟩
        refine ⟨_, _, hend, ?_⟩
        have key : ∀ (p : Option Code) (A : Act) (W : World), p = none → Q .normal A W → (match p with | none => Q .normal A W | some c => c.wpIn (Fx cx.r) 0 P Q A W) := fun p A W h1 h2 => by subst h1; exact h2
        refine key _ _ _ hpd ?_
        have : puts env { a with defers := ⟨.collected w.heap.size, #[]⟩ :: cx.D } = { puts env a with defers := [⟨.collected w.heap.size, #[]⟩] ++ (puts env a).defers } := by
          rw [puts_defers, puts_def, hs.defers]; rfl
        rw [this] at hk'
        exact hk'
      · exact h.elim
    · -- one round
      rintro pre x post s hxs ⟨H1, hI, rfl⟩ u R1 w1 hw1 K Kp hK
      have hw1' : Sat u ([(w.heap.size + 1, Obj.loop (rec .ready none))] :: ([(w.heap.size, .deferred (some []))] :: (H1 ++ R1))) w1 := by
        refine hw1.perm ?_
        simp
      have hl := hw1'.get (w.heap.size + 1, Obj.loop (rec .ready none)) (by simp)
      have hy := run_yield (P := P) (args := encs x) hl (by rw [hrec]; exact hps x)
      rw [hy]
      show RoundIn Fence.wide 0 P (w.heap.size + 1) _ _ _ _ w1 _
      rw [hrec]
      refine roundIn_of_wpIn (F := Fence.wide) trivial ?_
      have htm : ({ tmps := (ps.zip (encs x)).foldl (fun tmps x => match x with | (t, a) => tmps.setIfInBounds t a) (puts env a).tmps, defers := [] } : Act) = puts ((ps.toList.zip (encs x).toList).reverse ++ env) { a with defers := [] } := by
        rw [puts_append, puts_defers [] env a]
        have h1 : (ps.zip (encs x)).foldl (fun tmps x => match x with | (t, a) => tmps.setIfInBounds t a) (puts env a).tmps = (puts (ps.toList.zip (encs x).toList).reverse (puts env a)).tmps := by
          rw [← foldl_puts, ← Array.foldl_toList, Array.toList_zip]
        rw [h1, puts_defers [] _ (puts env a)]
      have hfit2 : Fit cx.N ((ps.toList.zip (encs x).toList).reverse ++ env) := by
        intro q hq
        rcases List.mem_append.1 hq with hq | hq
        · have := List.mem_reverse.1 hq
          have h2 := List.all_eq_true.1 hpf q.1 (List.of_mem_zip this).1
          simpa using h2
        · exact hs.fit q hq
      have ha := hassign (w.heap.size + 1) x u ([(w.heap.size + 1, Obj.loop (rec .ready none))] :: ([(w.heap.size, .deferred (some []))] :: (H1 ++ R1))) { a with defers := [] } w1 ⟨hs.size, rfl, hfit2, hw1'⟩
      rw [← htm] at ha
      refine wpIn_mono ha fun e a1 w2 he => ?_
      cases e <;> first | exact he | skip
      obtain ⟨e9, Hn, hE, a2, hst, rfl⟩ := he
      have hst1 : Sat u ([(w.heap.size + 1, Obj.loop (rec .ready none))] :: ([(w.heap.size, .deferred (some []))] :: (H1 ++ (Hn ++ R1)))) w2 := by
        refine hst.sat.perm ?_
        simp only [List.flatten_cons, List.flatten_append, List.singleton_append]
        refine List.perm_middle.trans (List.Perm.cons _ ?_)
        refine List.perm_middle.trans (List.Perm.cons _ ?_)
        rw [← List.append_assoc, ← List.append_assoc]
        exact List.perm_append_comm.append_right _
      have hl2 := hst1.get (w.heap.size + 1, Obj.loop (rec .ready none)) (by simp)
      refine ⟨_, run_beginRound hl2 (by rw [hrec]), ?_⟩
      have hst2 : Sat u (H1 ++ (Hn ++ ([(w.heap.size + 1, Obj.loop { rec .ready none with state := .busy })] :: ([(w.heap.size, .deferred (some []))] :: R1)))) (w2.putObj (w.heap.size + 1) (.loop { rec .ready none with state := .busy })) := by
        refine (hst1.turn (o' := .loop { rec .ready none with state := .busy })).perm ?_
        simp only [List.flatten_cons, List.flatten_append, List.singleton_append]
        rw [← List.append_assoc, ← List.append_assoc]
        refine List.Perm.trans ?_ (List.perm_middle.symm)
        refine List.Perm.cons _ ?_
        exact List.perm_middle.symm
      have hb := hbody (w.heap.size + 1) pre x post u e9 Hn H1 _ hxs hI hE a2 _ ⟨hst.size, hst.defers, hst.fit, hst2⟩
      refine wpIn_mono hb fun e a3 w3 he3 => ?_
      cases e <;> first | exact he3.elim | skip
      obtain ⟨H2, hI2, hs3⟩ := he3
      have hs3' : Sat u ([(w.heap.size + 1, Obj.loop { rec .ready none with state := .busy })] :: ([(w.heap.size, .deferred (some []))] :: (H2 ++ R1))) w3 := by
        refine hs3.perm ?_
        simp only [List.flatten_cons, List.flatten_append, List.singleton_append]
        exact List.perm_middle.trans (List.Perm.cons _ List.perm_middle)
      have hl3 := hs3'.get (w.heap.size + 1, Obj.loop { rec .ready none with state := .busy }) (by simp)
      have hend := run_endRound (P := P) none hl3
      refine ⟨_, _, hend, ?_⟩
      refine hK _ _ _ ⟨[(w.heap.size + 1, .loop (rec .ready none)), (w.heap.size, .deferred (some []))] ++ H2.flatten, rfl, rfl, H2, hI2, rfl⟩ ?_
      have hfin := hs3'.turn (o' := .loop (rec .ready none))
      have hsame : ({ { rec .ready none with state := LoopState.busy } with state := if (none : Option Code).isNone = true then LoopState.ready else .done, pending := none } : Loop) = rec .ready none := by rw [hrec]; rfl
      rw [hsame]
      refine hfin.perm ?_
      simp

/-- The end of the assignment of a round: the slots e and the blocks Hn are new. -/
theorem nx_isX {cx : Cx} {E : Env → Hp → Prop} {env e : Env} {H Hn : Hp} {Q : Exit → Act → World → Prop} (hE : E e Hn) : Nx cx ((Exit.then (fun a w => ∃ e Hn, E e Hn ∧ Is cx (e ++ env) (Hn ++ H) a w) Q) .normal) (e ++ env) (Hn ++ H) := fun a _ hs => ⟨e, Hn, hE, a, hs, rfl⟩
section
variable {F : Fence} {n : Nat} {P : Program} {Q : Exit → Act → World → Prop} {a : Act} {w : World} {b : Frame} {k : List Item} {cs : List Frame}
theorem stepR_scope {c : Code} : step P (lone (b.atR a (.code (.scope c) :: k)) cs w) = .next (lone (b.atR a (.code c :: .inScope c :: k)) cs w) :=
  step_lone_go (by simp [stepG, stepG.exec, Frame.atR])
theorem stepR_inScope {c : Code} : step P (lone (b.atR a (.inScope c :: k)) cs w) = .next (lone (b.atR a k) cs w) :=
  step_lone_go (by simp [stepG, stepG.exec, Frame.atR])
theorem wpIn_scope {c : Code} (h : c.wpIn F n P (Exit.noGoto Q) a w) : (Code.scope c).wpIn F n P Q a w := by
  intro b k cs hro hb hr
  have h0 : (lone (b.atR a (.code (.scope c) :: k)) cs w).fenced P F := fenced_calm hb hr rfl
  obtain ⟨e, a₁, w₁, hq, harr⟩ := h b (.inScope c :: k) cs hro hb hr
  cases e with
  | normal => exact ⟨.normal, a₁, w₁, hq, .head h0 stepR_scope (StepsIn.trans harr (.one (fenced_calm hb hr rfl) stepR_inScope))⟩
  | exit id' =>
    have hx : exitTo id' (.inScope c :: k) = exitTo id' k := by simp [exitTo]
    exact ⟨.exit id', a₁, w₁, hq, fun k' hk => .head h0 stepR_scope (harr.1 k' (by rw [hx]; exact hk)),
      fun hr' hk => let ⟨k₁, h1, h2⟩ := harr.2 hr' (by rw [hx]; exact hk); ⟨k₁, h1, .head h0 stepR_scope h2⟩⟩
  | goto l => exact hq.elim
  | ret => exact ⟨_, a₁, w₁, hq, .of_steps (.one h0 stepR_scope) harr⟩
  | panic ch => exact ⟨_, a₁, w₁, hq, .of_steps (.one h0 stepR_scope) harr⟩
  | outgrown => exact ⟨_, a₁, w₁, hq, .of_steps (.one h0 stepR_scope) harr⟩
end
section
variable {P : Program} {cx : Cx} {Q : Exit → Act → World → Prop} {env : Env} {H : Hp}
theorem at_scope {c : Code} (h : At P cx c (Exit.noGoto Q) env H) : At P cx (.scope c) Q env H := fun a w hs => wpIn_scope (h a w hs)
theorem nx_scope_ret (h : Nx cx (Q .ret) env H) : Nx cx (Exit.noGoto Q .ret) env H := h
end
end Gw


namespace Go.Proofs.YtjeepldonhgohaaGreatDoor
open Go.Proofs.Tryz
open Go Go.RowKit Gw
set_option linter.unusedVariables false
set_option linter.unusedSimpArgs false
set_option maxRecDepth 100000
attribute [local irreducible] Gw.At Gw.Nx Gw.Ops
theorem bitLen_log : ∀ (f x : Nat), 0 < x → x < 2 ^ f → Lib.bitLenAux f x = Nat.log2 x + 1
  | 0, x, h0, h1 => by simp at h1; omega
  | f + 1, x, h0, h1 => by
    unfold Lib.bitLenAux
    rw [if_neg (by omega)]
    rw [Nat.pow_succ] at h1
    rcases Nat.lt_or_ge x 2 with h | h
    · have e : x = 1 := by omega
      subst e
      cases f <;> rfl
    · rw [bitLen_log f (x / 2) (by omega) (by omega)]
      conv => rhs; rw [Nat.log2_def, if_pos h]
      omega
theorem left_bits (n : Nat) (h1 : 2 ≤ n) (h2 : n ≤ 1000000000000) : Lib.bitLen (n - 1) = Nat.log2 (n - 1) + 1 := bitLen_log 64 (n - 1) (by omega) (by omega)
/-- The proof of entry i of a list. -/
def proofT (l : List Bs) (i : Nat) : List Bs :=
  if h : 2 ≤ l.length then
    if i < leftN l.length then proofT (l.take (leftN l.length)) i ++ [rootT (l.drop (leftN l.length))]
    else proofT (l.drop (leftN l.length)) (i - leftN l.length) ++ [rootT (l.take (leftN l.length))]
  else []
termination_by l.length
decreasing_by
  · have := left_lt h; rw [List.length_take]; omega
  · have := left_pos l.length; rw [List.length_drop]; omega
theorem proof_one {l : List Bs} (h : l.length ≤ 1) (i : Nat) : proofT l i = [] := by rw [proofT, dif_neg (by omega)]
theorem proof_first {l : List Bs} {i : Nat} (h : 2 ≤ l.length) (hi : i < leftN l.length) : proofT l i = proofT (l.take (leftN l.length)) i ++ [rootT (l.drop (leftN l.length))] := by rw [proofT, dif_pos h, if_pos hi]
theorem proof_second {l : List Bs} {i : Nat} (h : 2 ≤ l.length) (hi : ¬ i < leftN l.length) : proofT l i = proofT (l.drop (leftN l.length)) (i - leftN l.length) ++ [rootT (l.take (leftN l.length))] := by rw [proofT, dif_pos h, if_neg hi]
theorem proof_digests : ∀ (n : Nat) (l : List Bs) (i : Nat), l.length ≤ n → ∀ x ∈ proofT l i, x.length = 32
  | n, l, i, hn, x, hx => by
    rcases Nat.lt_or_ge l.length 2 with h | h
    · rw [proof_one (by omega)] at hx; simp at hx
    · have h1 := left_lt h
      have h2 := left_pos l.length
      match n, hn with
      | 0, hn => omega
      | n + 1, hn =>
      by_cases hi : i < leftN l.length
      · rw [proof_first h hi] at hx
        rcases List.mem_append.1 hx with hx | hx
        · exact proof_digests n _ i (by rw [List.length_take]; omega) x hx
        · rw [List.mem_singleton] at hx
          rw [hx]; exact root_len _
      · rw [proof_second h hi] at hx
        rcases List.mem_append.1 hx with hx | hx
        · exact proof_digests n _ _ (by rw [List.length_drop]; omega) x hx
        · rw [List.mem_singleton] at hx
          rw [hx]; exact root_len _
theorem StrsU.take {M : List Chunk} {p : Option Addr} {cap : Nat} {ls : List Bs} (h : StrsU M (.slice p ls.length cap) ls) (n : Nat) (hn : n ≤ ls.length) : StrsU M (.slice p n cap) (ls.take n) := by
  obtain ⟨p', cap', e, hl, hg⟩ := h
  injection e with e1 e2 e3
  subst e1 e3
  have hlen : (ls.take n).length = n := by rw [List.length_take]; omega
  refine ⟨p, cap, by rw [hlen], by rw [hlen]; omega, fun i z hz => hg i z ?_⟩
  rw [List.getElem?_take] at hz
  split at hz
  · exact hz
  · cases hz
theorem StrsU.drop {M : List Chunk} {g0 off0 cap : Nat} {ls : List Bs} (h : StrsU M (.slice (some ⟨g0, off0, none⟩) ls.length cap) ls) (n : Nat) (hn : n < ls.length) : StrsU M (.slice (some ⟨g0, off0 + n, none⟩) (ls.length - n) (cap - n)) (ls.drop n) := by
  obtain ⟨p', cap', e, hl, hg⟩ := h
  injection e with e1 e2 e3
  subst e1 e3
  refine ⟨_, _, by rw [List.length_drop], by rw [List.length_drop]; omega, fun i z hz => ?_⟩
  rw [List.getElem?_drop] at hz
  obtain ⟨g2, off2, cur2, T2, zz2, e2, hm2, hc2⟩ := hg (n + i) z hz
  injection e2 with e2; injection e2 with e3 e4
  subst e3 e4
  exact ⟨g0, off0 + n, cur2, T2, zz2, rfl, hm2, by rw [Nat.add_assoc]; exact hc2⟩
theorem holds_enc {w : World} {g : Nat} {cur : Array Value} {e : TypeId} {z : Nat × Nat} (enc : Bs → Value) {zs : List Bs} (hb : w.heap[g]? = some (.cells cur e z)) (hle : zs.length ≤ cur.size) (hfr : Free z cur.size) (ht : cur.toList.take zs.length = zs.map enc) : Go.Sort.Holds enc w g 0 zs.toArray := by
  intro j hj
  have hj' : j < zs.length := by simpa using hj
  have hf := hfr j (by omega)
  have h1 : (cur.toList.take zs.length)[j]? = (zs.map enc)[j]? := by rw [ht]
  rw [List.getElem?_take_of_lt hj'] at h1
  refine ⟨?_, ?_⟩
  · simp only [World.cell?, hb, Nat.zero_add]
    simp only [Option.isSome_none, Bool.false_eq_true, if_false]
    rw [← Array.getElem?_toList, h1]
    simp [hj']
  · simp only [World.frozen?, hb, Nat.zero_add]
    simp; omega
theorem put_take_enc (enc : Bs → Value) (cur : Array Value) (ts : List Bs) (h : ts.length ≤ cur.size) : (Go.Sort.putCells enc 0 ts.toArray cur).toList.take ts.length = ts.map enc := by
  apply List.ext_getElem?
  intro j
  rw [List.getElem?_take]
  by_cases hj : j < ts.length
  · rw [if_pos hj, Array.getElem?_toList]
    unfold Go.Sort.putCells
    rw [Array.getElem?_mapIdx, Array.getElem?_eq_getElem (by omega)]
    simp [hj]
  · rw [if_neg hj, List.getElem?_eq_none (by simp; omega)]
theorem Sat.sorted_enc {u w : World} {g n : Nat} {cur : Array Value} {e : TypeId} {z : Nat × Nat} {R : Hp} (enc : Bs → Value) (d : Array Bs) (h : Sat u ([(g, .cells cur e z)] :: R) w) : Sat u ([(g, .cells (Go.Sort.putCells enc 0 d cur) e z)] :: R) (Go.Sort.putRow enc (Go.Sort.ahead w n) g 0 d) := by
  have hb := h.get (g, .cells cur e z) (by simp)
  refine h.upd (.here _) rfl rfl rfl ?_ fun k hk => ?_
  · simp [Go.Sort.putRow, Go.Sort.mapBlock, Go.Sort.ahead, Array.getElem?_modify, hb, Go.Sort.onCells]
  · have : g ≠ k := fun e => hk e.symm
    simp [Go.Sort.putRow, Go.Sort.mapBlock, Go.Sort.ahead, Array.getElem?_modify, this]
theorem reverse_spec {v : Value} {ls : List Bs} {s : List Chunk} (h : RowS 1 9 v ls.length (ls.map strV) s) (hn : ls.length ≤ 1000000000000) : Does Tryz.prog 85 #[v] [s] (fun r H' => r = .tuple #[] ∧ ∃ s', RowS 1 9 v ls.length (ls.reverse.map strV) s' ∧ H' = [s']) := by
  obtain ⟨hlen, ⟨rfl, h0, rfl⟩ | ⟨g, cap, cur, z, rfl, rfl, hle, hcm, hcs, htk, hfr⟩⟩ := h
  · intro u R w hs
    have e : ls = [] := List.eq_nil_of_length_eq_zero h0
    subst e
    exact (Tryz.slices_Reverse_string_empty none 0 w).mono (by
      rintro e w' ⟨rfl, rfl⟩
      exact .inl ⟨_, _, rfl, ⟨rfl, [], rowS_nil 1 _, rfl⟩, hs⟩)
  · intro u R w hs
    rw [Nat.mul_one] at hcs htk
    have hb := hs.get (g, .cells cur 9 z) (by simp)
    have hH := holds_enc (w := w) (g := g) (e := 9) (z := z) strV (zs := ls) hb (by omega) hfr htk
    refine (Tryz.slices_Reverse_string g 0 cap ls w hH (by omega)).mono ?_
    rintro e w' ⟨rfl, n, rfl⟩
    refine .inl ⟨_, _, rfl, ⟨rfl, _, ⟨by simp, .inr ⟨g, cap, _, z, rfl, rfl, hle, hcm, ?_, ?_, ?_⟩⟩, rfl⟩, Sat.sorted_enc (n := n) strV ls.reverse.toArray hs⟩
    · rw [Nat.mul_one]; simp [Go.Sort.putCells, hcs]
    · rw [Nat.mul_one]
      have := put_take_enc strV cur ls.reverse (by rw [List.length_reverse]; omega)
      rw [List.length_reverse] at this
      exact this
    · simpa [Go.Sort.putCells] using hfr

theorem left_spec (n : Nat) (h1 : 2 ≤ n) (h2 : n ≤ 1000000000000) : DoesR Tryz.prog 84 #[.int .i64 (n : Int)] [] (.int .i64 ((leftN n : Nat) : Int)) := by
 have hb := left_bits n h1 h2
 have hl := left_lt h1
 unfold leftN at hl
 have hl2 : (n - 1).log2 < 64 := (Nat.log2_lt (by omega)).2 (by omega)
 refine spec_enter func84 rfl ntmps84 rfl ?_
 intro u R
 refine Zb [0] ?_
 refine Zq <| Zg <| Za Y <| Z0 <| Zx <| Zq <| Zg <| Zm Y ?_
 first | (refine op_v (p_sub_nat (n := 1) Y Y ?_ ?_) ?_; (focus (first | omega | (rw [Nat.add_sub_cancel]; omega))); (focus (first | omega | (rw [Nat.add_sub_cancel]; omega)))) | (refine op_v (p_sub Y Y (IntWalk.i64_in _ ?_)) ?_; (focus (first | omega | (rw [Nat.add_sub_cancel]; omega))))
 first | (refine op_v (p_conv_nat_u64 underlying3 underlying135 Y ?_) ?_; (focus (first | omega | (rw [Nat.add_sub_cancel]; omega)))) | refine op_v (p_conv_int underlying3 underlying135 Y rfl) ?_
 refine Zr [_] Y call119 Y rfl (spec_below (H := []) (Rl := fun v => v = .int .i64 ((Lib.bitLen (n - 1) : Nat) : Int)) (fun w _ => (Tryz.bits_Len ((n - 1 : Nat) : Int) w (by omega) (by omega)).mono (by rintro e w1 ⟨rfl, rfl⟩; exact ⟨_, rfl, by rw [Int.toNat_natCast], Below.refl _ _⟩)) (fun v h => ⟨h, rfl⟩)) ?_
 rintro _ _ ⟨rfl, rfl⟩
 rw [hb]
 first | (refine op_v (p_sub_nat (n := 1) Y Y ?_ ?_) ?_; (focus (first | omega | (rw [Nat.add_sub_cancel]; omega))); (focus (first | omega | (rw [Nat.add_sub_cancel]; omega)))) | (refine op_v (p_sub Y Y (IntWalk.i64_in _ ?_)) ?_; (focus (first | omega | (rw [Nat.add_sub_cancel]; omega))))
 first | (refine op_v (p_shl_nat_i64 (m := 1) Y Y ?_ ?_) ?_; (focus (omega)); (focus (first | omega | (rw [Nat.add_sub_cancel]; omega)))) | (refine op_v (p_shl Y Y ?_ ?_ rfl) ?_; (focus (first | decide | omega | (simp [IntKind.bits]; done) | (simp [IntKind.bits]; omega))); (focus (first | decide | omega | (simp [IntKind.bits]; done) | (simp [IntKind.bits]; omega))))
 refine Za Y <| Z0 <| Zx <| at_ret ?_
 refine nx_end1 rfl results84 Y (by exact ⟨by rw [Nat.add_sub_cancel, Nat.one_mul]; rfl, rfl⟩)

theorem proof_spec {M : List Chunk} {v : Value} {ls : List Bs} (hv : StrsU M v ls) (hn : ls.length ≤ 1000000) (hs : ∀ s ∈ ls, s.length ≤ 1099511627000) (i : Nat) (hi : i < ls.length) (Tg : TypeId) (zg : Nat × Nat) :
    Does Tryz.prog 45 #[v, .int .i64 (i : Int)] [[(0, .cells (kTab.map u32v).toArray Tg zg)], M] (fun r H' => ∃ vp sp, r = .tuple #[vp, .int .i64 0] ∧ RowS 1 9 vp (proofT ls i).length ((proofT ls i).map strV) sp ∧ H' = [sp, [(0, .cells (kTab.map u32v).toArray Tg zg)], M]) := by
 have hml : maxLen = 9223372036854775807 := rfl
 obtain ⟨p, cap, rfl, hl, hg⟩ := id hv
 refine spec_enter func45 rfl ntmps45 rfl ?_
 intro u R
 refine Zb [0, 1] ?_
 refine Zq <| Zg <| Za Y <| Za Y <| Z0 <| Zx <| at_scope ?_
 refine Zq <| Zq <| Zg <| Zm Y ?_
 first | refine op_v (p_lss_nat (n := 0) Y Y) ?_ | refine op_v (p_lss Y Y) ?_
 refine Zm Y ?_
 first | refine ops_split (t := 12) Y rfl (fun h1 => ?_) (fun h1 => ?_) | refine ops_split_bool (t := 12) Y rfl (fun h1 => ?_) (fun h1 => ?_)
 ·
  exfalso; omega
 ·
  refine Zf Y Y <| Zf Y Y <| op_wg Y (p_len_slice underlying35 Y) rfl rfl ?_
  first | refine op_wg Y (p_geq_nat Y Y) rfl rfl ?_ | refine op_wg Y (p_geq Y Y) rfl rfl ?_
  refine Zv (p_pick_f Y Y) <| Z0 <| Zx ?_
  first | refine at_if Y (fun h2 => ?_) (fun h2 => ?_) | refine at_if_bool Y (fun h2 => ?_) (fun h2 => ?_)
  ·
   exfalso; omega
  ·
   refine at_skip <| Zx <| Zq <| Zg <| Za Y <| Z0 <| Zx <| Zq <| at_label <| Zx <| Zq <| at_block <| at_nil ?_
   refine Zb [0, 1, 6] ?_
   refine at_loopB (e0 := [(0, _), (1, _), (6, _)]) (H0 := _) (n := _) (fun m e H => ∃ (l2 : List Bs) (i2 : Nat) (p2 : Option Addr) (cap2 : Nat) (o : List Bs) (vo : Value) (so : List Chunk), m = 0 + l2.length ∧ (StrsU M (.slice p2 l2.length cap2) l2 ∧ i2 < l2.length ∧ (∀ s ∈ l2, s.length ≤ 1099511627000) ∧ proofT ls i = proofT l2 i2 ++ o.reverse ∧ RowS 1 9 vo o.length (o.map strV) so ∧ o.length + l2.length ≤ ls.length) ∧ e = [(0, .slice p2 l2.length cap2), (1, .int .i64 (i2 : Int)), (6, vo)] ∧ H = [so]) (by exact ⟨ls, i, p, cap, [], .slice none 0 0, [], rfl, ⟨hv, hi, hs, by simp, rowS_nil 1 _, by simp⟩, rfl, rfl⟩) (by repeat (first | exact Pull.nil _ | (apply Pull.cons; (focus (repeat (first | exact One.here _ _ | apply One.there)))))) ?_
   rintro _ _ _ ⟨l2, i2, p2, cap2, o, vo, so, rfl, ⟨hv2, hi2, hs2, hpr, hro, hol⟩, rfl, rfl⟩
   obtain ⟨qo, co, rfl⟩ := hro.form
   refine at_block <| Zq <| Zq <| Zg <| Zm Y <| Zv (p_len_slice underlying35 Y) ?_
   first | refine op_v (p_eql_nat (n := 1) Y Y) ?_ | refine op_v (p_eql Y Y) ?_
   refine Z0 <| Zx ?_
   first | refine at_if Y (fun h1 => ?_) (fun h1 => ?_) | refine at_if_bool Y (fun h1 => ?_) (fun h1 => ?_)
   ·
    rw [proof_one (l := l2) (by omega), List.nil_append] at hpr
    refine at_exit <| Zt <| nx_block_other rfl <| Zt <| nx_block_exit <| Zx <| Zq <| Zg <| Zm Y <| Zc [_] Y call85 Y rfl (reverse_spec hro (by omega)) ?_
    rintro _ _ ⟨_, ⟨rfl, so2, hro2, rfl⟩, rfl⟩
    refine Z0 <| Zx <| Zq <| Zg <| Zm Y <| Za Y <| Za Y <| Z0 <| Zx <| at_ret <| nx_scope_ret ?_
    refine nx_end2 rfl results45 Y Y (by exact ⟨_, so2, rfl, rowS_eq hro2 (by rw [hpr, List.length_reverse]) (by rw [hpr]), rfl⟩)
   ·
    have h9 : 2 ≤ l2.length := by omega
    have hk1 := left_lt h9
    have hk2 := left_pos l2.length
    have hlt2 : (l2.take (leftN l2.length)).length = leftN l2.length := by rw [List.length_take]; omega
    obtain ⟨p8, cap8, e8, hl8, hg8⟩ := id hv2
    injection e8 with e81 e82 e83
    subst e81 e83
    obtain ⟨g8, off8, cur8, T8, zz8, rfl, hm8, hc8⟩ := hg8 0 _ (List.getElem?_eq_getElem (by omega))
    have hvt := hv2.take (leftN l2.length) (by omega)
    have hvd := hv2.drop (leftN l2.length) hk1
    refine at_skip <| Zx <| Zq <| Zg <| Zm Y <| Zv (p_len_slice underlying35 Y) <| Zr [_] Y call84 Y rfl (left_spec l2.length h9 (by omega)) ?_
    rintro _ _ ⟨rfl, rfl⟩
    refine Za Y <| Z0 <| Zx <| Zq <| at_draw (n := 8) (0 :: 0 :: 3 :: 0 :: 0 :: 24 :: 7 :: 127 :: []) 0 (by kernel_rfl) (by kernel_rfl) rfl ?_
    refine Zi 1 0 rfl (p_move Y) <| Zi 3 1 rfl (p_move Y) ?_
    (refine lin_v (D' := 7) 2 (p_slice_slice_to underlying35 sizeOf9 Y Y ?_) ?_; (focus (first | omega | (simp; omega))))
    refine Zi 15 3 rfl (p_move Y) <| Zi 31 4 rfl (p_move Y) ?_
    (refine lin_v (D' := 63) 5 (p_slice_slice_from1 underlying35 sizeOf9 Y Y ?_ ?_) ?_; (focus (first | omega | (simp; omega))); (focus (first | omega | (simp; omega))))
    refine Zi 127 6 rfl (p_assign Y) <| Zi 255 7 rfl (p_assign Y) <| lin_nil ?_
    refine Zn [1, 6, 7, 8, 9] ?_
    refine Zx <| Zq <| Zq <| Zg <| Zm Y <| Zm Y ?_
    first | refine op_v (p_geq_nat Y Y) ?_ | refine op_v (p_geq Y Y) ?_
    refine Z0 <| Zx ?_
    first | refine at_if Y (fun hge => ?_) (fun hge => ?_) | refine at_if_bool Y (fun hge => ?_) (fun hge => ?_)
    ·
     have hge : ¬ i2 < leftN l2.length := by omega
     refine Zg <| Zm Y <| Zm Y <| Zm Y <| Zm Y ?_
     first | (refine op_v (p_sub_nat Y Y ?_ ?_) ?_; (focus (omega)); (focus (omega))) | (refine op_v (p_sub Y Y (IntWalk.i64_in _ ?_)) ?_; (focus (omega)))
     refine Za Y <| Za Y <| Za Y <| Z0 <| Zx <| Zq <| Zg <| Zm Y <| Zm Y <| Zr [_] Y call22 Y rfl (root_spec hvt (by rw [hlt2]; omega) (fun s h => hs2 s (List.mem_of_mem_take h)) Tg zg) ?_
     rintro _ _ ⟨rfl, rfl⟩
     refine Ze (w_buildSlice (vs := [_]) (cs := [_]) underlying35 sizeOf9 zeroValue9 Y rfl rfl rfl rfl rfl) ?_
     rintro _ _ ⟨b1, rfl, rfl⟩
     refine Ze (w_appendS (by_ := 16) (sz := 1) (news := [_]) underlying35 (rfl : Tryz.prog.info? 9 = some Tryz.t9) rfl rfl rfl rfl Y hro Y (by repeat (first | exact One.here _ _ | apply One.there)) (by repeat (first | exact Has.here _ | apply Has.there)) (by rfl) rfl (by simp [Value.oneCell']) (by decide) (by omega) (by omega)) ?_
     rintro _ _ ⟨sw, hrw, rfl⟩
     obtain ⟨gw, cw, rfl⟩ := hrw.form
     refine Za Y <| Z0 <| Zn [1, 6, 8] ?_
     refine Zx <| Zg <| Zm Y <| Za Y <| Z0 <| nx_block_normal <| Zn [0, 1, 6] ?_
     refine nx_againB (e' := [(0, _), (1, _), (6, _)]) (m := _) (H' := _) (by first | exact ⟨l2.drop (leftN l2.length), i2 - leftN l2.length, _, _, o ++ [rootT (l2.take (leftN l2.length))], _, _, (by rw [List.length_drop]), ⟨(by rw [List.length_drop]; exact hvd), by rw [List.length_drop]; omega, fun s h => hs2 s (List.mem_of_mem_drop h), by rw [hpr, proof_second h9 hge, List.reverse_append, List.append_assoc]; rfl, rowS_eq hrw (by simp) (by simp; rfl), by rw [List.length_append, List.length_drop]; simp; omega⟩, (by rw [List.length_drop]), rfl⟩ | exact ⟨l2.take (leftN l2.length), i2, _, _, o ++ [rootT (l2.drop (leftN l2.length))], _, _, (by rw [hlt2]), ⟨(by rw [hlt2]; exact hvt), by rw [hlt2]; omega, fun s h => hs2 s (List.mem_of_mem_take h), by rw [hpr, proof_first h9 (by omega), List.reverse_append, List.append_assoc]; rfl, rowS_eq hrw (by simp) (by simp; rfl), by rw [List.length_append, hlt2]; simp; omega⟩, (by rw [hlt2]), rfl⟩)
    ·
     refine at_skip <| Zx <| Zq <| Zg <| Zm Y <| Zm Y <| Zr [_] Y call22 Y rfl (root_spec hvd (by rw [List.length_drop]; omega) (fun s h => hs2 s (List.mem_of_mem_drop h)) Tg zg) ?_
     rintro _ _ ⟨rfl, rfl⟩
     refine Ze (w_buildSlice (vs := [_]) (cs := [_]) underlying35 sizeOf9 zeroValue9 Y rfl rfl rfl rfl rfl) ?_
     rintro _ _ ⟨b3, rfl, rfl⟩
     refine Ze (w_appendS (by_ := 16) (sz := 1) (news := [_]) underlying35 (rfl : Tryz.prog.info? 9 = some Tryz.t9) rfl rfl rfl rfl Y hro Y (by repeat (first | exact One.here _ _ | apply One.there)) (by repeat (first | exact Has.here _ | apply Has.there)) (by rfl) rfl (by simp [Value.oneCell']) (by decide) (by omega) (by omega)) ?_
     rintro _ _ ⟨sw, hrw, rfl⟩
     obtain ⟨gw, cw, rfl⟩ := hrw.form
     refine Za Y <| Z0 <| Zx <| Zg <| Zm Y <| Za Y <| Z0 <| nx_block_normal <| Zn [0, 1, 6] ?_
     refine nx_againB (e' := [(0, _), (1, _), (6, _)]) (m := _) (H' := _) (by first | exact ⟨l2.drop (leftN l2.length), i2 - leftN l2.length, _, _, o ++ [rootT (l2.take (leftN l2.length))], _, _, (by rw [List.length_drop]), ⟨(by rw [List.length_drop]; exact hvd), by rw [List.length_drop]; omega, fun s h => hs2 s (List.mem_of_mem_drop h), by rw [hpr, proof_second h9 hge, List.reverse_append, List.append_assoc]; rfl, rowS_eq hrw (by simp) (by simp; rfl), by rw [List.length_append, List.length_drop]; simp; omega⟩, (by rw [List.length_drop]), rfl⟩ | exact ⟨l2.take (leftN l2.length), i2, _, _, o ++ [rootT (l2.drop (leftN l2.length))], _, _, (by rw [hlt2]), ⟨(by rw [hlt2]; exact hvt), by rw [hlt2]; omega, fun s h => hs2 s (List.mem_of_mem_take h), by rw [hpr, proof_first h9 (by omega), List.reverse_append, List.append_assoc]; rfl, rowS_eq hrw (by simp) (by simp; rfl), by rw [List.length_append, hlt2]; simp; omega⟩, (by rw [hlt2]), rfl⟩)

end Go.Proofs.YtjeepldonhgohaaGreatDoor


namespace Gw
open Go Go.RowKit
section
variable {P : Program} {ops : Array Oper} {A : List Nat} {F : Nat} {cx : Cx} {Q : Exit → Act → World → Prop} {n D : Nat} {T : List (Nat × Chunk)} {env : Env} {H : Hp}
theorem lin_rm {d : Nat} {op : Op} {ty : TypeId} {pos : String} {af : Array Edge} {v : Value} {b : Nat} {x : Obj} {D' : Nat} (i : Nat) (ho : ops[i]? = some ⟨some d, op, ty, pos, af, none⟩) (h1 : (!bit F i && !bit D i && within (A.getD i 0) D) = true) (hD : D ||| (1 <<< i) = D') (hb : (b, x) ∈ H.flatten) (hop : OpP P ⟨some d, op, ty, pos, af, none⟩ env [(b, x)] v)
    (k : Lin P ops A F cx Q n D' ((i, (b, x)) :: T) ((d, v) :: env) H) : Lin P ops A F cx Q (n + 1) D T env H := by
  simp only [Bool.and_eq_true, Bool.not_eq_true'] at h1
  subst hD
  exact .inl ⟨i, _, v, [(b, x)], ho, h1.1.2, h1.2, by simpa using hb, .inl ⟨fun _ => rfl, hop⟩, k⟩
theorem lin_rgm {d : Nat} {op : Op} {ty : TypeId} {pos : String} {af : Array Edge} {g : Nat × Bool} {v : Value} {b : Nat} {x : Obj} {D' : Nat} (i : Nat) (hg : ∀ a, wantedE ops a env (some g) = true) (ho : ops[i]? = some ⟨some d, op, ty, pos, af, some g⟩) (h1 : (!bit F i && !bit D i && within (A.getD i 0) D) = true) (hD : D ||| (1 <<< i) = D') (hb : (b, x) ∈ H.flatten) (hop : OpP P ⟨some d, op, ty, pos, af, some g⟩ env [(b, x)] v)
    (k : Lin P ops A F cx Q n D' ((i, (b, x)) :: T) ((d, v) :: env) H) : Lin P ops A F cx Q (n + 1) D T env H := by
  simp only [Bool.and_eq_true, Bool.not_eq_true'] at h1
  subst hD
  exact .inl ⟨i, _, v, [(b, x)], ho, h1.1.2, h1.2, by simpa using hb, .inl ⟨hg, hop⟩, k⟩
theorem keep_consm {i b : Nat} {x : Obj} (h : (b, x) ∈ H.flatten) (ht : ∀ p ∈ T, p.2 ∈ H.flatten) : ∀ p ∈ ((i, (b, x)) :: T), p.2 ∈ H.flatten := by
  intro p hp
  rcases List.mem_cons.1 hp with rfl | hp
  · exact h
  · exact ht p hp
end
end Gw
