/- Walking by chunks: a range over a function that hands on values with memory of their own. No function of the program is named. -/
/- Rows encoded; the orders of a state, its summaries and its root. -/
import Derived.Test.YtjeepldonhgohaaGreatDoorEz
import Derived.Test.YtjeepldonhgohaaGreatDoorEx18
import Derived.Test.YtjeepldonhgohaaGreatDoorTr4
namespace Gw
open Go Go.RowKit
/-- A function that is ranged over: it hands on xs, one after another; Enc: what the values are, and their own memory; Hk: memory that it keeps. -/
def IterSpecE {α : Type} (P : Program) (gf : FuncId) (lb : Array Value) (Hit Hk : Hp) (Enc : α → Array Value → List Chunk → Prop) (xs : List α) : Prop :=
  ∀ (l : Nat) (J : List α → List Chunk → Prop), (∀ pre x post s vs sx, xs = pre ++ x :: post → J pre s → Enc x vs sx → YieldSpec P l vs [sx, s] (fun v H' => ∃ s', v = .bool true ∧ H' = [s'] ∧ J (pre ++ [x]) s')) →
    ∀ s, J [] s → Does P gf (#[.func (.yield l) #[] #[]] ++ lb) (Hit ++ (Hk ++ [s])) (fun _ H' => ∃ s', H' = Hk ++ [s'] ∧ J xs s')
theorem at_rangeAllE {α : Type} {P : Program} {cx : Cx} {Q : Exit → Act → World → Prop} {env : Env} {H Hit Hk H0 R : Hp} {g : Operand} {ps : Array Tmp} {assign body : Code} {gf : FuncId} {lb : Array Value} {Enc : α → Array Value → List Chunk → Prop} {xs : List α}
    (I : List α → Hp → Prop) (E : α → Array Value → List Chunk → Env → Hp → Prop) (hr : cx.r = none) (hg : ∀ a, ev a env g = .func (.func gf) #[] lb) (hcall : ∀ (args : Array Value) (w : World), (callFunc gf args).run P w = .ok (.enter gf args) w)
    (hiter : IterSpecE P gf lb Hit Hk Enc xs) (hps : ∀ x vs sx, Enc x vs sx → vs.size = ps.size) (hpf : (ps.toList.all fun t => Nat.blt t cx.N) = true) (hp : Pull (Hit ++ (Hk ++ H0)) H R) (h0 : I [] H0)
    (hassign : ∀ (l : Nat) (x : α) (vs : Array Value) (sx : List Chunk) (u : World) (H : Hp), Enc x vs sx → At P ⟨cx.N, [], u, some l⟩ assign (Exit.then (fun a w => ∃ e Hn, E x vs sx e Hn ∧ Is ⟨cx.N, [], u, some l⟩ (e ++ env) (Hn ++ H) a w) (fun _ _ _ => False)) ((ps.toList.zip vs.toList).reverse ++ env) H)
    (hbody : ∀ (l : Nat) (pre : List α) (x : α) (post : List α) (u : World) (vs : Array Value) (sx : List Chunk) (e : Env) (Hn H1 R1 : Hp), xs = pre ++ x :: post → I pre H1 → Enc x vs sx → E x vs sx e Hn → At P ⟨cx.N, [], u, some l⟩ body (RoundEnd u I (pre ++ [x]) R1) (e ++ env) (H1 ++ (sx :: (Hn ++ R1))))
    (hk : ∀ (D : Nat) (H2 : Hp), I xs H2 → Nx ⟨cx.N, ⟨.collected D, #[]⟩ :: cx.D, cx.u, none⟩ (Q .normal) env ([(D, .deferred (some []))] :: (Hk ++ (H2 ++ R)))) : At P cx (.rangeFunc g ps assign body) Q env H := by
  intro a w hs
  refine wpIn_rangeFunc ?_
  intro fn hfn
  have hro : (Fx cx.r).round = none := hr
  rw [hro]
  obtain ⟨rec, hrec⟩ : ∃ rec : LoopState → Option Code → Loop, rec = fun st pe => { state := st, pending := pe, fn, tmps := (puts env a).tmps, params := ps, assign, body, defers := w.heap.size } := ⟨_, rfl⟩
  have hsat : Sat cx.u ((Hit ++ (Hk ++ H0)) ++ R) w := hs.sat.perm hp.perm
  have hsat1 : Sat cx.u ([(w.heap.size + 1, .loop (rec .ready none))] :: ([(w.heap.size, .deferred (some []))] :: (Hit ++ (Hk ++ H0) ++ R))) ((w.alloc (.deferred (some []))).alloc (.loop (rec .ready none))) := by
    have := (hsat.alloc (.deferred (some []))).alloc (.loop (rec .ready none))
    rw [show ({ w with heap := w.heap.push (.deferred (some [])) } : World).heap.size = w.heap.size + 1 from Array.size_push _] at this
    exact this
  have hfitA : Fit a.tmps.size env := by rw [hs.size]; exact hs.fit
  refine ⟨w.heap.size + 1, [⟨.collected w.heap.size, #[]⟩], (w.alloc (.deferred (some []))).alloc (.loop (rec .ready none)), ⟨.fn (.func gf) lb, #[.func (.yield (w.heap.size + 1)) #[] #[]]⟩, (w.alloc (.deferred (some []))).alloc (.loop (rec .ready none)), gf,
    #[.func (.yield (w.heap.size + 1)) #[] #[]] ++ lb, (w.alloc (.deferred (some []))).alloc (.loop (rec .ready none)), ?_, ?_, fun _ _ => trivial, ?_, fun h => by simp [Fx, Fence.wide] at h, ?_⟩
  · rw [hrec]; exact run_enterLoop_outer _ _ _ _ _
  · simp only [resolve, puts_eval a env hfitA, hg a]
    simp [Deferred.ofValue, ev, Act.eval]
  · simp [invoke, hcall]
  · refine callsFx ?_
    have hJ := hiter (w.heap.size + 1) (fun pre s => ∃ H1, I pre H1 ∧ s = [(w.heap.size + 1, .loop (rec .ready none)), (w.heap.size, .deferred (some []))] ++ H1.flatten) ?_ _ ⟨H0, h0, rfl⟩
    · have hs1 : Sat cx.u ((Hit ++ (Hk ++ [[(w.heap.size + 1, Obj.loop (rec .ready none)), (w.heap.size, .deferred (some []))] ++ H0.flatten])) ++ R) ((w.alloc (.deferred (some []))).alloc (.loop (rec .ready none))) := by
        refine hsat1.perm ?_
        simp only [List.flatten_cons, List.flatten_append, List.singleton_append, List.cons_append, List.nil_append, List.flatten_nil, List.append_nil, List.append_assoc]
        have e : ∀ (x y : Chunk) (A B C D : List Chunk), (x :: y :: (A ++ (B ++ (C ++ D)))).Perm (A ++ (B ++ (x :: y :: (C ++ D)))) := fun x y A B C D => by
          rw [← List.append_assoc, ← List.append_assoc A B (x :: y :: (C ++ D))]
          refine (List.Perm.cons x List.perm_middle.symm).trans ?_
          exact List.perm_middle.symm
        exact e _ _ _ _ _ _
      refine Calls.mono (hJ cx.u R _ hs1) fun e w2 he => ?_
      rcases he with ⟨v, H', rfl, ⟨s', rfl, H2, hI2, rfl⟩, hsat2⟩ | ⟨_, _, _, h, _⟩
      · -- behind the iterator
        have hsat3 : Sat cx.u ([(w.heap.size + 1, Obj.loop (rec .ready none))] :: ([(w.heap.size, .deferred (some []))] :: (Hk ++ (H2 ++ R)))) w2 := by
          refine hsat2.perm ?_
          simp only [List.flatten_cons, List.flatten_append, List.singleton_append, List.cons_append, List.nil_append, List.flatten_nil, List.append_nil, List.append_assoc]
          refine List.perm_middle.trans (List.Perm.cons _ ?_)
          exact List.perm_middle
        have hl := hsat3.get (w.heap.size + 1, Obj.loop (rec .ready none)) (by simp)
        have hend := run_endLoop (P := P) hl (by rw [hrec]; simp)
        have hpd : (rec .ready none).pending = none := by rw [hrec]
        have hk' := hk w.heap.size H2 hI2 { a with defers := ⟨.collected w.heap.size, #[]⟩ :: cx.D } (w2.putObj (w.heap.size + 1) (.loop { rec .ready none with state := .exhausted }))
          ⟨hs.size, rfl, hs.fit, (hsat3.turn (o' := .loop { rec .ready none with state := .exhausted })).sub ⟨[(w.heap.size + 1, .loop { rec .ready none with state := .exhausted })], by
            simp only [List.flatten_cons]
            exact List.perm_append_comm⟩⟩
        refine ⟨_, _, hend, ?_⟩
        have key : ∀ (p : Option Code) (A : Act) (W : World), p = none → Q .normal A W → (match p with | none => Q .normal A W | some c => c.wpIn (Fx cx.r) 0 P Q A W) := fun p A W h1 h2 => by subst h1; exact h2
        refine key _ _ _ hpd ?_
        have : puts env { a with defers := ⟨.collected w.heap.size, #[]⟩ :: cx.D } = { puts env a with defers := [⟨.collected w.heap.size, #[]⟩] ++ (puts env a).defers } := by
          rw [puts_defers, puts_def, hs.defers]; rfl
        rw [this] at hk'
        exact hk'
      · exact h.elim
    · -- one round
      rintro pre x post s vs sx hxs ⟨H1, hI, rfl⟩ hEnc u R1 w1 hw1 K Kp hK
      have hw1' : Sat u ([(w.heap.size + 1, Obj.loop (rec .ready none))] :: ([(w.heap.size, .deferred (some []))] :: (H1 ++ (sx :: R1)))) w1 := by
        refine hw1.perm ?_
        simp only [List.flatten_cons, List.flatten_append, List.singleton_append, List.cons_append, List.nil_append, List.flatten_nil, List.append_nil, List.append_assoc]
        refine List.perm_middle.trans (List.Perm.cons _ ?_)
        refine List.perm_middle.trans (List.Perm.cons _ ?_)
        rw [← List.append_assoc, ← List.append_assoc]
        exact List.perm_append_comm.append_right _
      have hl := hw1'.get (w.heap.size + 1, Obj.loop (rec .ready none)) (by simp)
      have hy := run_yield (P := P) (args := vs) hl (by rw [hrec]; exact hps x vs sx hEnc)
      rw [hy]
      show RoundIn Fence.wide 0 P (w.heap.size + 1) _ _ _ _ w1 _
      rw [hrec]
      refine roundIn_of_wpIn (F := Fence.wide) trivial ?_
      have htm : ({ tmps := (ps.zip (vs)).foldl (fun tmps x => match x with | (t, a) => tmps.setIfInBounds t a) (puts env a).tmps, defers := [] } : Act) = puts ((ps.toList.zip (vs).toList).reverse ++ env) { a with defers := [] } := by
        rw [puts_append, puts_defers [] env a]
        have h1 : (ps.zip (vs)).foldl (fun tmps x => match x with | (t, a) => tmps.setIfInBounds t a) (puts env a).tmps = (puts (ps.toList.zip (vs).toList).reverse (puts env a)).tmps := by
          rw [← foldl_puts, ← Array.foldl_toList, Array.toList_zip]
        rw [h1, puts_defers [] _ (puts env a)]
      have hfit2 : Fit cx.N ((ps.toList.zip (vs).toList).reverse ++ env) := by
        intro q hq
        rcases List.mem_append.1 hq with hq | hq
        · have := List.mem_reverse.1 hq
          have h2 := List.all_eq_true.1 hpf q.1 (List.of_mem_zip this).1
          simpa using h2
        · exact hs.fit q hq
      have ha := hassign (w.heap.size + 1) x vs sx u ([(w.heap.size + 1, Obj.loop (rec .ready none))] :: ([(w.heap.size, .deferred (some []))] :: (H1 ++ (sx :: R1)))) hEnc { a with defers := [] } w1 ⟨hs.size, rfl, hfit2, hw1'⟩
      rw [← htm] at ha
      refine wpIn_mono ha fun e a1 w2 he => ?_
      cases e <;> first | exact he | skip
      obtain ⟨e9, Hn, hE, a2, hst, rfl⟩ := he
      have hst1 : Sat u ([(w.heap.size + 1, Obj.loop (rec .ready none))] :: ([(w.heap.size, .deferred (some []))] :: (H1 ++ (sx :: (Hn ++ R1))))) w2 := by
        refine hst.sat.perm ?_
        simp only [List.flatten_cons, List.flatten_append, List.singleton_append]
        refine List.perm_middle.trans (List.Perm.cons _ ?_)
        refine List.perm_middle.trans (List.Perm.cons _ ?_)
        have e : ∀ (A B C D : List Chunk), (A ++ (B ++ (C ++ D))).Perm (B ++ (C ++ (A ++ D))) := fun A B C D => by
          rw [← List.append_assoc B C D, ← List.append_assoc B C (A ++ D), ← List.append_assoc A, ← List.append_assoc (B ++ C) A D]
          exact List.perm_append_comm.append_right _
        exact e _ _ _ _
      have hl2 := hst1.get (w.heap.size + 1, Obj.loop (rec .ready none)) (by simp)
      refine ⟨_, run_beginRound hl2 (by rw [hrec]), ?_⟩
      have hst2 : Sat u (H1 ++ (sx :: (Hn ++ ([(w.heap.size + 1, Obj.loop { rec .ready none with state := .busy })] :: ([(w.heap.size, .deferred (some []))] :: R1))))) (w2.putObj (w.heap.size + 1) (.loop { rec .ready none with state := .busy })) := by
        refine (hst1.turn (o' := .loop { rec .ready none with state := .busy })).perm ?_
        simp only [List.flatten_cons, List.flatten_append, List.singleton_append]
        have e : ∀ (x y : Chunk) (A B C D : List Chunk), (x :: y :: (A ++ (B ++ (C ++ D)))).Perm (A ++ (B ++ (C ++ (x :: y :: D)))) := fun x y A B C D => by
          rw [← List.append_assoc B C D, ← List.append_assoc A (B ++ C) D, ← List.append_assoc B C (x :: y :: D), ← List.append_assoc A (B ++ C) (x :: y :: D)]
          refine (List.Perm.cons x List.perm_middle.symm).trans ?_
          exact List.perm_middle.symm
        exact e _ _ _ _ _ _
      have hb := hbody (w.heap.size + 1) pre x post u vs sx e9 Hn H1 _ hxs hI hEnc hE a2 _ ⟨hst.size, hst.defers, hst.fit, hst2⟩
      refine wpIn_mono hb fun e a3 w3 he3 => ?_
      cases e <;> first | exact he3.elim | skip
      obtain ⟨H2, hI2, hs3⟩ := he3
      have hs3' : Sat u ([(w.heap.size + 1, Obj.loop { rec .ready none with state := .busy })] :: ([(w.heap.size, .deferred (some []))] :: (H2 ++ R1))) w3 := by
        refine hs3.perm ?_
        simp only [List.flatten_cons, List.flatten_append, List.singleton_append]
        exact List.perm_middle.trans (List.Perm.cons _ List.perm_middle)
      have hl3 := hs3'.get (w.heap.size + 1, Obj.loop { rec .ready none with state := .busy }) (by simp)
      have hend := run_endRound (P := P) none hl3
      refine ⟨_, _, hend, ?_⟩
      refine hK _ _ _ ⟨[(w.heap.size + 1, .loop (rec .ready none)), (w.heap.size, .deferred (some []))] ++ H2.flatten, rfl, rfl, H2, hI2, rfl⟩ ?_
      have hfin := hs3'.turn (o' := .loop (rec .ready none))
      have hsame : ({ { rec .ready none with state := LoopState.busy } with state := if (none : Option Code).isNone = true then LoopState.ready else .done, pending := none } : Loop) = rec .ready none := by rw [hrec]; rfl
      rw [hsame]
      refine hfin.perm ?_
      simp

section
variable {P : Program} {env : Env} {d : Option Nat} {ty : TypeId} {pos : String} {af : Array Edge} {g : Option (Nat × Bool)}
theorem p_max_int {x y : Operand} {Ts : Array TypeId} {k : IntKind} {m n : Int} (hx : ∀ a, ev a env x = .int k m) (hy : ∀ a, ev a env y = .int k n) : OpP P ⟨d, .call ⟨.builtin .max, #[x, y], Ts⟩, ty, pos, af, g⟩ env [] (.int k (max m n)) := fun a w _ => by
  simp [x_call, resolve, invoke, builtin, hx a, hy a, Builtin.max_, Builtin.max2]
  by_cases h : m < n
  · simp [h, show max m n = n by omega]
  · simp [h, show max m n = m by omega]
/-- One less, but not below zero. -/
theorem p_max_pred {x y : Operand} {Ts : Array TypeId} {k : IntKind} {m : Nat} (hx : ∀ a, ev a env x = .int k ((m : Int) - 1)) (hy : ∀ a, ev a env y = .int k 0) : OpP P ⟨d, .call ⟨.builtin .max, #[x, y], Ts⟩, ty, pos, af, g⟩ env [] (.int k ((m - 1 : Nat) : Int)) := by
  have h := p_max_int (P := P) (d := d) (ty := ty) (pos := pos) (af := af) (g := g) (Ts := Ts) hx hy
  rwa [show max ((m : Int) - 1) 0 = ((m - 1 : Nat) : Int) by omega] at h
end
end Gw


namespace Go.Proofs.YtjeepldonhgohaaGreatDoor
open Go.Proofs.Tryz
open Go Go.RowKit Gw
set_option linter.unusedVariables false
set_option linter.unusedSimpArgs false
set_option maxRecDepth 100000
attribute [local irreducible] Gw.At Gw.Nx Gw.Ops
/-- Rows that lie in memory. -/
def RowsU (M : List Chunk) (v : Value) (rs : List RowM) : Prop := ∃ p cap, v = .slice p rs.length cap ∧ (rs.length ≤ maxLen ∧ rs.length ≤ cap) ∧ ∀ (i : Nat) (x : RowM), rs[i]? = some x → ∃ g off cur T zz, p = some ⟨g, off, none⟩ ∧ (g, Obj.cells cur T zz) ∈ M ∧ off + i * 5 + 5 ≤ cur.size ∧ cur.extract (off + i * 5) (off + i * 5 + 5) = #[.int .i64 x.t, .int .i64 x.k, .int .i64 x.v.a, .int .i64 x.v.b, .int .i64 x.v.c]
theorem rowsU_row {e : TypeId} {v : Value} {rs : List RowM} {s : List Chunk} (h : RowS 5 e v rs.length (rowCells rs) s) (hn : rs.length ≤ maxLen) : RowsU s v rs := by
  obtain ⟨b, cap, rfl⟩ := h.form
  refine ⟨b, cap, rfl, ⟨hn, rowS_le h⟩, fun i x hx => ?_⟩
  obtain ⟨g, cap', cur, z, hv, rfl, hsz, hex⟩ := rowS_ext h i (List.getElem?_eq_some_iff.1 hx).1
  injection hv with hv1 hv2 hv3
  refine ⟨g, 0, cur, e, z, hv1, by simp, by omega, ?_⟩
  unfold rowCells at hex
  rw [flat_at _ 5 (fun _=>rfl) rs i x hx] at hex
  rw [Nat.zero_add]
  exact Array.toList_inj.1 hex
theorem RowsU.mono {M M' : List Chunk} {v : Value} {ls : List RowM} (h : RowsU M v ls) (hm : ∀ c ∈ M, c ∈ M') : RowsU M' v ls := by
  obtain ⟨p, cap, e, hl, hg⟩ := h
  refine ⟨p, cap, e, hl, fun i s hs => ?_⟩
  obtain ⟨g, off, cur, T, zz, e1, h1, h2⟩ := hg i s hs
  exact ⟨g, off, cur, T, zz, e1, hm _ h1, h2⟩
/-- A row, encoded. -/
def encRow (r : RowM) : Bs := putAll [r.t, r.k] ++ putAll [r.v.a, r.v.b, r.v.c]
theorem row_num {r : RowM} (h : r.ok) : (∀ n ∈ [r.t, r.k], -4611686018427387903 ≤ n ∧ n ≤ 4611686018427387903) ∧ (∀ n ∈ [r.v.a, r.v.b, r.v.c], -4611686018427387903 ≤ n ∧ n ≤ 4611686018427387903) := by
  obtain ⟨⟨h1, h2, h3⟩, h4, h5⟩ := h
  unfold inV at h1 h2 h3
  constructor
  · intro n hn
    simp only [List.mem_cons, List.not_mem_nil, or_false] at hn
    rcases hn with rfl | rfl <;> omega
  · intro n hn
    simp only [List.mem_cons, List.not_mem_nil, or_false] at hn
    rcases hn with rfl | rfl | rfl <;> omega
theorem encRow_len {r : RowM} (h : r.ok) : (encRow r).length ≤ 45 := by
  have h1 := putAll_len _ (row_num h).1
  have h2 := putAll_len _ (row_num h).2
  unfold encRow
  rw [List.length_append]
  simp only [List.length_cons, List.length_nil] at h1 h2
  omega
theorem ints_two (a b : Int) : IntsAt #[.int .i64 a, .int .i64 b] 0 [a, b] := by
  intro i n h
  rcases i with _ | _ | i
  · simp at h; subst h; rfl
  · simp at h; subst h; rfl
  · simp at h
theorem ints_v3 (r : RowM) : IntsAt #[.int .i64 r.t, .int .i64 r.k, .int .i64 r.v.a, .int .i64 r.v.b, .int .i64 r.v.c] 2 [r.v.a, r.v.b, r.v.c] := by
  intro i n h
  rcases i with _ | _ | _ | i
  · simp at h; subst h; rfl
  · simp at h; subst h; rfl
  · simp at h; subst h; rfl
  · simp at h

theorem rw_encode (r : RowM) (hr : r.ok) : DoesR Tryz.prog 62 #[.agg #[.int .i64 r.t, .int .i64 r.k, .int .i64 r.v.a, .int .i64 r.v.b, .int .i64 r.v.c]] [] (.tuple #[.string (str (encRow r)), .int .i64 0]) := by
 have hn := row_num hr
 have hl1 := putAll_len _ hn.1
 have hl2 := putAll_len _ hn.2
 simp only [List.length_cons, List.length_nil] at hl1 hl2
 refine spec_enter func62 rfl ntmps62 rfl ?_
 intro u R
 refine Zb [0] ?_
 refine Zq <| Zg <| Ze (w_box Y (cs := #[_, _, _, _, _]) rfl) ?_
 rintro _ _ ⟨xb, rfl, rfl⟩
 refine Za Y <| Za Y <| Z0 <| Zx <| Zq <| Zq <| Zg <| Zo (by repeat (first | exact Has.here _ | apply Has.there)) (p_load_agg (cs := #[_, _, _, _, _]) isAgg74 sizeOf74 Y (by first | decide | exact Nat.le_refl _ | (simp; done) | (simp; omega)) (by rfl)) ?_
 refine Zr [_] Y call89 Y rfl (rw_valid r) ?_
 rintro _ _ ⟨rfl, rfl⟩
 rw [decide_eq_true hr]
 refine Zv (p_not Y) <| Z0 <| Zx ?_
 refine at_if_bool Y (fun hv => ?_) (fun hv => ?_)
 ·
  cases hv
 ·
  refine at_skip <| Zx <| Zq <| at_draw (n := 12) (0 :: 1 :: 0 :: 4 :: 15 :: 31 :: 0 :: 64 :: 255 :: 511 :: 1023 :: 2047 :: []) 304 (by kernel_rfl) (by kernel_rfl) rfl ?_
  refine Zi 1 0 rfl (p_fieldAddr0 (off := 0) underlying74 rfl rfl sizeOf3 Y) <| Zj 3 1 rfl isAgg3 Y ?_
  refine Zi 7 2 rfl (p_fieldAddr0 (off := 1) underlying74 rfl rfl sizeOf3 Y) <| Zj 15 3 rfl isAgg3 Y ?_
  refine Zi 79 6 rfl (p_fieldAddr0 (off := 2) underlying74 rfl rfl sizeOf47 Y) <| Zi 207 7 rfl (p_slice_arr_all underlying47 sizeOf3 Y) <| Zz (l := [4]) ?_
  refine Zy 15 223 [3, 1] [false, false] [] rfl Y rfl rfl rfl rfl (w_buildSlice (vs := [_, _]) (cs := [_, _]) underlying61 sizeOf3 zeroValue3 Y rfl rfl rfl rfl rfl) ?hk_1 (fun _ _ h => h.elim) ?hl_1
  case hk_1 =>
   rintro _ _ ⟨gb, rfl, rfl⟩
   refine ⟨keep_nil, ?_⟩
   refine Zz (l := [5]) ?_
   refine Zy 31 255 [] [] [] rfl Y rfl rfl rfl rfl (Zu [_] Y call95 Y rfl (rw_put gb 0 2 _ _ _ [r.t, r.k] (ints_two r.t r.k) (by simp) hn.1)) ?hk_2 (fun _ _ h => h.elim) ?hl_2
   case hk_2 =>
    rintro _ _ ⟨rfl, rfl⟩
    refine ⟨keep_nil, ?_⟩
    refine Zz (l := [8]) ?_
    refine Zy 255 511 [] [] [] rfl Y rfl rfl rfl rfl (Zu [_] Y call95 Y rfl (rw_put xb 2 3 _ _ _ [r.v.a, r.v.b, r.v.c] (ints_v3 r) (by simp) hn.2)) ?hk_3 (fun _ _ h => h.elim) ?hl_3
    case hk_3 =>
     rintro _ _ ⟨rfl, rfl⟩
     refine ⟨keep_nil, ?_⟩
     (refine lin_v (D' := 1023) 9 (p_add_str Y Y ?_) ?_; (focus (rw [str_size, str_size]; omega)))
     refine Zi 2047 10 rfl (p_assign Y) <| Zi 4095 11 rfl (p_assign Y) <| lin_nil ?_
     refine Zn [2, 3] ?_
     refine Zx <| at_ret ?_
     refine nx_end2 rfl results62 Y Y (by exact ⟨by rw [str_app]; rfl, rfl⟩)
    case hl_3 =>
     exact each_nil
   case hl_2 =>
    exact each_nil
  case hl_1 =>
   exact each_nil

/-- The rows of a table, ordered by a column. -/
def ordL (rs : List RowM) (t : Int) (c : Nat) : List RowM := rangeL rs t c (-1000000000) 1000000000
theorem ordL_len {rs : List RowM} (hs : SortedR rs) (t : Int) (c : Nat) : (ordL rs t c).length ≤ rs.length := by
  unfold ordL
  rw [(rangeL_perm rs t c _ _).length_eq]
  exact List.length_filter_le _ _
theorem range_mem {rs : List RowM} {t : Int} {c : Nat} {lo hi : Int} {r : RowM} (h : r ∈ rangeL rs t c lo hi) : r ∈ rs := (List.mem_filter.1 ((rangeL_perm rs t c lo hi).mem_iff.1 h)).1
def encL (l : List RowM) : List Bs := l.map encRow
theorem encL_len (l : List RowM) : (encL l).length = l.length := List.length_map ..
theorem enc_snoc {l : List RowM} {i : Nat} {x : RowM} (h : l[i]? = some x) : (encL (l.take (i + 1))).map strV = (encL (l.take i)).map strV ++ [.string (str (encRow x))] := by
  rw [take_snoc h]; unfold encL; rw [List.map_append, List.map_append]; rfl
/-- An order: its rows and their encodings. -/
def OrdIs (l : List RowM) (vr ve : Value) (sr se : List Chunk) : Prop := RowS 5 74 vr (l).length (rowCells (l)) sr ∧ RowS 1 9 ve l.length ((encL l).map strV) se

theorem order_spec (v : Value) (p : Int) (rs : List RowM) (s : List Chunk) (hv : StIs v p rs s) (hs : SortedR rs) (hn : rs.length ≤ 2000) (hok : ∀ r ∈ rs, r.ok) (t : Int) (c : Nat) (hc : c ≤ 3) :
    Does Tryz.prog 38 #[v, .int .i64 t, .int .i64 (c : Int)] [s] (fun r H' => ∃ vr ve sr se, r = .agg #[vr, ve] ∧ OrdIs (ordL rs t c) vr ve sr se ∧ H' = [sr, se, s]) := by
 have hml : maxLen = 9223372036854775807 := rfl
 have hll := ordL_len hs t c
 refine spec_enter func38 rfl ntmps38 rfl ?_
 intro u R
 refine Zb [0, 1, 2] ?_
 refine Zq <| Zg <| Ze (w_alloc zeroValue81 (cs := #[_, _]) rfl) ?_
 rintro _ _ ⟨qb, rfl, rfl⟩
 refine Z0 <| Zx <| Zq <| Zg <| Zm Y <| Zm Y <| Zm Y <| Zc [_, _, _, _, _] Y call25 Y rfl (st_range v p rs s hv t c (-1000000000) 1000000000 hc) ?_
 rintro _ _ ⟨_, ⟨sr, hrr, rfl⟩, rfl⟩
 change RowS 5 74 _ (ordL rs t c).length (rowCells (ordL rs t c)) sr at hrr
 obtain ⟨qr, cr, rfl⟩ := hrr.form
 have hRU := rowsU_row hrr (by omega)
 obtain ⟨p9, cap9, e9, hol, hg⟩ := id hRU
 injection e9 with e91 e92 e93
 subst e91 e93
 refine Zv (p_build (vs := [(0, _)]) (cs := #[_, _]) Y (run_build_struct (pl := #[(0, 1), (1, 1)]) zeroValue81 underlying81 (fun _ => by kernel_rfl) rfl)) ?_
 refine Ze (w_alloc zeroValue81 (cs := #[_, _]) rfl) ?_
 rintro _ _ ⟨ob, rfl, rfl⟩
 refine Ze (w_store_agg sizeOf81 Y Y (by (simp [Value.oneCell', Value.cells]; done)) (by repeat (first | exact Upd.here _ | apply Upd.there)) (by exact (rfl : _ = (#[.slice qr (ordL rs t c).length cr, .slice none 0 0] : Array Value))) (by first | rfl | (simp; done)) (by first | omega | decide | (simp; done)) (by exact free_zero _)) ?_
 rintro _ _ ⟨rfl, rfl⟩
 refine Z0 <| Zx <| Zq <| Zq <| Zg <| Zh 0 underlying81 rfl rfl sizeOf33 Y <| Zl isAgg33 Y ?_
 refine Zv (p_len_slice underlying33 Y) <| Zm Y <| Z0 <| Zx <| at_block <| at_nil ?_
 refine Zb [20, 6, 7, 18, 19] ?_
 refine at_loopB (e0 := [(20, _)]) (H0 := _) (n := _) (fun m e H => ∃ (i : Nat) (ve : Value) (se : List Chunk), m = (ordL rs t c).length - i ∧ (i ≤ (ordL rs t c).length ∧ RowS 1 9 ve i ((encL ((ordL rs t c).take i)).map strV) se) ∧ e = [(20, .int .i64 (i : Int))] ∧ H = [[(ob, .cells #[.slice qr (ordL rs t c).length cr, ve] 81 (0, 0))], se]) (by exact ⟨0, .slice none 0 0, [], rfl, ⟨Nat.zero_le _, rowS_nil 1 _⟩, rfl, rfl⟩) (by repeat (first | exact Pull.nil _ | (apply Pull.cons; (focus (repeat (first | exact One.here _ _ | apply One.there)))))) ?_
 rintro _ _ _ ⟨i, ve, se, rfl, ⟨hi, hre⟩, rfl, rfl⟩
 obtain ⟨qe, ce, rfl⟩ := hre.form
 refine Zq <| Zg <| Zv (p_lss_nat Y Y) <| Z0 <| Zx <| Zq ?_
 refine at_if Y (fun hlt => ?_) (fun hlt => ?_)
 ·
  obtain ⟨x, hx⟩ : ∃ x, (ordL rs t c)[i]? = some x := ⟨_, List.getElem?_eq_getElem hlt⟩
  obtain ⟨g, off, cur, T, zz, rfl, hm9, hsz9, hex9⟩ := hg i x hx
  have hxo := hok x (range_mem (List.mem_of_getElem? hx))
  refine at_skip <| Zx <| Zq <| at_block <| Zq <| Zg ?_
  (refine op_v (p_indexAddr_nat underlying33 sizeOf74 Y Y ?_) ?_; (focus (first | omega | decide | (simp; done))))
  refine op_rm (cs := [(g, .cells cur T zz)]) (by simp [hm9]) (p_load_agg (cs := #[.int .i64 x.t, .int .i64 x.k, .int .i64 x.v.a, .int .i64 x.v.b, .int .i64 x.v.c]) isAgg74 sizeOf74 Y (by omega) hex9) rfl rfl ?_
  refine Ze (w_alloc zeroValue74 (cs := #[_, _, _, _, _]) rfl) ?_
  rintro _ _ ⟨xb, rfl, rfl⟩
  refine Ze (w_store_agg sizeOf74 Y Y (by (simp [Value.oneCell']; done)) (by repeat (first | exact Upd.here _ | apply Upd.there)) (by exact (rfl : _ = (#[.int .i64 x.t, .int .i64 x.k, .int .i64 x.v.a, .int .i64 x.v.b, .int .i64 x.v.c] : Array Value))) (by first | rfl | (simp; done)) (by first | omega | decide | (simp; done)) (by exact free_zero _)) ?_
  rintro _ _ ⟨rfl, rfl⟩
  refine Z0 <| Zx <| Zq <| Zg <| Zo (by repeat (first | exact Has.here _ | apply Has.there)) (p_load_agg (cs := #[_, _, _, _, _]) isAgg74 sizeOf74 Y (by first | decide | exact Nat.le_refl _ | (simp; done) | (simp; omega)) (by rfl)) ?_
  refine Zr [_] Y call62 Y rfl (rw_encode x hxo) ?_
  rintro _ _ ⟨rfl, rfl⟩
  refine Zm Y <| Zd Y rfl <| Zd Y rfl <| Za Y <| Za Y <| Z0 <| Zx <| Zg <| Zh 1 underlying81 rfl rfl sizeOf35 Y <| Zl isAgg35 Y ?_
  refine Zm Y <| Ze (w_buildSlice (vs := [_]) (cs := [_]) underlying35 sizeOf9 zeroValue9 Y rfl rfl rfl rfl rfl) ?_
  rintro _ _ ⟨b4, rfl, rfl⟩
  refine Ze (w_appendS (by_ := 16) (sz := 1) (news := [_]) underlying35 (rfl : Tryz.prog.info? 9 = some Tryz.t9) rfl rfl rfl rfl Y hre Y (by repeat (first | exact One.here _ _ | apply One.there)) (by repeat (first | exact Has.here _ | apply Has.there)) (by rfl) rfl (by simp [Value.oneCell']) (by decide) (by omega) (by omega)) ?_
  rintro _ _ ⟨sw5, hrw5, rfl⟩
  obtain ⟨gw5, cw5, rfl⟩ := hrw5.form
  refine Zh 1 underlying81 rfl rfl sizeOf35 Y <| Ze (Zs sizeOf35 Y Y rfl (hc := by exact (rfl : _ = (#[.slice _ (ordL rs t c).length cr, _] : Array Value))) (hi := by first | omega | decide | (simp; done))) ?_
  rintro _ _ ⟨rfl, rfl⟩
  refine Z0 <| Zn [6, 7, 18, 19, 20] ?_
  refine nx_block_normal <| Zx <| Zg ?_
  (refine op_v (p_add_nat (n := 1) Y Y ?_) ?_; (focus (omega)))
  refine Zm Y <| Z0 <| Zn [20, 6, 7, 18, 19] ?_
  refine nx_againB (e' := [(20, _)]) (m := _) (H' := _) (by exact ⟨i + 1, _, _, rfl, ⟨by omega, rowS_eq hrw5 rfl (by rw [enc_snoc hx])⟩, rfl, rfl⟩)
 ·
  have ei : i = (ordL rs t c).length := by omega
  subst ei
  rw [List.take_length] at hre
  refine at_exit <| Zt <| Zt <| nx_block_exit <| Zx <| Zq <| Zg <| Zo (by repeat (first | exact Has.here _ | apply Has.there)) (p_load_agg (cs := #[_, _]) isAgg81 sizeOf81 Y (by first | omega | decide | (simp; done)) (by rfl)) ?_
  refine Ze (w_store_agg sizeOf81 Y Y (by (simp [Value.oneCell', Value.cells]; done)) (by repeat (first | exact Upd.here _ | apply Upd.there)) (by exact (rfl : _ = (#[.slice qr (ordL rs t c).length cr, .slice qe _ ce] : Array Value))) (by first | rfl | (simp; done)) (by first | omega | decide | (simp; done)) (by exact free_zero _)) ?_
  rintro _ _ ⟨rfl, rfl⟩
  refine Z0 <| Zx <| at_ret ?_
  refine nx_endc1 rfl results38 Y (by repeat (first | exact Has.here _ | apply Has.there)) (loadVar_agg isAgg81 sizeOf81 (by first | decide | exact Nat.le_refl _ | (simp; done) | (simp; omega)) (rfl)) (by exact ⟨.slice qr _ cr, .slice qe _ ce, sr, se, rfl, ⟨hrr, hre⟩, rfl⟩)

theorem order_specJ (v : Value) (p : Int) (rs : List RowM) (s : List Chunk) (hv : StIs v p rs s) (hs : SortedR rs) (hn : rs.length ≤ 2000) (hok : ∀ r ∈ rs, r.ok) (t : Int) (c : Nat) (hc : c ≤ 3) :
    Does Tryz.prog 38 #[v, .int .i64 t, .int .i64 (c : Int)] [s] (fun r H' => ∃ vr ve sr se, r = .agg #[vr, ve] ∧ OrdIs (ordL rs t c) vr ve sr se ∧ H' = [sr ++ se, s]) := by
  refine does_re (order_spec v p rs s hv hs hn hok t c hc) rfl ?_
  rintro r H' ⟨vr, ve, sr, se, rfl, h, rfl⟩
  exact ⟨_, ⟨vr, ve, sr, se, rfl, h, rfl⟩, by simp⟩
/-- All tables and columns. -/
def tcs : List (Nat × Nat) := (List.range 4).flatMap fun t => (List.range 4).map fun c => (t, c)
theorem tc_at : ∀ t, t < 4 → ∀ c, c < 4 → tcs[4 * t + c]? = some (t, c) := by decide
/-- The summary of an order. -/
def summ (rs : List RowM) (x : Nat × Nat) : Bs := encI ((ordL rs (x.1 : Int) x.2).length : Int) ++ rootT (encL (ordL rs (x.1 : Int) x.2))
def sumL (rs : List RowM) : List Bs := tcs.map (summ rs)
def rootS (rs : List RowM) : Bs := rootT (sumL rs)
def EncO (rs : List RowM) (x : Nat × Nat) (vs : Array Value) (sx : List Chunk) : Prop := ∃ vr ve sr se, vs = #[.agg #[vr, ve]] ∧ OrdIs (ordL rs (x.1 : Int) x.2) vr ve sr se ∧ sx = sr ++ se
theorem encL_ok {l : List RowM} (h : ∀ r ∈ l, r.ok) : ∀ s ∈ encL l, s.length ≤ 45 := by
  intro s hs
  obtain ⟨r, hr, rfl⟩ := List.mem_map.1 hs
  exact encRow_len (h r hr)
theorem summ_len {rs : List RowM} (hs : SortedR rs) (hn : rs.length ≤ 2000) (x : Nat × Nat) : (summ rs x).length ≤ 41 := by
  have h1 := ordL_len hs (x.1 : Int) x.2
  have h2 := encI_len ((ordL rs (x.1 : Int) x.2).length : Int) (by omega) (by omega)
  unfold summ
  rw [List.length_append, root_len]
  omega

end Go.Proofs.YtjeepldonhgohaaGreatDoor
