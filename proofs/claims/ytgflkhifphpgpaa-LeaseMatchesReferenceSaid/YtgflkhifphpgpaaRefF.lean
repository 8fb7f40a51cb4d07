/- The reference table of layer 16: Expire. -/
import Derived.Test.YtgflkhifphpgpaaRefC
namespace Go.Proofs.Ytgflkhifphpgpaa
open Go Go.RowKit Gw
open Go.ChangeMaps (setBlock)
set_option maxHeartbeats 1000000
set_option maxRecDepth 100000

def oldsR (now : Int) (R : RL) : List ByteArray := (R.filter fun q => oldB q.2.began now).map (·.1)
def restR (now : Int) (R : RL) : RL := R.filter fun q => !oldB q.2.began now
def RExpPost (B : Nat) (now : Int) (b : Nat) (sv : Value) (R : RL) (n : Int) (w : World) (e : Ending) (w' : World) : Prop :=
  ∃ v, e = .returned v ∧ w'.ownsRow w.heap.size 9 1 v (oldsR now R).length ((oldsR now R).map Value.string) ∧ RPost B b sv (restR now R) n w w'
theorem olds_succ {now : Int} {R : RL} {j : Nat} {q : ByteArray × Ls} (h : R[j]? = some q) : oldsR now (R.take (j + 1)) = oldsR now (R.take j) ++ (if oldB q.2.began now then [q.1] else []) := by
  unfold oldsR
  rw [List.take_add_one, h, List.filter_append, List.map_append]
  congr 1
  by_cases ho : oldB q.2.began now = true <;> simp [ho]
theorem rest_succ {now : Int} {R : RL} {j : Nat} {q : ByteArray × Ls} (h : R[j]? = some q) : restR now (R.take (j + 1)) = restR now (R.take j) ++ (if oldB q.2.began now then [] else [q]) := by
  unfold restR
  rw [List.take_add_one, h, List.filter_append]
  congr 1
  by_cases ho : oldB q.2.began now = true <;> simp [ho]
theorem olds_len (now : Int) (R : RL) : (oldsR now R).length ≤ R.length := by unfold oldsR; rw [List.length_map]; exact List.length_filter_le _ _
theorem rest_len (now : Int) (R : RL) : (restR now R).length ≤ R.length := List.length_filter_le _ _
theorem own_ne {w : World} {B1 B2 e1 e2 s1 s2 n1 n2 : Nat} {v1 v2 : Value} {x1 x2 : List Value} (h1 : w.ownsRow B1 e1 s1 v1 n1 x1) (h2 : w.ownsRow B2 e2 s2 v2 n2 x2) (hne : e1 ≠ e2) {g : Nat} (hg : v1.ownBlock = some g) : v2.ownBlock ≠ some g := by
  rcases h1.2 with ⟨rfl, _⟩ | ⟨g1, c1, u1, rfl, _, hh1, _⟩
  · cases hg
  rcases h2.2 with ⟨rfl, _⟩ | ⟨g2, c2, u2, rfl, _, hh2, _⟩
  · intro h; cases h
  intro h
  have a1 : g1 = g := by simpa [Value.ownBlock] using hg
  have a2 : g2 = g := by simpa [Value.ownBlock] using h
  subst a1
  subst a2
  rw [hh1] at hh2
  injection hh2 with hh2
  injection hh2 with _ ht
  exact hne ht
theorem own_same {w w' : World} {base : Nat} {e : TypeId} {size : Nat} {v : Value} {n : Nat} {xs : List Value} (h : w.ownsRow base e size v n xs) (hb : ∀ g, v.ownBlock = some g → w'.heap[g]? = w.heap[g]?) : w'.ownsRow base e size v n xs := by
  obtain ⟨h1, h2⟩ := h
  refine ⟨h1, ?_⟩
  rcases h2 with h2 | ⟨g, cap, cur, hv, hg, hh, r⟩
  · exact Or.inl h2
  · exact Or.inr ⟨g, cap, cur, hv, hg, by rw [hb g (by rw [hv]; rfl)]; exact hh, r⟩
theorem own_lt' {w : World} {base : Nat} {e : TypeId} {size : Nat} {v : Value} {n : Nat} {xs : List Value} (h : w.ownsRow base e size v n xs) : ∀ g, v.ownBlock = some g → base ≤ g ∧ g < w.heap.size := by
  intro g hg
  rcases h.2 with ⟨h2, _⟩ | ⟨g', cap, cur, hv, hb, hh, _⟩
  · subst h2; cases hg
  · subst hv
    have : g' = g := by simpa [Value.ownBlock] using hg
    subst this
    exact ⟨hb, lt_of_get hh⟩
theorem own_slice {w : World} {base : Nat} {e : TypeId} {size : Nat} {v : Value} {n : Nat} {xs : List Value} (h : w.ownsRow base e size v n xs) : ∃ a l c, v = .slice a l c := by
  rcases h.2 with ⟨h, _⟩ | ⟨g, cap, cur, h, _⟩
  · exact ⟨_, _, _, h⟩
  · exact ⟨_, _, _, h⟩
theorem wpList_app_lease {ops : Array Oper} {rest : List Oper} {o : Oper} {a : Act} {Q : Exit → Act → World → Prop} (w : World) (hg : o.guard = none) (s x : Operand)
    (ho : o.op = .call { callee := .builtin .append, args := #[s, x], argTypes := #[36, 36] }) (base : Nat)
    (v : Value) (n : Nat) (xs : List Value) (hs : a.eval s = v) (hown : w.ownsRow base 60 4 v n xs)
    (g0 : Nat) (c : Nat) (q : ByteArray × Ls) (hx : a.eval x = .slice (some ⟨g0, 0, none⟩) 1 c) (hu : w.heap[g0]? = some (.cells #[.string q.1, .int .i64 q.2.tok, .int .i64 q.2.began, .int .i64 q.2.bar] 60 (0, 0))) (hn : n ≤ 1000000) (hbase : base ≤ w.heap.size)
    (hK : ∀ g cap w', w'.ownsRow base 60 4 (.slice (some ⟨g, 0, none⟩) (n + 1) cap) (n + 1) (xs ++ rcell q) → w.grownBy w' v.ownBlock → (v.ownBlock = some g ∨ g = w.heap.size) → g < w'.heap.size →
      wpList Try.prog ops Q rest (a.put o.dst (.slice (some ⟨g, 0, none⟩) (n + 1) cap)) w') : wpList Try.prog ops Q (o :: rest) a w := by
  obtain ⟨i, hi0, hz0, hsz, hby⟩ := info_parts leaseInf
  exact wpList_append_lies w hg s x 36 ho base 60 i _ 4 40 Try.underlying36 hi0 hz0 hsz hby rfl (by omega) v n xs hs hown ⟨g0, 0, none⟩ 1 c (rcell q) hx rfl (World.news_of_block hu) rcell_one (by omega) (by unfold maxLen; omega) (by omega) hbase _ rfl hK

structure RExI (now : Int) (R : RL) (j : Nat) (w wr : World) (ov rv : Value) : Prop where
  below : Below w.heap.size w wr
  o : wr.ownsRow w.heap.size 9 1 ov (oldsR now (R.take j)).length ((oldsR now (R.take j)).map Value.string)
  r : wr.ownsRow w.heap.size 60 4 rv (restR now (R.take j)).length (rcells (restR now (R.take j)))
section
variable {now : Int} {R : RL} {j : Nat} {w wr w1 w2 : World} {ov rv : Value} {q : ByteArray × Ls}
theorem RExI.grow (h : RExI now R j w wr ov rv) (hb : Below wr.heap.size wr w1) : RExI now R j w w1 ov rv :=
  ⟨h.below.trans (hb.mono h.below.size), own_same h.o fun g hg => hb.block g (own_lt' h.o g hg).2, own_same h.r fun g hg => hb.block g (own_lt' h.r g hg).2⟩
theorem RExI.old (h : RExI now R j w wr ov rv) (hq : R[j]? = some q) (ho : oldB q.2.began now = true) {ob : Obj} {g cap : Nat} (hown : w2.ownsRow w.heap.size 9 1 (.slice (some ⟨g, 0, none⟩) ((oldsR now (R.take j)).length + 1) cap) ((oldsR now (R.take j)).length + 1) ((oldsR now (R.take j)).map Value.string ++ [.string q.1]))
    (hg : (wr.alloc ob).grownBy w2 ov.ownBlock) : RExI now R (j + 1) w w2 (.slice (some ⟨g, 0, none⟩) ((oldsR now (R.take j)).length + 1) cap) rv := by
  have hr : (wr.alloc ob).ownsRow w.heap.size 60 4 rv _ _ := h.r.alloc ob
  have e1 : oldsR now (R.take (j + 1)) = oldsR now (R.take j) ++ [q.1] := by rw [olds_succ hq]; simp [ho]
  have e2 : restR now (R.take (j + 1)) = restR now (R.take j) := by rw [rest_succ hq]; simp [ho]
  refine ⟨?_, ?_, ?_⟩
  · exact (h.below.alloc h.below.size ob).trans (Keep.belowN (S := fun i => ov.ownBlock = some i) (Keep.grown (S := fun i => ov.ownBlock = some i) (Keep.refl _ _) hg fun k hk _ => hk) (by rw [World.size_alloc]; exact Nat.le_succ_of_le h.below.size) fun k hk => (own_lt' h.o k hk).1)
  · rw [e1]; simpa using hown
  · rw [e2]
    exact own_same hr fun g' hg' => hg.block g' (own_lt' hr g' hg').2 (fun e => own_ne h.r h.o (by decide) hg' e.symm)
theorem RExI.stay (h : RExI now R j w wr ov rv) (hq : R[j]? = some q) (ho : oldB q.2.began now = false) {ob : Obj} {g cap : Nat} (hown : w2.ownsRow w.heap.size 60 4 (.slice (some ⟨g, 0, none⟩) ((restR now (R.take j)).length + 1) cap) ((restR now (R.take j)).length + 1) (rcells (restR now (R.take j)) ++ rcell q))
    (hg : (wr.alloc ob).grownBy w2 rv.ownBlock) : RExI now R (j + 1) w w2 ov (.slice (some ⟨g, 0, none⟩) ((restR now (R.take j)).length + 1) cap) := by
  have hr : (wr.alloc ob).ownsRow w.heap.size 9 1 ov _ _ := h.o.alloc ob
  have e1 : oldsR now (R.take (j + 1)) = oldsR now (R.take j) := by rw [olds_succ hq]; simp [ho]
  have e2 : restR now (R.take (j + 1)) = restR now (R.take j) ++ [q] := by rw [rest_succ hq]; simp [ho]
  refine ⟨?_, ?_, ?_⟩
  · exact (h.below.alloc h.below.size ob).trans (Keep.belowN (S := fun i => rv.ownBlock = some i) (Keep.grown (S := fun i => rv.ownBlock = some i) (Keep.refl _ _) hg fun k hk _ => hk) (by rw [World.size_alloc]; exact Nat.le_succ_of_le h.below.size) fun k hk => (own_lt' h.r k hk).1)
  · rw [e1]
    exact own_same hr fun g' hg' => hg.block g' (own_lt' hr g' hg').2 (fun e => own_ne h.o h.r (by decide) hg' e.symm)
  · rw [e2, rcells_append]
    have : rcells [q] = rcell q := by simp [rcells]
    rw [this]; simpa using hown
theorem RExI.done {B b : Nat} {sv : Value} {n : Int} (hT : RefT B w b sv R n) (h : RExI now R R.length w wr ov rv) : RExpPost B now b sv R n w (.returned ov) (wr.setCell ⟨b, 0, none⟩ rv) := by
  have ho := h.o
  have hr := h.r
  rw [List.take_length] at ho hr
  obtain ⟨r1, r2⟩ := RowR.of_own hr
  have hs : (restR now R).Sublist R := List.filter_sublist
  refine ⟨ov, rfl, ownsRow_setCell_below ho (a := ⟨b, 0, none⟩) (lt_of_get hT.hd) rv, ?_⟩
  exact row_new hT (Keep.of_below h.below _) r1 (fun g hg => .inr (r2 g hg)) (hT.srt.sublist hs) (fun q hq => hT.times q (hs.subset hq)) (Nat.le_trans hs.length_le hT.len)
end
theorem rexpire_never (now : Int) (b : Nat) (w : World) (ht : isTimeB now = false) :
    Calls Try.prog 21 #[.pointer (some ⟨b, 0, none⟩), .int .i64 now] w fun e w' => e = .returned (.slice none 0 0) ∧ w = w' := by
  have h : now < 0 ∨ (0 ≤ now ∧ 4611686018427387903 < now) := by
    unfold isTimeB maxInt at ht
    simp only [Bool.and_eq_false_iff, decide_eq_false_iff_not] at ht
    omega
  clear ht
  rcases h with h | ⟨h, h2⟩
  all_goals
    go_enter Try.func21, Try.ntmps21
    go_wp2
    go_ret
    exact ⟨rfl, rfl⟩
theorem rexpire_calls (B : Nat) (now : Int) (b : Nat) (sv : Value) (R : RL) (n : Int) (w : World) (hT : RefT B w b sv R n) (ht : isTimeB now = true) :
    Calls Try.prog 21 #[.pointer (some ⟨b, 0, none⟩), .int .i64 now] w (RExpPost B now b sv R n w) := by
  have HT := Lib.hid hT
  obtain ⟨ao, cap, rfl, hcap, hnil, hel⟩ := hT.row.form
  have HEL := Lib.hid hel
  have hlen := hT.len
  obtain ⟨ht0, ht1⟩ : 0 ≤ now ∧ now ≤ 4611686018427387903 := by
    unfold isTimeB maxInt at ht; simpa using ht
  have HNOW : Hid (0 ≤ now ∧ now ≤ maxInt) := ⟨ht0, ht1⟩
  have hbl := lt_of_get hT.hd
  clear hT hel hnil ht
  go_enter Try.func21, Try.ntmps21
  go_wp2
  go_loopw [5, 6, 7] (fun o r i wr => ∃ (j : Nat) (ov rv : Value), i = .int .i64 j ∧ ov = o ∧ rv = r ∧ j ≤ R.length ∧ RExI now R j w wr ov rv) (fun _ _ i _ => R.length - (intOf i).toNat)
  case atStart => exact ⟨0, _, _, rfl, rfl, rfl, Nat.zero_le _, ⟨Below.refl _ _, World.ownsRow_nil _ _ _ _, World.ownsRow_nil _ _ _ _⟩⟩
  case round =>
    obtain ⟨j, ov, rv, rfl, rfl, rfl, hj, hI⟩ := hrel
    have HI := Lib.hid hI
    clear hI
    have hcb : wr.cell? ⟨b, 0, none⟩ = some (.slice ao R.length cap) := (HI.out.below.cell (p := ⟨b, 0, none⟩) hbl).trans (cell_of_block HT.out.hd rfl)
    by_cases hlt : j < R.length
    · obtain ⟨q, hq⟩ : ∃ q, R[j]? = some q := ⟨_, List.getElem?_eq_getElem hlt⟩
      obtain ⟨g, rfl, hown, hc0, hc1, hc2, hc3⟩ := HEL.out j q hq
      have HX := Lib.hid (HT.out.times q (List.mem_of_getElem? hq))
      have HQ := Lib.hid hq
      have hgl := HT.out.row.lt g hown
      have hd0 : wr.cell? ⟨g, j * 4, none⟩ = some (.string q.1) := (HI.out.below.cell (p := ⟨g, j * 4, none⟩) hgl).trans hc0
      have hd1 : wr.cell? ⟨g, j * 4 + 1, none⟩ = some (.int .i64 q.2.tok) := (HI.out.below.cell (p := ⟨g, j * 4 + 1, none⟩) hgl).trans hc1
      have hd2 : wr.cell? ⟨g, j * 4 + 2, none⟩ = some (.int .i64 q.2.began) := (HI.out.below.cell (p := ⟨g, j * 4 + 2, none⟩) hgl).trans hc2
      have hd3 : wr.cell? ⟨g, j * 4 + 3, none⟩ = some (.int .i64 q.2.bar) := (HI.out.below.cell (p := ⟨g, j * 4 + 3, none⟩) hgl).trans hc3
      obtain ⟨k, x⟩ := q
      simp only at hd0 hd1 hd2 hd3
      clear hc0 hc1 hc2 hc3 hq hown
      go_wp2_with fail
      refine (rold_calls k x now wr HNOW.out HX.out).mono ?_
      rintro e w1 ⟨rfl, hb1⟩
      have hcb1 : w1.cell? ⟨b, 0, none⟩ = some (.slice (some ⟨g, 0, none⟩) R.length cap) := (hb1.cell (p := ⟨b, 0, none⟩) (Nat.lt_of_lt_of_le hbl HI.out.below.size)).trans hcb
      have hgl1 := Nat.lt_of_lt_of_le hgl HI.out.below.size
      have he0 : w1.cell? ⟨g, j * 4, none⟩ = some (.string k) := (hb1.cell (p := ⟨g, j * 4, none⟩) hgl1).trans hd0
      have he1 : w1.cell? ⟨g, j * 4 + 1, none⟩ = some (.int .i64 x.tok) := (hb1.cell (p := ⟨g, j * 4 + 1, none⟩) hgl1).trans hd1
      have he2 : w1.cell? ⟨g, j * 4 + 2, none⟩ = some (.int .i64 x.began) := (hb1.cell (p := ⟨g, j * 4 + 2, none⟩) hgl1).trans hd2
      have he3 : w1.cell? ⟨g, j * 4 + 3, none⟩ = some (.int .i64 x.bar) := (hb1.cell (p := ⟨g, j * 4 + 3, none⟩) hgl1).trans hd3
      have HI1 := Lib.hid (HI.out.grow hb1)
      clear hb1 hcb hd0 hd1 hd2 hd3
      have hlo : Hid ((oldsR now (R.take j)).length ≤ 1000000) := Nat.le_trans (olds_len _ _) (by rw [List.length_take]; omega)
      have hlr : Hid ((restR now (R.take j)).length ≤ 1000000) := Nat.le_trans (rest_len _ _) (by rw [List.length_take]; omega)
      cases ho : oldB x.began now with
      | true =>
        have HO := Lib.hid ho
        clear ho
        go_wp2_with (first | (at_builtin; go_must (refine wpList_append_one _ rfl _ _ 23 rfl w.heap.size 9 (.string ByteArray.empty) 16 Try.underlying23 strInfo rfl ov _ _ rfl (HI1.out.o.alloc _) ⟨_, 0, none⟩ 1 (.string k) rfl (World.cell?_alloc_new _ _ _ _) rfl (Nat.le_trans hlo.out (by omega)) (by omega) (by rw [World.size_alloc]; exact Nat.le_succ_of_le HI1.out.below.size) ?_; intro g2 cap2 w2 _ hown2 hg2; have HI2 := Lib.hid (HI1.out.old HQ.out HO.out hown2 hg2); clear hown2 hg2)))
        go_roundw
        case rel => exact ⟨j + 1, _, _, by go_num, rfl, rfl, by omega, HI2.out⟩
        case measure => simp [intOf]; omega
      | false =>
        have HO := Lib.hid ho
        clear ho
        go_wp2_with (first | (at_builtin; go_must (refine wpList_app_lease _ rfl _ _ rfl w.heap.size rv _ _ rfl (HI1.out.r.alloc _) _ 1 (k, x) rfl (hp_alloc_new _ _) hlr.out (by rw [World.size_alloc]; exact Nat.le_succ_of_le HI1.out.below.size) ?_; intro g2 cap2 w2 hown2 hg2 _ _; have HI2 := Lib.hid (HI1.out.stay HQ.out HO.out hown2 hg2); clear hown2 hg2)))
        go_roundw
        case rel => exact ⟨j + 1, _, _, by go_num, rfl, rfl, by omega, HI2.out⟩
        case measure => simp [intOf]; omega
    · obtain rfl : j = R.length := by omega
      have hfb : wr.frozen? ⟨b, 0, none⟩ = false := free_of_block ((Keep.of_below HI.out.below (fun _ => False)).get HT.out.hd (fun x => x))
      have HD := Lib.hid (RExI.done HT.out HI.out)
      obtain ⟨a1, l1, c1, rfl⟩ := own_slice HI.out.r
      go_wp2
      go_ret
      exact HD.out
end Go.Proofs.Ytgflkhifphpgpaa
