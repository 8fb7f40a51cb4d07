/- The contract of Expire. -/
import Derived.Test.YtkgmgmkbgnkdnaaGreatDoorEz
import Derived.Test.YtkgmgmkbgnkdnaaGreatDoorLeaseC
import Derived.Test.YtkgmgmkbgnkdnaaGreatDoorSortOwn

namespace Go.Proofs.YtkgmgmkbgnkdnaaGreatDoor
open Go.Proofs.Tryz
open Go Go.RowKit Gw
open Go.ChangeMaps (setBlock)
set_option maxHeartbeats 400000

theorem expire_nil (now : Int) (w : World) :
    Calls Tryz.prog 18 #[.pointer none, .int .i64 now] w fun e w' => e = .returned (.slice none 0 0) ∧ Below w.heap.size w w' := by
  have HP : ∀ o, Hid (Below w.heap.size w (w.alloc o)) := fun o => (Below.refl _ _).alloc (Nat.le_refl _) _
  go_enter func18, ntmps18
  go_wp2
  go_ret
  exact ⟨rfl, (HP _).out⟩
structure ExpInv (b mb B0 : Nat) (now : Int) (A : List (ByteArray × (Nat × Ls))) (n : Int) (c0 : Nat) (w wr : World) (A1 removed : List (ByteArray × (Nat × Ls))) (es : Array MapEntry) (seen : Array Nat) (sv : Value) : Prop where
  tab : TabA wr b mb A1 n
  ents : MapE wr mb es c0 (ptrs A1)
  it : wr.heap[B0 + 2]? = some (.mapIter (some mb) c0 seen c0)
  bt : wr.heap[B0]? = some (.cells #[.pointer (some ⟨b, 0, none⟩)] 45 (0, 0))
  bo : wr.heap[B0 + 1]? = some (.cells #[sv] 61 (0, 0))
  own : wr.ownsRow (B0 + 3) 9 1 sv removed.length ((removed.map (·.1)).map Value.string)
  nil : sv = .slice none 0 0 → removed = []
  perm : (A1 ++ removed).Perm A
  old : ∀ q ∈ removed, oldB q.2.2.began now = true
  seenOk : ∀ e ∈ es.toList, seen.contains e.born = true → ∀ q ∈ A1, e.key = .string q.1 → oldB q.2.2.began now = false
  keep : Keep (fun i => i = mb) w wr
  big : B0 + 3 ≤ wr.heap.size
  small : ∀ q ∈ A1, q.2.1 < B0
def ExpRel (b mb B0 : Nat) (now : Int) (A : List (ByteArray × (Nat × Ls))) (n : Int) (c0 : Nat) (w wr : World) : Prop :=
  ∃ A1 removed es seen sv, ExpInv b mb B0 now A n c0 w wr A1 removed es seen sv

theorem exp_start (b mb : Nat) (now : Int) (A : List (ByteArray × (Nat × Ls))) (n : Int) (w : World) (hT : TabA w b mb A n) (es : Array MapEntry) (c0 : Nat) (hE : MapE w mb es c0 (ptrs A)) :
    ExpRel b mb w.heap.size now A n c0 w (((w.alloc (.cells #[.pointer (some ⟨b, 0, none⟩)] 45)).alloc (.cells #[.slice none 0 0] 61)).alloc (.mapIter (some mb) c0 #[] c0)) := by
  have hK : Keep (fun i => i = mb) w (((w.alloc (.cells #[.pointer (some ⟨b, 0, none⟩)] 45)).alloc (.cells #[.slice none 0 0] 61)).alloc (.mapIter (some mb) c0 #[] c0)) := (((Keep.refl _ _).alloc _).alloc _).alloc _
  have hK0 : Keep (fun _ => False) w (((w.alloc (.cells #[.pointer (some ⟨b, 0, none⟩)] 45)).alloc (.cells #[.slice none 0 0] 61)).alloc (.mapIter (some mb) c0 #[] c0)) := (((Keep.refl _ _).alloc _).alloc _).alloc _
  have e1 : (w.alloc (.cells #[.pointer (some ⟨b, 0, none⟩)] 45)).heap.size = w.heap.size + 1 := by simp
  have e2 : ((w.alloc (.cells #[.pointer (some ⟨b, 0, none⟩)] 45)).alloc (.cells #[.slice none 0 0] 61)).heap.size = w.heap.size + 2 := by simp
  refine ⟨A, [], es, #[], .slice none 0 0, ⟨?_, ?_, ?_, ?_, ?_, ?_, fun _ => rfl, by simp, by simp, by simp, hK, by simp, fun q hq => lt_of_get (hT.ls q hq)⟩⟩
  · exact ⟨hK0.get hT.hd id, hT.map.keep (hK0.block _ hT.map.lt id), fun q hq => hK0.get (hT.ls q hq) id, hT.nd, hT.times, hT.keys, hT.n0, hT.n1⟩
  · exact hE.keep (hK0.block _ (lt_of_get hE.at_) id)
  · rw [← e2]; exact hp_alloc_new _ _
  · exact hp_alloc_old _ (hp_alloc_old _ (hp_alloc_new _ _))
  · rw [← e1]; exact hp_alloc_old _ (hp_alloc_new _ _)
  · exact ⟨by simp, .inl ⟨rfl, rfl⟩⟩

section
variable {b mb B0 : Nat} {now : Int} {A : List (ByteArray × (Nat × Ls))} {n : Int} {c0 : Nat} {w wr w1 : World} {A1 removed : List (ByteArray × (Nat × Ls))} {es : Array MapEntry} {seen : Array Nat} {sv : Value} {q : ByteArray × (Nat × Ls)} {e : MapEntry}
abbrev vptr : Nat × Ls → Value := fun x => Value.pointer (some ⟨x.1, 0, none⟩)
theorem exp_old (h : ExpInv b mb B0 now A n c0 w wr A1 removed es seen sv) (hC : Came wr w1 (B0 + 2) mb c0 seen es c0 A1 vptr q e) (hmb : mb < B0) (hb : b < B0) : TabA w1 b mb A1 n ∧ MapE w1 mb es c0 (ptrs A1) := by
  have h1 : ∀ i, i < B0 → w1.heap[i]? = wr.heap[i]? := fun i hi => hC.keep.block i (by have := h.big; omega) (by omega)
  refine ⟨⟨by rw [h1 b hb]; exact h.tab.hd, h.tab.map.keep (h1 mb hmb), fun q hq => by rw [h1 _ (h.small q hq)]; exact h.tab.ls q hq, h.tab.nd, h.tab.times, h.tab.keys, h.tab.n0, h.tab.n1⟩, h.ents.keep (h1 mb hmb)⟩
theorem seen_push {seen : Array Nat} {x y : Nat} (h : (seen.push x).contains y = true) : seen.contains y = true ∨ y = x := by
  simpa [Array.contains_iff_mem, Array.mem_push] using h
theorem exp_stay (h : ExpInv b mb B0 now A n c0 w wr A1 removed es seen sv) (hC : Came wr w1 (B0 + 2) mb c0 seen es c0 A1 vptr q e) (hmb : mb < B0) (hb : b < B0) (hB : w.heap.size ≤ B0) (hq : oldB q.2.2.began now = false) :
    ExpInv b mb B0 now A n c0 w w1 A1 removed es (seen.push e.born) sv := by
  obtain ⟨ht, he⟩ := exp_old h hC hmb hb
  refine ⟨ht, he, hC.it, hC.keep.get h.bt (by omega), hC.keep.get h.bo (by omega), ownsRow_keep h.own hC.keep (fun i hi => by omega), h.nil, h.perm, h.old, ?_, ?_, by rw [hC.size]; exact h.big, h.small⟩
  · intro e1 he1 hs q1 hq1 hk
    rcases seen_push hs with hs | hs
    · exact h.seenOk e1 he1 hs q1 hq1 hk
    · have e2 : e1 = e := inj_of_nodup (fun x : MapEntry => x.born) h.ents.born e1 he1 e (mem_leftOf.1 hC.left).1 hs
      subst e2
      rw [hC.key] at hk
      have hk' : q.1 = q1.1 := by simpa using hk
      have e3 : q = q1 := inj_of_nodup (fun x : ByteArray × (Nat × Ls) => x.1) h.tab.keys q hC.mem q1 hq1 hk'
      rw [← e3]; exact hq
  · exact h.keep.trans hC.keep fun i hi e => by omega
theorem exp_gone (h : ExpInv b mb B0 now A n c0 w wr A1 removed es seen sv) (hC : Came wr w1 (B0 + 2) mb c0 seen es c0 A1 vptr q e) (hmb : mb < B0) (hB : w.heap.size ≤ B0) (hq : oldB q.2.2.began now = true) {w2 : World} {en : Ending}
    (hP : EndPost q.1 b mb (B0 + 1) (B0 + 3) es c0 A1 n (removed.map (·.1)) w1 en w2) : ∃ es' sv', ExpInv b mb B0 now A n c0 w w2 (mdel q.1 A1) (removed ++ [q]) es' (seen.push e.born) sv' ∧ es'.toList.Sublist es.toList := by
  obtain ⟨_, es', sv', hE, hsub, hT, hbo, hown, hnn, hK⟩ := hP
  have hlk := mlook_of_mem h.tab.keys (k := q.1) (v := q.2) hC.mem
  have hp := mdel_perm hlk
  refine ⟨es', sv', ⟨hT, hE, hK.get hC.it (by omega), hK.get (hC.keep.get h.bt (by omega)) (by omega), hbo, ?_, fun e1 => (hnn e1).elim, ?_, ?_, ?_, ?_, ?_, fun x hx => h.small x ((mdel_sublist _ _).subset hx)⟩, hsub⟩
  · simpa using hown
  · have h1 : (mdel q.1 A1 ++ (removed ++ [q])).Perm ((q.1, q.2) :: mdel q.1 A1 ++ removed) := by
      rw [← List.append_assoc]
      exact List.perm_append_singleton _ _
    exact (h1.trans (List.Perm.append_right removed hp.symm)).trans h.perm
  · intro x hx
    rcases List.mem_append.1 hx with hx | hx
    · exact h.old x hx
    · simp only [List.mem_singleton] at hx; subst hx; exact hq
  · intro e1 he1 hs q1 hq1 hk
    have hq2 := (mdel_mem h.tab.keys).1 hq1
    rcases seen_push hs with hs | hs
    · exact h.seenOk e1 (hsub.subset he1) hs q1 hq2.1 hk
    · have e2 : e1 = e := inj_of_nodup (fun x : MapEntry => x.born) h.ents.born e1 (hsub.subset he1) e (mem_leftOf.1 hC.left).1 hs
      subst e2
      rw [hC.key] at hk
      have hk' : q.1 = q1.1 := by simpa using hk
      exact (hq2.2 hk'.symm).elim
  · exact (h.keep.trans hC.keep fun i hi e => by omega).trans hK fun i hi e => by omega
  · have := hK.size; have := hC.size; have := h.big; omega
theorem exp_len (h : ExpInv b mb B0 now A n c0 w wr A1 removed es seen sv) : removed.length ≤ A.length := by
  have := h.perm.length_eq
  rw [List.length_append] at this
  omega
theorem exp_measure (h : ExpInv b mb B0 now A n c0 w wr A1 removed es seen sv) : leftN wr (B0 + 2) = (leftOf es seen).size := leftN_eq h.it h.ents.at_
end

def ExpPost (b mb : Nat) (now : Int) (A : List (ByteArray × (Nat × Ls))) (n : Int) (w : World) (e : Ending) (w' : World) : Prop :=
  ∃ (A1 : List (ByteArray × (Nat × Ls))) (sv : Value) (xs : List ByteArray), e = .returned sv ∧ TabA w' b mb A1 n ∧ A1.Perm (A.filter fun q => !oldB q.2.2.began now) ∧ xs.Perm ((A.filter fun q => oldB q.2.2.began now).map (·.1)) ∧
    xs.Pairwise (fun x y => x.data.toList ≤ y.data.toList) ∧ w'.ownsRow (w.heap.size + 3) 9 1 sv xs.length (xs.map Value.string) ∧ Keep (fun i => i = mb) w w'

theorem exp_end {b mb B0 : Nat} {now : Int} {A : List (ByteArray × (Nat × Ls))} {n : Int} {c0 : Nat} {w wr w2 : World} {A1 removed : List (ByteArray × (Nat × Ls))} {es : Array MapEntry} {seen : Array Nat} {sv : Value} {en : Ending}
    (h : ExpInv b mb B0 now A n c0 w wr A1 removed es seen sv) (hz : (leftOf es seen).size = 0) (hmb : mb < B0) (hb : b < B0) (hB : w.heap.size = B0) (hP : SortPost (B0 + 3) sv (removed.map (·.1)) wr en w2) : ExpPost b mb now A n w (.returned sv) w2 := by
  obtain ⟨_, hown, hg⟩ := hP
  have hall : ∀ q ∈ A1, oldB q.2.2.began now = false := by
    intro q hq
    obtain ⟨e, he, hk, _⟩ := h.ents.has (p := (q.1, vptr q.2)) (List.mem_map.2 ⟨q, hq, rfl⟩)
    refine h.seenOk e he ?_ q hq hk
    cases hs : seen.contains e.born with
    | true => rfl
    | false =>
      have := mem_leftOf.2 ⟨he, hs⟩
      have h0 : (leftOf es seen).toList = [] := List.eq_nil_of_length_eq_zero (by rw [Array.length_toList]; exact hz)
      rw [h0] at this
      simp at this
  have hlow : ∀ i, i < B0 + 3 → w2.heap[i]? = wr.heap[i]? := fun i hi => hg.block i (by have := h.big; omega) (fun e => by have := (h.own.lt i e.symm).1; omega)
  have hf1 : ∀ (l : List (ByteArray × (Nat × Ls))), (∀ q ∈ l, oldB q.2.2.began now = false) → l.filter (fun q => !oldB q.2.2.began now) = l ∧ l.filter (fun q => oldB q.2.2.began now) = [] := by
    intro l hl
    refine ⟨List.filter_eq_self.2 fun q hq => by simp [hl q hq], List.filter_eq_nil_iff.2 fun q hq => by simp [hl q hq]⟩
  have hf2 : ∀ (l : List (ByteArray × (Nat × Ls))), (∀ q ∈ l, oldB q.2.2.began now = true) → l.filter (fun q => !oldB q.2.2.began now) = [] ∧ l.filter (fun q => oldB q.2.2.began now) = l := by
    intro l hl
    refine ⟨List.filter_eq_nil_iff.2 fun q hq => by simp [hl q hq], List.filter_eq_self.2 fun q hq => by simp [hl q hq]⟩
  have hp1 := h.perm.filter fun q => !oldB q.2.2.began now
  have hp2 := h.perm.filter fun q => oldB q.2.2.began now
  rw [List.filter_append, (hf1 A1 hall).1, (hf2 removed h.old).1, List.append_nil] at hp1
  rw [List.filter_append, (hf1 A1 hall).2, (hf2 removed h.old).2, List.nil_append] at hp2
  have hl : (sortB (removed.map (·.1))).length = removed.length := by rw [(sortB_perm _).length_eq, List.length_map]
  refine ⟨A1, sv, sortB (removed.map (·.1)), rfl, ?_, hp1, (sortB_perm _).trans (hp2.map _), sortB_sorted _, ?_, h.keep.trans (T := fun i => B0 + 3 ≤ i) ⟨hg.os, hg.tape, hg.output, hg.size, fun k hk hn => hlow k (by omega)⟩ fun i hi e => by omega⟩
  · exact ⟨by rw [hlow b (by omega)]; exact h.tab.hd, h.tab.map.keep (hlow mb (by omega)), fun q hq => by rw [hlow _ (by have := h.small q hq; omega)]; exact h.tab.ls q hq, h.tab.nd, h.tab.times, h.tab.keys, h.tab.n0, h.tab.n1⟩
  · rw [hB, hl]
    simpa using hown

theorem expire_calls (now : Int) (b mb : Nat) (A : List (ByteArray × (Nat × Ls))) (n : Int) (w : World) (hT : TabA w b mb A n) (hnow : isTimeB now = true) (hlenA : A.length ≤ 1000000) :
    Calls Tryz.prog 18 #[.pointer (some ⟨b, 0, none⟩), .int .i64 now] w (ExpPost b mb now A n w) := by
  have hcb : w.cell? ⟨b, 0, none⟩ = some (.map (some mb)) := cell_of_block hT.hd rfl
  have hbl : b < w.heap.size := lt_of_get hT.hd
  have hbl2 : b ≠ w.heap.size + 1 := by omega
  obtain ⟨es0, c0, hE⟩ := hT.map.e
  have HS := Lib.hid (exp_start b mb now A n w hT es0 c0 hE)
  have HMB : Hid (((w.alloc (.cells #[.pointer (some ⟨b, 0, none⟩)] 45)).alloc (.cells #[.slice none 0 0] 61)).heap[mb]? = some (.map es0 c0)) := hp_alloc_old _ (hp_alloc_old _ hE.at_)
  have hnow2 : Hid (0 ≤ now ∧ now ≤ maxInt) := by
    show 0 ≤ now ∧ now ≤ maxInt
    simpa [isTimeB] using hnow
  have HMB0 := Lib.hid hT.map.lt
  have HB0 := Lib.hid hbl
  have HLA := Lib.hid hlenA
  clear hT hE hlenA
  go_enter func18, ntmps18
  go_wp2_with (first | (go_at_call 38; refine (isTime_calls _ _).mono ?_; rintro e w' ⟨rfl, rfl⟩; rw [hnow]) | (at_range; go_must (refine wpList_range_map _ rfl _ _ _ _ rfl underlying97 mb es0 c0 rfl HMB.out ?_)))
  go_frame
  simp only [World.size_alloc, Nat.add_assoc, Nat.reduceAdd]
  generalize hB0 : w.heap.size = B0 at *
  have HBw := Lib.hid hB0
  go_loopw [] (fun wr => ExpRel b mb B0 now A n c0 w wr) (fun wr => leftN wr (B0 + 2))
  case atStart => exact HS.out
  case round =>
    obtain ⟨A1, removed, es, seen, sv, hI⟩ := hrel
    have HI := Lib.hid hI
    clear hI HS HMB hcb hB0
    have hcBo : wr.cell? ⟨B0 + 1, 0, none⟩ = some sv := cell_of_block HI.out.bo rfl
    have HL := Lib.hid (exp_len HI.out)
    go_wp2_with (first | (at_next; go_must (refine wpList_next_A _ rfl _ rfl (B0 + 2) mb c0 c0 seen es c0 A1 vptr rfl HI.out.it HI.out.ents (Nat.le_refl _) (Nat.le_refl _) (by have := HMB0.out; omega) (fun HZ => ?_) (fun q e w1 HC hen => ?_))) | (go_at_call 39; go_must (refine (old_calls _ _ _ _ ((exp_old HI.out HC.out HMB0.out HB0.out).1.ls _ HC.out.mem) hnow2.out (HI.out.tab.times _ HC.out.mem)).mono ?_; rintro e1 w' ⟨rfl, rfl⟩)) | (go_at_call 43; go_must (have h1 := exp_old HI.out HC.out HMB0.out HB0.out; refine (end_calls q.1 b mb B0 (B0 + 1) (B0 + 3) es c0 A1 n sv (removed.map (·.1)) w1 h1.1 h1.2 (HC.out.keep.get HI.out.bt (by omega)) (HC.out.keep.get HI.out.bo (by omega)) (by simpa using ownsRow_keep HI.out.own HC.out.keep (fun i hi => by omega)) (by have := HC.out.size; have := HI.out.big; omega) (by omega) (by have := HMB0.out; omega) (by have := HB0.out; omega) (by have := HB0.out; omega) (by have := HMB0.out; omega) (fun x hx => by have := HI.out.small x hx; omega) (by rw [List.length_map]; have := HL.out; have := HLA.out; omega)).mono ?_; clear h1; intro en w2 hp; have HP := Lib.hid hp; obtain ⟨rfl, hp2⟩ := hp; clear hp2)) | (go_at_call 44; go_must (refine (sort_own (B0 + 3) sv (removed.map (·.1)) wr (by simpa using HI.out.own) (by rw [List.length_map]; have := HL.out; have := HLA.out; omega)).mono ?_; intro en w2 hp; have HP := Lib.hid hp; obtain ⟨rfl, hp1, hp2⟩ := hp; have hcs : w2.cell? ⟨B0 + 1, 0, none⟩ = some sv := cell_of_block ((hp2.block _ (by have := HI.out.big; omega) (fun e => by have := (HI.out.own.lt _ e.symm).1; omega)).trans HI.out.bo) rfl; clear hp1 hp2)))
    · go_ret
      exact exp_end HI.out HZ.out HMB0.out HB0.out HBw.out HP.out
    · obtain ⟨es', sv', hI2, hsub⟩ := exp_gone HI.out HC.out HMB0.out (Nat.le_of_eq HBw.out) (by assumption) HP.out
      refine ⟨⟨_, _, _, _, _, hI2⟩, ?_⟩
      rw [exp_measure hI2, exp_measure HI.out]
      exact leftOf_lt HC.out.left hsub
    · have hI2 := exp_stay HI.out HC.out HMB0.out HB0.out (Nat.le_of_eq HBw.out) (by assumption)
      refine ⟨⟨_, _, _, _, _, hI2⟩, ?_⟩
      rw [exp_measure hI2, exp_measure HI.out]
      exact leftOf_lt HC.out.left (List.Sublist.refl _)
end Go.Proofs.YtkgmgmkbgnkdnaaGreatDoor
