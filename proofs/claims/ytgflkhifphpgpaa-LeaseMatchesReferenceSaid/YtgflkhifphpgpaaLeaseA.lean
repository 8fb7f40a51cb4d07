/- Contracts of the functions of the lease table. -/
import Derived.Test.YtgflkhifphpgpaaProg
import Derived.Test.YtgflkhifphpgpaaLeaseSpec
namespace Go.Proofs.Ytgflkhifphpgpaa
open Go Go.RowKit Gw
open Go.ChangeMaps (setBlock)
set_option maxHeartbeats 400000

def lsCells (x : Ls) : Array Value := #[.int .i64 x.tok, .int .i64 x.began, .int .i64 x.bar]
/-- Blocks b, mb and the blocks of A are the lease table A with counter n. -/
structure TabA (w : World) (b mb : Nat) (A : List (ByteArray × (Nat × Ls))) (n : Int) : Prop where
  hd : w.heap[b]? = some (.cells #[.map (some mb), .int .i64 n] 52 (0, 0))
  map : MapIs w mb (mapv (fun x => Value.pointer (some ⟨x.1, 0, none⟩)) A)
  ls : ∀ q ∈ A, w.heap[q.2.1]? = some (.cells (lsCells q.2.2) 57 (0, 0))
  nd : (b :: mb :: A.map (·.2.1)).Nodup
  times : ∀ q ∈ A, 0 ≤ q.2.2.began ∧ q.2.2.began ≤ maxInt
  keys : (A.map (·.1)).Nodup
  n0 : 0 ≤ n
  n1 : n ≤ 1000000

theorem isTime_calls (now : Int) (w : World) :
    Calls Try.prog 25 #[.int .i64 now] w fun e w' => e = .returned (.bool (isTimeB now)) ∧ w = w' := by
  by_cases h0 : 0 ≤ now <;> by_cases h1 : now ≤ 4611686018427387903
  all_goals
    have hb : isTimeB now = (decide (0 ≤ now) && decide (now ≤ 4611686018427387903)) := rfl
    have HB := Lib.hid hb
    clear hb
    go_enter Try.func25, Try.ntmps25
    go_wp2
    go_ret
    refine ⟨?_, rfl⟩
    rw [HB.out]
    simp [h0, h1]

theorem old_calls (p : Nat) (x : Ls) (now : Int) (w : World) (hp : w.heap[p]? = some (.cells (lsCells x) 57 (0, 0))) (hn : 0 ≤ now ∧ now ≤ maxInt) (hx : 0 ≤ x.began ∧ x.began ≤ maxInt) :
    Calls Try.prog 26 #[.pointer (some ⟨p, 0, none⟩), .int .i64 now] w fun e w' => e = .returned (.bool (oldB x.began now)) ∧ w = w' := by
  unfold maxInt at hn hx
  obtain ⟨hn1, hn2⟩ := hn
  obtain ⟨hx1, hx2⟩ := hx
  have hc : w.cell? ⟨p, 1, none⟩ = some (.int .i64 x.began) := cell_of_block hp rfl
  clear hp
  go_enter Try.func26, Try.ntmps26
  go_wp2
  go_ret
  exact ⟨rfl, rfl⟩

theorem of_nil (k : ByteArray) (w : World) :
    Calls Try.prog 24 #[.pointer none, .string k] w fun e w' => e = .returned (.pointer none) ∧ w = w' := by
  go_enter Try.func24, Try.ntmps24
  go_wp2
  go_ret
  exact ⟨rfl, rfl⟩

def ptrOf (o : Option (Nat × Ls)) : Value := .pointer (o.map fun x => ⟨x.1, 0, none⟩)
theorem of_calls (k : ByteArray) (b mb : Nat) (A : List (ByteArray × (Nat × Ls))) (n : Int) (w : World) (hT : TabA w b mb A n) :
    Calls Try.prog 24 #[.pointer (some ⟨b, 0, none⟩), .string k] w fun e w' => e = .returned (ptrOf (mlook k A)) ∧ w = w' := by
  have hc : w.cell? ⟨b, 0, none⟩ = some (.map (some mb)) := cell_of_block hT.hd rfl
  have hl := run_lookup_str (P := Try.prog) Try.underlying50 Try.underlying9 (Try.zeroValue53 w) hT.map k
  rw [mlook_mapv] at hl
  have e1 : ((mlook k A).map (fun x => Value.pointer (some ⟨x.1, 0, none⟩))).getD (.pointer none) = ptrOf (mlook k A) := by
    cases mlook k A <;> rfl
  rw [e1] at hl
  clear hT e1
  go_enter Try.func24, Try.ntmps24
  go_wp2
  go_ret
  exact ⟨rfl, rfl⟩


def foot (b mb : Nat) (A : List (ByteArray × (Nat × Ls))) (i : Nat) : Prop := i = b ∨ i = mb ∨ ∃ q ∈ A, i = q.2.1

def AskPost (k : ByteArray) (now : Int) (b mb : Nat) (A : List (ByteArray × (Nat × Ls))) (n : Int) (w : World) (e : Ending) (w' : World) : Prop :=
  e = .returned (.tuple #[.int .i64 (n + 1), .bool true]) ∧ TabA w' b mb (mput k (w.heap.size, ⟨n + 1, now, 0⟩) A) (n + 1) ∧ Keep (foot b mb A) w w'

theorem ask_post (k : ByteArray) (now : Int) (b mb : Nat) (A : List (ByteArray × (Nat × Ls))) (n : Int) (w : World) (hT : TabA w b mb A n) (hn : n < 1000000) (hnow : 0 ≤ now ∧ now ≤ maxInt) (o' : Obj)
    (hM : MapIs (setBlock ((w.setCell ⟨b, 1, none⟩ (.int .i64 (n + 1))).alloc (.cells (lsCells ⟨n + 1, now, 0⟩) 57)).drew mb o') mb (mput k (.pointer (some ⟨w.heap.size, 0, none⟩)) (mapv (fun x => Value.pointer (some ⟨x.1, 0, none⟩)) A))) :
    AskPost k now b mb A n w (.returned (.tuple #[.int .i64 (n + 1), .bool true])) (setBlock ((w.setCell ⟨b, 1, none⟩ (.int .i64 (n + 1))).alloc (.cells (lsCells ⟨n + 1, now, 0⟩) 57)).drew mb o') := by
  have hnd := hT.nd
  simp only [List.nodup_cons, List.mem_cons, not_or] at hnd
  obtain ⟨⟨hbm, hbA⟩, hmA, hA⟩ := hnd
  have hlt : ∀ q ∈ A, q.2.1 < w.heap.size := fun q hq => lt_of_get (hT.ls q hq)
  have hb := lt_of_get hT.hd
  have hmb := hT.map.lt
  have e0 : w.heap.size = (w.setCell ⟨b, 1, none⟩ (.int .i64 (n + 1))).heap.size := by simp
  refine ⟨rfl, ⟨?_, ?_, ?_, ?_, ?_, ?_, ?_, ?_⟩, ?_⟩
  · exact hp_setBlock_ne (hp_drew_of (hp_alloc_old _ (hp_setCell_same _ hT.hd))) hbm
  · rw [mput_mapv (fun x : Nat × Ls => Value.pointer (some ⟨x.1, 0, none⟩)) k (w.heap.size, ⟨n + 1, now, 0⟩)] at hM
    exact hM
  · intro q hq
    rcases mem_mput hq with rfl | hq
    · refine hp_setBlock_ne ?_ (by simp; omega)
      show ((w.setCell ⟨b, 1, none⟩ (.int .i64 (n + 1))).alloc _).heap[w.heap.size]? = _
      rw [e0]; exact hp_alloc_new _ _
    · refine hp_setBlock_ne (hp_drew_of (hp_alloc_old _ (hp_setCell_ne _ (hT.ls q hq) ?_))) ?_
      · intro e; exact hbA (List.mem_map.2 ⟨q, hq, e⟩)
      · intro e; exact hmA (List.mem_map.2 ⟨q, hq, e⟩)
  · simp only [List.nodup_cons, List.mem_cons, not_or]
    refine ⟨⟨hbm, ?_⟩, ?_, nodup_mput_val (fun x : Nat × Ls => x.1) hA fun p hp => by have := hlt p hp; simp; omega⟩
    · intro hm
      obtain ⟨q, hq, e⟩ := List.mem_map.1 hm
      rcases mem_mput hq with rfl | hq
      · simp at e; omega
      · exact hbA (List.mem_map.2 ⟨q, hq, e⟩)
    · intro hm
      obtain ⟨q, hq, e⟩ := List.mem_map.1 hm
      rcases mem_mput hq with rfl | hq
      · simp at e; omega
      · exact hmA (List.mem_map.2 ⟨q, hq, e⟩)
  · intro q hq
    rcases mem_mput hq with rfl | hq
    · exact hnow
    · exact hT.times q hq
  · exact nodup_mput_key hT.keys
  · have := hT.n0; omega
  · omega
  · exact Keep.setBlock (Keep.drew (Keep.alloc (Keep.setCell (Keep.refl _ _) _ _ fun _ => .inl rfl) _)) _ _ fun _ => .inr (.inl rfl)

theorem ask_yes (k : ByteArray) (now : Int) (b mb : Nat) (A : List (ByteArray × (Nat × Ls))) (n : Int) (w : World) (hT : TabA w b mb A n) (hn : n < 1000000)
    (hnow : isTimeB now = true) (hold : ∀ x, mlook k A = some x → oldB x.2.began now = true) :
    Calls Try.prog 13 #[.pointer (some ⟨b, 0, none⟩), .string k, .int .i64 now] w (AskPost k now b mb A n w) := by
  have hc0 : w.cell? ⟨b, 0, none⟩ = some (.map (some mb)) := cell_of_block hT.hd rfl
  have hc1 : w.cell? ⟨b, 1, none⟩ = some (.int .i64 n) := cell_of_block hT.hd rfl
  have hf : w.frozen? ⟨b, 1, none⟩ = false := free_of_block hT.hd
  have hn0 := hT.n0
  have hnow2 : Hid (0 ≤ now ∧ now ≤ maxInt) := by
    show 0 ≤ now ∧ now ≤ maxInt
    simpa [isTimeB] using hnow
  have HT := Lib.hid hT
  have hnd := hT.nd
  have hmb : mb ≠ b := by intro e; subst e; simp at hnd
  have HM : Hid (∀ _ : Value, MapIs ((w.setCell ⟨b, 1, none⟩ (.int .i64 (n + 1))).alloc (.cells #[.int .i64 (n + 1), .int .i64 now, .int .i64 0] 57)).drew mb (mapv (fun x => Value.pointer (some ⟨x.1, 0, none⟩)) A)) := by
    intro v
    refine hT.map.keep ?_
    show ((w.setCell _ _).alloc _).heap[mb]? = _
    rw [Below.heap_alloc _ _ _ (by simpa using hT.map.lt), Below.heap_setCell _ _ _ _ hmb]
  have hbm : b ≠ mb := fun e => hmb e.symm
  have hbl : b < w.heap.size := lt_of_get hT.hd
  have HP := Lib.hid (ask_post k now b mb A n w hT hn hnow2.out)
  cases hx : mlook k A with
  | none =>
    clear hT hnd
    go_enter Try.func13, Try.ntmps13
    go_wp2_with (first | (go_at_call 24; refine (of_calls _ _ _ _ _ _ HT.out).mono ?_; rintro e w' ⟨rfl, rfl⟩; rw [hx]; dsimp only [ptrOf, Option.map_none]) | (go_at_call 25; refine (isTime_calls _ _).mono ?_; rintro e w' ⟨rfl, rfl⟩; rw [hnow]))
    obtain ⟨o', hmu, hM'⟩ := run_mapUpdate_str (P := Try.prog) Try.underlying50 Try.underlying9 (HM.out .nilFunc) k (.pointer (some ⟨w.heap.size, 0, none⟩))
    have HM' := Lib.hid hM'
    clear hM'
    go_region
    clear hmu
    go_wp2
    go_ret2
    exact HP.out _ HM'.out
  | some x =>
    have ho := hold x hx
    have hx1 := hT.ls _ (mlook_mem hx)
    have hx2 := hT.times _ (mlook_mem hx)
    have HX := Lib.hid hx1
    have HX2 := Lib.hid hx2
    clear hT hnd hx1 hx2 hold
    go_enter Try.func13, Try.ntmps13
    go_wp2_with (first | (go_at_call 24; refine (of_calls _ _ _ _ _ _ HT.out).mono ?_; rintro e w' ⟨rfl, rfl⟩; rw [hx]; dsimp only [ptrOf, Option.map_some]) | (go_at_call 25; refine (isTime_calls _ _).mono ?_; rintro e w' ⟨rfl, rfl⟩; rw [hnow]) | (go_at_call 26; refine (old_calls _ _ _ _ HX.out hnow2.out HX2.out).mono ?_; rintro e w' ⟨rfl, rfl⟩; rw [ho]))
    obtain ⟨o', hmu, hM'⟩ := run_mapUpdate_str (P := Try.prog) Try.underlying50 Try.underlying9 (HM.out .nilFunc) k (.pointer (some ⟨w.heap.size, 0, none⟩))
    have HM' := Lib.hid hM'
    clear hM'
    go_region
    clear hmu
    go_wp2
    go_ret2
    exact HP.out _ HM'.out

def AskNo (w : World) (e : Ending) (w' : World) : Prop := e = .returned (.tuple #[.int .i64 0, .bool false]) ∧ w = w'
theorem ask_nil (k : ByteArray) (now : Int) (w : World) :
    Calls Try.prog 13 #[.pointer none, .string k, .int .i64 now] w (AskNo w) := by
  go_enter Try.func13, Try.ntmps13
  go_wp2_with (first | (go_at_call 24; refine (of_nil _ _).mono ?_; rintro e w' ⟨rfl, rfl⟩))
  go_ret2
  exact ⟨rfl, rfl⟩
theorem ask_no (k : ByteArray) (now : Int) (b mb : Nat) (A : List (ByteArray × (Nat × Ls))) (n : Int) (w : World) (hT : TabA w b mb A n)
    (h : isTimeB now = false ∨ ∃ x, mlook k A = some x ∧ oldB x.2.began now = false) :
    Calls Try.prog 13 #[.pointer (some ⟨b, 0, none⟩), .string k, .int .i64 now] w (AskNo w) := by
  have HT := Lib.hid hT
  cases hnow : isTimeB now with
  | false =>
    clear hT h
    go_enter Try.func13, Try.ntmps13
    go_wp2_with (first | (go_at_call 24; refine (of_calls _ _ _ _ _ _ HT.out).mono ?_; rintro e w' ⟨rfl, rfl⟩) | (go_at_call 25; refine (isTime_calls _ _).mono ?_; rintro e w' ⟨rfl, rfl⟩; rw [hnow]))
    go_ret2
    exact ⟨rfl, rfl⟩
  | true =>
    rw [hnow] at h
    obtain ⟨x, hx, ho⟩ := h.resolve_left (by simp)
    have hnow2 : Hid (0 ≤ now ∧ now ≤ maxInt) := by
      show 0 ≤ now ∧ now ≤ maxInt
      simpa [isTimeB] using hnow
    have hx1 := hT.ls _ (mlook_mem hx)
    have hx2 := hT.times _ (mlook_mem hx)
    have HX := Lib.hid hx1
    have HX2 := Lib.hid hx2
    clear hT hx1 hx2 h
    go_enter Try.func13, Try.ntmps13
    go_wp2_with (first | (go_at_call 24; refine (of_calls _ _ _ _ _ _ HT.out).mono ?_; rintro e w' ⟨rfl, rfl⟩; rw [hx]; dsimp only [ptrOf, Option.map_some]) | (go_at_call 25; refine (isTime_calls _ _).mono ?_; rintro e w' ⟨rfl, rfl⟩; rw [hnow]) | (go_at_call 26; refine (old_calls _ _ _ _ HX.out hnow2.out HX2.out).mono ?_; rintro e w' ⟨rfl, rfl⟩; rw [ho]))
    go_ret2
    exact ⟨rfl, rfl⟩
end Go.Proofs.Ytgflkhifphpgpaa
