/- What the lease table computes, on plain data. -/
/- Contracts of the functions of the lease table. -/
/- Contracts of the functions of the lease table, continued. -/
import Derived.Test.YtkgmgmkbgnkdnaaGreatDoorEz
import Derived.Test.YtkgmgmkbgnkdnaaGreatDoorBase
import Derived.Test.YtkgmgmkbgnkdnaaGreatDoorProg
namespace Gw
structure Ls where
  tok : Int
  began : Int
  bar : Int
def maxInt : Int := 4611686018427387903
def isTimeB (now : Int) : Bool := decide (0 ≤ now) && decide (now ≤ maxInt)
def oldB (began now : Int) : Bool := decide (20 < now - began)
end Gw


namespace Go.Proofs.YtkgmgmkbgnkdnaaGreatDoor
open Go.Proofs.Tryz
open Go Go.RowKit Gw
open Go.ChangeMaps (setBlock)
set_option maxHeartbeats 400000

def lsCells (x : Ls) : Array Value := #[.int .i64 x.tok, .int .i64 x.began, .int .i64 x.bar]
structure TabA (w : World) (b mb : Nat) (A : List (ByteArray × (Nat × Ls))) (n : Int) : Prop where
  hd : w.heap[b]? = some (.cells #[.map (some mb), .int .i64 n] 99 (0, 0))
  map : MapIs w mb (mapv (fun x => Value.pointer (some ⟨x.1, 0, none⟩)) A)
  ls : ∀ q ∈ A, w.heap[q.2.1]? = some (.cells (lsCells q.2.2) 104 (0, 0))
  nd : (b :: mb :: A.map (·.2.1)).Nodup
  times : ∀ q ∈ A, 0 ≤ q.2.2.began ∧ q.2.2.began ≤ maxInt
  keys : (A.map (·.1)).Nodup
  n0 : 0 ≤ n
  n1 : n ≤ 1000000

theorem isTime_calls (now : Int) (w : World) :
    Calls Tryz.prog 38 #[.int .i64 now] w fun e w' => e = .returned (.bool (isTimeB now)) ∧ w = w' := by
  by_cases h0 : 0 ≤ now <;> by_cases h1 : now ≤ 4611686018427387903
  all_goals
    have hb : isTimeB now = (decide (0 ≤ now) && decide (now ≤ 4611686018427387903)) := rfl
    have HB := Lib.hid hb
    clear hb
    go_enter func38, ntmps38
    go_wp2
    go_ret
    refine ⟨?_, rfl⟩
    rw [HB.out]
    simp [h0, h1]

theorem old_calls (p : Nat) (x : Ls) (now : Int) (w : World) (hp : w.heap[p]? = some (.cells (lsCells x) 104 (0, 0))) (hn : 0 ≤ now ∧ now ≤ maxInt) (hx : 0 ≤ x.began ∧ x.began ≤ maxInt) :
    Calls Tryz.prog 39 #[.pointer (some ⟨p, 0, none⟩), .int .i64 now] w fun e w' => e = .returned (.bool (oldB x.began now)) ∧ w = w' := by
  unfold maxInt at hn hx
  obtain ⟨hn1, hn2⟩ := hn
  obtain ⟨hx1, hx2⟩ := hx
  have hc : w.cell? ⟨p, 1, none⟩ = some (.int .i64 x.began) := cell_of_block hp rfl
  clear hp
  go_enter func39, ntmps39
  go_wp2
  go_ret
  exact ⟨rfl, rfl⟩

theorem of_nil (k : ByteArray) (w : World) :
    Calls Tryz.prog 37 #[.pointer none, .string k] w fun e w' => e = .returned (.pointer none) ∧ w = w' := by
  go_enter func37, ntmps37
  go_wp2
  go_ret
  exact ⟨rfl, rfl⟩

def ptrOf (o : Option (Nat × Ls)) : Value := .pointer (o.map fun x => ⟨x.1, 0, none⟩)
theorem of_calls (k : ByteArray) (b mb : Nat) (A : List (ByteArray × (Nat × Ls))) (n : Int) (w : World) (hT : TabA w b mb A n) :
    Calls Tryz.prog 37 #[.pointer (some ⟨b, 0, none⟩), .string k] w fun e w' => e = .returned (ptrOf (mlook k A)) ∧ w = w' := by
  have hc : w.cell? ⟨b, 0, none⟩ = some (.map (some mb)) := cell_of_block hT.hd rfl
  have hl := run_lookup_str (P := Tryz.prog) underlying97 underlying9 (zeroValue100 w) hT.map k
  rw [mlook_mapv] at hl
  have e1 : ((mlook k A).map (fun x => Value.pointer (some ⟨x.1, 0, none⟩))).getD (.pointer none) = ptrOf (mlook k A) := by
    cases mlook k A <;> rfl
  rw [e1] at hl
  clear hT e1
  go_enter func37, ntmps37
  go_wp2
  go_ret
  exact ⟨rfl, rfl⟩

def foot (b mb : Nat) (A : List (ByteArray × (Nat × Ls))) (i : Nat) : Prop := i = b ∨ i = mb ∨ ∃ q ∈ A, i = q.2.1

def AskPost (k : ByteArray) (now : Int) (b mb : Nat) (A : List (ByteArray × (Nat × Ls))) (n : Int) (w : World) (e : Ending) (w' : World) : Prop :=
  e = .returned (.tuple #[.int .i64 (n + 1), .bool true]) ∧ TabA w' b mb (mput k (w.heap.size, ⟨n + 1, now, 0⟩) A) (n + 1) ∧ Keep (foot b mb A) w w'

theorem ask_post (k : ByteArray) (now : Int) (b mb : Nat) (A : List (ByteArray × (Nat × Ls))) (n : Int) (w : World) (hT : TabA w b mb A n) (hn : n < 1000000) (hnow : 0 ≤ now ∧ now ≤ maxInt) (o' : Obj)
    (hM : MapIs (setBlock ((w.setCell ⟨b, 1, none⟩ (.int .i64 (n + 1))).alloc (.cells (lsCells ⟨n + 1, now, 0⟩) 104)).drew mb o') mb (mput k (.pointer (some ⟨w.heap.size, 0, none⟩)) (mapv (fun x => Value.pointer (some ⟨x.1, 0, none⟩)) A))) :
    AskPost k now b mb A n w (.returned (.tuple #[.int .i64 (n + 1), .bool true])) (setBlock ((w.setCell ⟨b, 1, none⟩ (.int .i64 (n + 1))).alloc (.cells (lsCells ⟨n + 1, now, 0⟩) 104)).drew mb o') := by
  have hnd := hT.nd
  simp only [List.nodup_cons, List.mem_cons, not_or] at hnd
  obtain ⟨⟨hbm, hbA⟩, hmA, hA⟩ := hnd
  have hlt : ∀ q ∈ A, q.2.1 < w.heap.size := fun q hq => lt_of_get (hT.ls q hq)
  have hb := lt_of_get hT.hd
  have hmb := hT.map.lt
  have e0 : w.heap.size = (w.setCell ⟨b, 1, none⟩ (.int .i64 (n + 1))).heap.size := by simp
  refine ⟨rfl, ⟨?_, ?_, ?_, ?_, ?_, ?_, ?_, ?_⟩, ?_⟩
  · exact hp_setBlock_ne (hp_drew_of (hp_alloc_old _ (hp_setCell_same _ hT.hd))) hbm
  · rw [mput_mapv (fun x : Nat × Ls => Value.pointer (some ⟨x.1, 0, none⟩)) k (w.heap.size, ⟨n + 1, now, 0⟩)] at hM
    exact hM
  · intro q hq
    rcases mem_mput hq with rfl | hq
    · refine hp_setBlock_ne ?_ (by simp; omega)
      show ((w.setCell ⟨b, 1, none⟩ (.int .i64 (n + 1))).alloc _).heap[w.heap.size]? = _
      rw [e0]; exact hp_alloc_new _ _
    · refine hp_setBlock_ne (hp_drew_of (hp_alloc_old _ (hp_setCell_ne _ (hT.ls q hq) ?_))) ?_
      · intro e; exact hbA (List.mem_map.2 ⟨q, hq, e⟩)
      · intro e; exact hmA (List.mem_map.2 ⟨q, hq, e⟩)
  · simp only [List.nodup_cons, List.mem_cons, not_or]
    refine ⟨⟨hbm, ?_⟩, ?_, nodup_mput_val (fun x : Nat × Ls => x.1) hA fun p hp => by have := hlt p hp; simp; omega⟩
    · intro hm
      obtain ⟨q, hq, e⟩ := List.mem_map.1 hm
      rcases mem_mput hq with rfl | hq
      · simp at e; omega
      · exact hbA (List.mem_map.2 ⟨q, hq, e⟩)
    · intro hm
      obtain ⟨q, hq, e⟩ := List.mem_map.1 hm
      rcases mem_mput hq with rfl | hq
      · simp at e; omega
      · exact hmA (List.mem_map.2 ⟨q, hq, e⟩)
  · intro q hq
    rcases mem_mput hq with rfl | hq
    · exact hnow
    · exact hT.times q hq
  · exact nodup_mput_key hT.keys
  · have := hT.n0; omega
  · omega
  · exact Keep.setBlock (Keep.drew (Keep.alloc (Keep.setCell (Keep.refl _ _) _ _ fun _ => .inl rfl) _)) _ _ fun _ => .inr (.inl rfl)

theorem ask_yes (k : ByteArray) (now : Int) (b mb : Nat) (A : List (ByteArray × (Nat × Ls))) (n : Int) (w : World) (hT : TabA w b mb A n) (hn : n < 1000000)
    (hnow : isTimeB now = true) (hold : ∀ x, mlook k A = some x → oldB x.2.began now = true) :
    Calls Tryz.prog 12 #[.pointer (some ⟨b, 0, none⟩), .string k, .int .i64 now] w (AskPost k now b mb A n w) := by
  have hc0 : w.cell? ⟨b, 0, none⟩ = some (.map (some mb)) := cell_of_block hT.hd rfl
  have hc1 : w.cell? ⟨b, 1, none⟩ = some (.int .i64 n) := cell_of_block hT.hd rfl
  have hf : w.frozen? ⟨b, 1, none⟩ = false := free_of_block hT.hd
  have hn0 := hT.n0
  have hnow2 : Hid (0 ≤ now ∧ now ≤ maxInt) := by
    show 0 ≤ now ∧ now ≤ maxInt
    simpa [isTimeB] using hnow
  have HT := Lib.hid hT
  have hnd := hT.nd
  have hmb : mb ≠ b := by intro e; subst e; simp at hnd
  have HM : Hid (∀ _ : Value, MapIs ((w.setCell ⟨b, 1, none⟩ (.int .i64 (n + 1))).alloc (.cells #[.int .i64 (n + 1), .int .i64 now, .int .i64 0] 104)).drew mb (mapv (fun x => Value.pointer (some ⟨x.1, 0, none⟩)) A)) := by
    intro v
    refine hT.map.keep ?_
    show ((w.setCell _ _).alloc _).heap[mb]? = _
    rw [Below.heap_alloc _ _ _ (by simpa using hT.map.lt), Below.heap_setCell _ _ _ _ hmb]
  have hbm : b ≠ mb := fun e => hmb e.symm
  have hbl : b < w.heap.size := lt_of_get hT.hd
  have HP := Lib.hid (ask_post k now b mb A n w hT hn hnow2.out)
  cases hx : mlook k A with
  | none =>
    clear hT hnd
    go_enter func12, ntmps12
    go_wp2_with (first | (go_at_call 37; refine (of_calls _ _ _ _ _ _ HT.out).mono ?_; rintro e w' ⟨rfl, rfl⟩; rw [hx]; dsimp only [ptrOf, Option.map_none]) | (go_at_call 38; refine (isTime_calls _ _).mono ?_; rintro e w' ⟨rfl, rfl⟩; rw [hnow]))
    obtain ⟨o', hmu, hM'⟩ := run_mapUpdate_str (P := Tryz.prog) underlying97 underlying9 (HM.out .nilFunc) k (.pointer (some ⟨w.heap.size, 0, none⟩))
    have HM' := Lib.hid hM'
    clear hM'
    go_region
    clear hmu
    go_wp2
    go_ret2
    exact HP.out _ HM'.out
  | some x =>
    have ho := hold x hx
    have hx1 := hT.ls _ (mlook_mem hx)
    have hx2 := hT.times _ (mlook_mem hx)
    have HX := Lib.hid hx1
    have HX2 := Lib.hid hx2
    clear hT hnd hx1 hx2 hold
    go_enter func12, ntmps12
    go_wp2_with (first | (go_at_call 37; refine (of_calls _ _ _ _ _ _ HT.out).mono ?_; rintro e w' ⟨rfl, rfl⟩; rw [hx]; dsimp only [ptrOf, Option.map_some]) | (go_at_call 38; refine (isTime_calls _ _).mono ?_; rintro e w' ⟨rfl, rfl⟩; rw [hnow]) | (go_at_call 39; refine (old_calls _ _ _ _ HX.out hnow2.out HX2.out).mono ?_; rintro e w' ⟨rfl, rfl⟩; rw [ho]))
    obtain ⟨o', hmu, hM'⟩ := run_mapUpdate_str (P := Tryz.prog) underlying97 underlying9 (HM.out .nilFunc) k (.pointer (some ⟨w.heap.size, 0, none⟩))
    have HM' := Lib.hid hM'
    clear hM'
    go_region
    clear hmu
    go_wp2
    go_ret2
    exact HP.out _ HM'.out

def AskNo (w : World) (e : Ending) (w' : World) : Prop := e = .returned (.tuple #[.int .i64 0, .bool false]) ∧ w = w'
theorem ask_nil (k : ByteArray) (now : Int) (w : World) :
    Calls Tryz.prog 12 #[.pointer none, .string k, .int .i64 now] w (AskNo w) := by
  go_enter func12, ntmps12
  go_wp2_with (first | (go_at_call 37; refine (of_nil _ _).mono ?_; rintro e w' ⟨rfl, rfl⟩))
  go_ret2
  exact ⟨rfl, rfl⟩
theorem ask_no (k : ByteArray) (now : Int) (b mb : Nat) (A : List (ByteArray × (Nat × Ls))) (n : Int) (w : World) (hT : TabA w b mb A n)
    (h : isTimeB now = false ∨ ∃ x, mlook k A = some x ∧ oldB x.2.began now = false) :
    Calls Tryz.prog 12 #[.pointer (some ⟨b, 0, none⟩), .string k, .int .i64 now] w (AskNo w) := by
  have HT := Lib.hid hT
  cases hnow : isTimeB now with
  | false =>
    clear hT h
    go_enter func12, ntmps12
    go_wp2_with (first | (go_at_call 37; refine (of_calls _ _ _ _ _ _ HT.out).mono ?_; rintro e w' ⟨rfl, rfl⟩) | (go_at_call 38; refine (isTime_calls _ _).mono ?_; rintro e w' ⟨rfl, rfl⟩; rw [hnow]))
    go_ret2
    exact ⟨rfl, rfl⟩
  | true =>
    rw [hnow] at h
    obtain ⟨x, hx, ho⟩ := h.resolve_left (by simp)
    have hnow2 : Hid (0 ≤ now ∧ now ≤ maxInt) := by
      show 0 ≤ now ∧ now ≤ maxInt
      simpa [isTimeB] using hnow
    have hx1 := hT.ls _ (mlook_mem hx)
    have hx2 := hT.times _ (mlook_mem hx)
    have HX := Lib.hid hx1
    have HX2 := Lib.hid hx2
    clear hT hx1 hx2 h
    go_enter func12, ntmps12
    go_wp2_with (first | (go_at_call 37; refine (of_calls _ _ _ _ _ _ HT.out).mono ?_; rintro e w' ⟨rfl, rfl⟩; rw [hx]; dsimp only [ptrOf, Option.map_some]) | (go_at_call 38; refine (isTime_calls _ _).mono ?_; rintro e w' ⟨rfl, rfl⟩; rw [hnow]) | (go_at_call 39; refine (old_calls _ _ _ _ HX.out hnow2.out HX2.out).mono ?_; rintro e w' ⟨rfl, rfl⟩; rw [ho]))
    go_ret2
    exact ⟨rfl, rfl⟩
end Go.Proofs.YtkgmgmkbgnkdnaaGreatDoor

namespace Go.Proofs.YtkgmgmkbgnkdnaaGreatDoor
open Go.Proofs.Tryz
open Go Go.RowKit Gw
open Go.ChangeMaps (setBlock)
set_option maxHeartbeats 400000

def NewPost (w : World) (e : Ending) (w' : World) : Prop :=
  ∃ b mb, e = .returned (.pointer (some ⟨b, 0, none⟩)) ∧ TabA w' b mb [] 0 ∧ Below w.heap.size w w' ∧ w.heap.size ≤ b ∧ w.heap.size ≤ mb
theorem new_calls (w : World) : Calls Tryz.prog 11 #[] w (NewPost w) := by
  have hmm := @run_makeMap Tryz.prog
  have HP : Hid (NewPost w (.returned (.pointer (some ⟨w.heap.size + 1, 0, none⟩))) ((w.alloc (.map #[] 0)).alloc (.cells #[.map (some w.heap.size), .int .i64 0] 99))) := by
    have e1 : (w.alloc (.map #[] 0)).heap.size = w.heap.size + 1 := by simp
    refine ⟨w.heap.size + 1, w.heap.size, rfl, ⟨?_, ?_, by simp, by simp, by simp, by simp, by omega, by omega⟩, ?_, by omega, by omega⟩
    · rw [← e1]; exact hp_alloc_new _ _
    · refine MapIs.keep (MapIs.made w) ?_
      exact Below.heap_alloc _ _ _ (by omega)
    · exact ((Below.refl _ _).alloc (Nat.le_refl _) _).alloc (by simp) _
  go_enter func11, ntmps11
  go_wp2
  go_ret
  exact HP.out

theorem current_nil (k : ByteArray) (w : World) :
    Calls Tryz.prog 16 #[.pointer none, .string k] w fun e w' => e = .returned (.int .i64 0) ∧ w = w' := by
  go_enter func16, ntmps16
  go_wp2_with (first | (go_at_call 37; refine (of_nil _ _).mono ?_; rintro e w' ⟨rfl, rfl⟩))
  go_ret
  exact ⟨rfl, rfl⟩
def tokOf (o : Option (Nat × Ls)) : Int := match o with | some x => x.2.tok | none => 0
theorem current_calls (k : ByteArray) (b mb : Nat) (A : List (ByteArray × (Nat × Ls))) (n : Int) (w : World) (hT : TabA w b mb A n) :
    Calls Tryz.prog 16 #[.pointer (some ⟨b, 0, none⟩), .string k] w fun e w' => e = .returned (.int .i64 (tokOf (mlook k A))) ∧ w = w' := by
  have HT := Lib.hid hT
  cases hx : mlook k A with
  | none =>
    clear hT
    go_enter func16, ntmps16
    go_wp2_with (first | (go_at_call 37; refine (of_calls _ _ _ _ _ _ HT.out).mono ?_; rintro e w' ⟨rfl, rfl⟩; rw [hx]; dsimp only [ptrOf, Option.map_none]))
    go_ret
    exact ⟨rfl, rfl⟩
  | some x =>
    have hc : w.cell? ⟨x.1, 0, none⟩ = some (.int .i64 x.2.tok) := cell_of_block (hT.ls _ (mlook_mem hx)) rfl
    clear hT
    go_enter func16, ntmps16
    go_wp2_with (first | (go_at_call 37; refine (of_calls _ _ _ _ _ _ HT.out).mono ?_; rintro e w' ⟨rfl, rfl⟩; rw [hx]; dsimp only [ptrOf, Option.map_some]))
    go_ret
    exact ⟨rfl, rfl⟩

theorem len_nil (w : World) :
    Calls Tryz.prog 17 #[.pointer none] w fun e w' => e = .returned (.int .i64 0) ∧ w = w' := by
  go_enter func17, ntmps17
  go_wp2
  go_ret
  exact ⟨rfl, rfl⟩
theorem len_calls (b mb : Nat) (A : List (ByteArray × (Nat × Ls))) (n : Int) (w : World) (hT : TabA w b mb A n) :
    Calls Tryz.prog 17 #[.pointer (some ⟨b, 0, none⟩)] w fun e w' => e = .returned (.int .i64 A.length) ∧ w = w' := by
  have hc : w.cell? ⟨b, 0, none⟩ = some (.map (some mb)) := cell_of_block hT.hd rfl
  have HM := Lib.hid hT.map
  have hL : (mapv (fun x : Nat × Ls => Value.pointer (some ⟨x.1, 0, none⟩)) A).length = A.length := by simp [mapv]
  clear hT
  go_enter func17, ntmps17
  go_wp2_with (first | (at_len; refine wpList_len_map _ rfl _ _ _ _ rfl underlying97 mb _ rfl HM.out ?_))
  go_ret
  exact ⟨rfl, rfl⟩

theorem inval_nil (k : ByteArray) (p : Int) (w : World) :
    Calls Tryz.prog 14 #[.pointer none, .string k, .int .i64 p] w fun e w' => e = .returned (.tuple #[]) ∧ w = w' := by
  go_enter func14, ntmps14
  go_wp2_with (first | (go_at_call 37; refine (of_nil _ _).mono ?_; rintro e w' ⟨rfl, rfl⟩))
  go_end0
  exact ⟨rfl, rfl⟩
def invA (k : ByteArray) (p : Int) (A : List (ByteArray × (Nat × Ls))) : List (ByteArray × (Nat × Ls)) :=
  match mlook k A with | some x => mput k (x.1, { x.2 with bar := max x.2.bar p }) A | none => A
def InvPost (k : ByteArray) (p : Int) (b mb : Nat) (A : List (ByteArray × (Nat × Ls))) (n : Int) (w : World) (e : Ending) (w' : World) : Prop :=
  e = .returned (.tuple #[]) ∧ TabA w' b mb (invA k p A) n ∧ Keep (foot b mb A) w w'
theorem inval_none (k : ByteArray) (p : Int) (b mb : Nat) (A : List (ByteArray × (Nat × Ls))) (n : Int) (w : World) (hT : TabA w b mb A n) (hx : mlook k A = none) :
    Calls Tryz.prog 14 #[.pointer (some ⟨b, 0, none⟩), .string k, .int .i64 p] w fun e w' => e = .returned (.tuple #[]) ∧ w = w' := by
  have HT := Lib.hid hT
  clear hT
  go_enter func14, ntmps14
  go_wp2_with (first | (go_at_call 37; refine (of_calls _ _ _ _ _ _ HT.out).mono ?_; rintro e w' ⟨rfl, rfl⟩; rw [hx]; dsimp only [ptrOf, Option.map_none]))
  go_end0
  exact ⟨rfl, rfl⟩
theorem inval_post (k : ByteArray) (p : Int) (b mb : Nat) (A : List (ByteArray × (Nat × Ls))) (n : Int) (w : World) (hT : TabA w b mb A n) (x : Nat × Ls) (hx : mlook k A = some x) :
    InvPost k p b mb A n w (.returned (.tuple #[])) (w.setCell ⟨x.1, 2, none⟩ (.int .i64 (max x.2.bar p))) := by
  have hA : invA k p A = mput k (x.1, { x.2 with bar := max x.2.bar p }) A := by simp [invA, hx]
  have hnd := hT.nd
  simp only [List.nodup_cons, List.mem_cons, not_or] at hnd
  obtain ⟨⟨hbm, hbA⟩, hmA, hN⟩ := hnd
  have hxm := mlook_mem hx
  have hxb : x.1 ≠ b := fun e => hbA (List.mem_map.2 ⟨_, hxm, e⟩)
  have hxmb : x.1 ≠ mb := fun e => hmA (List.mem_map.2 ⟨_, hxm, e⟩)
  have hblk : (mput k (x.1, { x.2 with bar := max x.2.bar p }) A).map (fun q => q.2.1) = A.map (fun q => q.2.1) := map_mput_same (v := (x.1, { x.2 with bar := max x.2.bar p })) (x := x) (fun y : Nat × Ls => y.1) rfl hx
  refine ⟨rfl, ?_, ?_⟩
  · rw [hA]
    refine ⟨hp_setCell_ne _ hT.hd (fun e => hxb e.symm), ?_, ?_, ?_, ?_, nodup_mput_key hT.keys, hT.n0, hT.n1⟩
    · have e1 : mapv (fun y : Nat × Ls => Value.pointer (some ⟨y.1, 0, none⟩)) (mput k (x.1, { x.2 with bar := max x.2.bar p }) A) = mapv (fun y : Nat × Ls => Value.pointer (some ⟨y.1, 0, none⟩)) A := by
        rw [← mput_mapv]
        refine mput_id ?_
        rw [mlook_mapv, hx]; rfl
      rw [e1]
      exact hT.map.keep (Below.heap_setCell _ _ _ _ (fun e => hxmb e.symm))
    · intro q hq
      rcases mem_mput_ne hT.keys hq with rfl | ⟨hq, hne⟩
      · have := hp_setCell_same (i := 2) (.int .i64 (max x.2.bar p)) (hT.ls _ hxm)
        simpa [lsCells] using this
      · refine hp_setCell_ne _ (hT.ls q hq) ?_
        intro e
        apply hne
        have h1 : q = (k, x) := inj_of_nodup (fun q : ByteArray × (Nat × Ls) => q.2.1) hN q hq _ hxm e
        rw [h1]
    · simp only [List.nodup_cons, List.mem_cons, not_or]
      rw [hblk]
      exact ⟨⟨hbm, hbA⟩, hmA, hN⟩
    · intro q hq
      rcases mem_mput hq with rfl | hq
      · exact hT.times (k, x) hxm
      · exact hT.times q hq
  · exact Keep.setCell (Keep.refl _ _) _ _ fun _ => .inr (.inr ⟨_, hxm, rfl⟩)
theorem inval_some (k : ByteArray) (p : Int) (b mb : Nat) (A : List (ByteArray × (Nat × Ls))) (n : Int) (w : World) (hT : TabA w b mb A n) (x : Nat × Ls) (hx : mlook k A = some x) :
    Calls Tryz.prog 14 #[.pointer (some ⟨b, 0, none⟩), .string k, .int .i64 p] w (InvPost k p b mb A n w) := by
  have HP := Lib.hid (inval_post k p b mb A n w hT x hx)
  have HT := Lib.hid hT
  have hc : w.cell? ⟨x.1, 2, none⟩ = some (.int .i64 x.2.bar) := cell_of_block (hT.ls _ (mlook_mem hx)) rfl
  have hf : w.frozen? ⟨x.1, 2, none⟩ = false := free_of_block (hT.ls _ (mlook_mem hx))
  clear hT
  go_enter func14, ntmps14
  go_wp2_with (first | (go_at_call 37; refine (of_calls _ _ _ _ _ _ HT.out).mono ?_; rintro e w' ⟨rfl, rfl⟩; rw [hx]; dsimp only [ptrOf, Option.map_some]))
  · have e1 : max x.2.bar p = p := by omega
    have HP2 := HP.out
    rw [e1] at HP2
    go_end0
    exact HP2
  · have e1 : max x.2.bar p = x.2.bar := by omega
    have HP2 := HP.out
    rw [e1] at HP2
    go_end0
    exact HP2
theorem inval_calls (k : ByteArray) (p : Int) (b mb : Nat) (A : List (ByteArray × (Nat × Ls))) (n : Int) (w : World) (hT : TabA w b mb A n) :
    Calls Tryz.prog 14 #[.pointer (some ⟨b, 0, none⟩), .string k, .int .i64 p] w (InvPost k p b mb A n w) := by
  cases hx : mlook k A with
  | none =>
    refine (inval_none k p b mb A n w hT hx).mono ?_
    rintro e w' ⟨rfl, rfl⟩
    exact ⟨rfl, by simpa [invA, hx] using hT, Keep.refl _ _⟩
  | some x => exact inval_some k p b mb A n w hT x hx

theorem fill_nil (k : ByteArray) (tok p : Int) (w : World) :
    Calls Tryz.prog 15 #[.pointer none, .string k, .int .i64 tok, .int .i64 p] w fun e w' => e = .returned (.bool false) ∧ w = w' := by
  go_enter func15, ntmps15
  go_wp2_with (first | (go_at_call 37; refine (of_nil _ _).mono ?_; rintro e w' ⟨rfl, rfl⟩))
  go_ret
  exact ⟨rfl, rfl⟩
def fitsA (k : ByteArray) (tok : Int) (A : List (ByteArray × (Nat × Ls))) : Bool := match mlook k A with | some x => decide (x.2.tok = tok) | none => false
theorem fill_no (k : ByteArray) (tok p : Int) (b mb : Nat) (A : List (ByteArray × (Nat × Ls))) (n : Int) (w : World) (hT : TabA w b mb A n) (h : fitsA k tok A = false) :
    Calls Tryz.prog 15 #[.pointer (some ⟨b, 0, none⟩), .string k, .int .i64 tok, .int .i64 p] w fun e w' => e = .returned (.bool false) ∧ w = w' := by
  have HT := Lib.hid hT
  cases hx : mlook k A with
  | none =>
    clear hT h
    go_enter func15, ntmps15
    go_wp2_with (first | (go_at_call 37; refine (of_calls _ _ _ _ _ _ HT.out).mono ?_; rintro e w' ⟨rfl, rfl⟩; rw [hx]; dsimp only [ptrOf, Option.map_none]))
    go_ret
    exact ⟨rfl, rfl⟩
  | some x =>
    have hc : w.cell? ⟨x.1, 0, none⟩ = some (.int .i64 x.2.tok) := cell_of_block (hT.ls _ (mlook_mem hx)) rfl
    have hne : ¬ x.2.tok = tok := by simpa [fitsA, hx] using h
    have hne2 : (x.2.tok == tok) = false := by simpa using hne
    clear hT h
    go_enter func15, ntmps15
    go_wp2_with (first | (go_at_call 37; refine (of_calls _ _ _ _ _ _ HT.out).mono ?_; rintro e w' ⟨rfl, rfl⟩; rw [hx]; dsimp only [ptrOf, Option.map_some]))
    go_ret
    exact ⟨rfl, rfl⟩

def FillPost (k : ByteArray) (ok : Bool) (b mb : Nat) (A : List (ByteArray × (Nat × Ls))) (n : Int) (w : World) (e : Ending) (w' : World) : Prop :=
  e = .returned (.bool ok) ∧ TabA w' b mb (mdel k A) n ∧ Keep (foot b mb A) w w'
theorem fill_post (k : ByteArray) (ok : Bool) (b mb : Nat) (A : List (ByteArray × (Nat × Ls))) (n : Int) (w : World) (hT : TabA w b mb A n) (o' : Obj)
    (hM : MapIs (setBlock w mb o') mb (mdel k (mapv (fun x => Value.pointer (some ⟨x.1, 0, none⟩)) A))) : FillPost k ok b mb A n w (.returned (.bool ok)) (setBlock w mb o') := by
  have hnd := hT.nd
  simp only [List.nodup_cons, List.mem_cons, not_or] at hnd
  obtain ⟨⟨hbm, hbA⟩, hmA, hN⟩ := hnd
  have hs := mdel_sublist k A
  rw [mdel_mapv] at hM
  refine ⟨rfl, ⟨hp_setBlock_ne hT.hd hbm, hM, ?_, ?_, ?_, (hs.map _).nodup hT.keys, hT.n0, hT.n1⟩, Keep.setBlock (Keep.refl _ _) _ _ fun _ => .inr (.inl rfl)⟩
  · intro q hq
    exact hp_setBlock_ne (hT.ls q (hs.subset hq)) fun e => hmA (List.mem_map.2 ⟨q, hs.subset hq, e⟩)
  · simp only [List.nodup_cons, List.mem_cons, not_or]
    exact ⟨⟨hbm, fun h => hbA ((hs.map _).subset h)⟩, fun h => hmA ((hs.map _).subset h), (hs.map _).nodup hN⟩
  · intro q hq
    exact hT.times q (hs.subset hq)
theorem fill_yes (k : ByteArray) (tok p : Int) (b mb : Nat) (A : List (ByteArray × (Nat × Ls))) (n : Int) (w : World) (hT : TabA w b mb A n) (x : Nat × Ls) (hx : mlook k A = some x) (ht : x.2.tok = tok) :
    Calls Tryz.prog 15 #[.pointer (some ⟨b, 0, none⟩), .string k, .int .i64 tok, .int .i64 p] w (FillPost k (decide (x.2.bar ≤ p)) b mb A n w) := by
  have HP := Lib.hid (fill_post k (decide (x.2.bar ≤ p)) b mb A n w hT)
  have HT := Lib.hid hT
  have hxm := mlook_mem hx
  have hc0 : w.cell? ⟨x.1, 0, none⟩ = some (.int .i64 tok) := cell_of_block (hT.ls _ hxm) (by simp [lsCells, ht])
  have hc2 : w.cell? ⟨x.1, 2, none⟩ = some (.int .i64 x.2.bar) := cell_of_block (hT.ls _ hxm) rfl
  have hcb : w.cell? ⟨b, 0, none⟩ = some (.map (some mb)) := cell_of_block hT.hd rfl
  have hnd := hT.nd
  simp only [List.nodup_cons, List.mem_cons, not_or] at hnd
  have hbm : b ≠ mb := hnd.1.1
  have hxmb : x.1 ≠ mb := fun e => hnd.2.1 (List.mem_map.2 ⟨_, hxm, e⟩)
  have HM := Lib.hid hT.map
  clear hT hnd ht hxm
  go_enter func15, ntmps15
  go_wp2_with (first | (go_at_call 37; refine (of_calls _ _ _ _ _ _ HT.out).mono ?_; rintro e w' ⟨rfl, rfl⟩; rw [hx]; dsimp only [ptrOf, Option.map_some]) | (at_delete; refine wpList_delete_str _ rfl _ _ _ _ _ _ rfl underlying97 underlying9 mb _ k rfl rfl HM.out ?_; intro o' hM'; have HM' := Lib.hid hM'; clear hM'))
  go_ret
  exact HP.out _ HM'.out

end Go.Proofs.YtkgmgmkbgnkdnaaGreatDoor
