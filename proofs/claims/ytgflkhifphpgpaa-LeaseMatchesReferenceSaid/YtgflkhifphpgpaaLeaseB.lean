/- Contracts of the functions of the lease table, continued. -/
import Derived.Test.YtgflkhifphpgpaaLeaseA
namespace Go.Proofs.Ytgflkhifphpgpaa
open Go Go.RowKit Gw
open Go.ChangeMaps (setBlock)
set_option maxHeartbeats 400000

def NewPost (w : World) (e : Ending) (w' : World) : Prop :=
  ∃ b mb, e = .returned (.pointer (some ⟨b, 0, none⟩)) ∧ TabA w' b mb [] 0 ∧ Below w.heap.size w w' ∧ w.heap.size ≤ b ∧ w.heap.size ≤ mb
theorem new_calls (w : World) : Calls Try.prog 9 #[] w (NewPost w) := by
  have hmm := @run_makeMap Try.prog
  have HP : Hid (NewPost w (.returned (.pointer (some ⟨w.heap.size + 1, 0, none⟩))) ((w.alloc (.map #[] 0)).alloc (.cells #[.map (some w.heap.size), .int .i64 0] 52))) := by
    have e1 : (w.alloc (.map #[] 0)).heap.size = w.heap.size + 1 := by simp
    refine ⟨w.heap.size + 1, w.heap.size, rfl, ⟨?_, ?_, by simp, by simp, by simp, by simp, by omega, by omega⟩, ?_, by omega, by omega⟩
    · rw [← e1]; exact hp_alloc_new _ _
    · refine MapIs.keep (MapIs.made w) ?_
      exact Below.heap_alloc _ _ _ (by omega)
    · exact ((Below.refl _ _).alloc (Nat.le_refl _) _).alloc (by simp) _
  go_enter Try.func9, Try.ntmps9
  go_wp2
  go_ret
  exact HP.out

theorem current_nil (k : ByteArray) (w : World) :
    Calls Try.prog 23 #[.pointer none, .string k] w fun e w' => e = .returned (.int .i64 0) ∧ w = w' := by
  go_enter Try.func23, Try.ntmps23
  go_wp2_with (first | (go_at_call 24; refine (of_nil _ _).mono ?_; rintro e w' ⟨rfl, rfl⟩))
  go_ret
  exact ⟨rfl, rfl⟩
def tokOf (o : Option (Nat × Ls)) : Int := match o with | some x => x.2.tok | none => 0
theorem current_calls (k : ByteArray) (b mb : Nat) (A : List (ByteArray × (Nat × Ls))) (n : Int) (w : World) (hT : TabA w b mb A n) :
    Calls Try.prog 23 #[.pointer (some ⟨b, 0, none⟩), .string k] w fun e w' => e = .returned (.int .i64 (tokOf (mlook k A))) ∧ w = w' := by
  have HT := Lib.hid hT
  cases hx : mlook k A with
  | none =>
    clear hT
    go_enter Try.func23, Try.ntmps23
    go_wp2_with (first | (go_at_call 24; refine (of_calls _ _ _ _ _ _ HT.out).mono ?_; rintro e w' ⟨rfl, rfl⟩; rw [hx]; dsimp only [ptrOf, Option.map_none]))
    go_ret
    exact ⟨rfl, rfl⟩
  | some x =>
    have hc : w.cell? ⟨x.1, 0, none⟩ = some (.int .i64 x.2.tok) := cell_of_block (hT.ls _ (mlook_mem hx)) rfl
    clear hT
    go_enter Try.func23, Try.ntmps23
    go_wp2_with (first | (go_at_call 24; refine (of_calls _ _ _ _ _ _ HT.out).mono ?_; rintro e w' ⟨rfl, rfl⟩; rw [hx]; dsimp only [ptrOf, Option.map_some]))
    go_ret
    exact ⟨rfl, rfl⟩

theorem len_nil (w : World) :
    Calls Try.prog 22 #[.pointer none] w fun e w' => e = .returned (.int .i64 0) ∧ w = w' := by
  go_enter Try.func22, Try.ntmps22
  go_wp2
  go_ret
  exact ⟨rfl, rfl⟩
theorem len_calls (b mb : Nat) (A : List (ByteArray × (Nat × Ls))) (n : Int) (w : World) (hT : TabA w b mb A n) :
    Calls Try.prog 22 #[.pointer (some ⟨b, 0, none⟩)] w fun e w' => e = .returned (.int .i64 A.length) ∧ w = w' := by
  have hc : w.cell? ⟨b, 0, none⟩ = some (.map (some mb)) := cell_of_block hT.hd rfl
  have HM := Lib.hid hT.map
  have hL : (mapv (fun x : Nat × Ls => Value.pointer (some ⟨x.1, 0, none⟩)) A).length = A.length := by simp [mapv]
  clear hT
  go_enter Try.func22, Try.ntmps22
  go_wp2_with (first | (at_len; refine wpList_len_map _ rfl _ _ _ _ rfl Try.underlying50 mb _ rfl HM.out ?_))
  go_ret
  exact ⟨rfl, rfl⟩

theorem inval_nil (k : ByteArray) (p : Int) (w : World) :
    Calls Try.prog 15 #[.pointer none, .string k, .int .i64 p] w fun e w' => e = .returned (.tuple #[]) ∧ w = w' := by
  go_enter Try.func15, Try.ntmps15
  go_wp2_with (first | (go_at_call 24; refine (of_nil _ _).mono ?_; rintro e w' ⟨rfl, rfl⟩))
  go_end0
  exact ⟨rfl, rfl⟩
def invA (k : ByteArray) (p : Int) (A : List (ByteArray × (Nat × Ls))) : List (ByteArray × (Nat × Ls)) :=
  match mlook k A with | some x => mput k (x.1, { x.2 with bar := max x.2.bar p }) A | none => A
def InvPost (k : ByteArray) (p : Int) (b mb : Nat) (A : List (ByteArray × (Nat × Ls))) (n : Int) (w : World) (e : Ending) (w' : World) : Prop :=
  e = .returned (.tuple #[]) ∧ TabA w' b mb (invA k p A) n ∧ Keep (foot b mb A) w w'
theorem inval_none (k : ByteArray) (p : Int) (b mb : Nat) (A : List (ByteArray × (Nat × Ls))) (n : Int) (w : World) (hT : TabA w b mb A n) (hx : mlook k A = none) :
    Calls Try.prog 15 #[.pointer (some ⟨b, 0, none⟩), .string k, .int .i64 p] w fun e w' => e = .returned (.tuple #[]) ∧ w = w' := by
  have HT := Lib.hid hT
  clear hT
  go_enter Try.func15, Try.ntmps15
  go_wp2_with (first | (go_at_call 24; refine (of_calls _ _ _ _ _ _ HT.out).mono ?_; rintro e w' ⟨rfl, rfl⟩; rw [hx]; dsimp only [ptrOf, Option.map_none]))
  go_end0
  exact ⟨rfl, rfl⟩
theorem inval_post (k : ByteArray) (p : Int) (b mb : Nat) (A : List (ByteArray × (Nat × Ls))) (n : Int) (w : World) (hT : TabA w b mb A n) (x : Nat × Ls) (hx : mlook k A = some x) :
    InvPost k p b mb A n w (.returned (.tuple #[])) (w.setCell ⟨x.1, 2, none⟩ (.int .i64 (max x.2.bar p))) := by
  have hA : invA k p A = mput k (x.1, { x.2 with bar := max x.2.bar p }) A := by simp [invA, hx]
  have hnd := hT.nd
  simp only [List.nodup_cons, List.mem_cons, not_or] at hnd
  obtain ⟨⟨hbm, hbA⟩, hmA, hN⟩ := hnd
  have hxm := mlook_mem hx
  have hxb : x.1 ≠ b := fun e => hbA (List.mem_map.2 ⟨_, hxm, e⟩)
  have hxmb : x.1 ≠ mb := fun e => hmA (List.mem_map.2 ⟨_, hxm, e⟩)
  have hblk : (mput k (x.1, { x.2 with bar := max x.2.bar p }) A).map (fun q => q.2.1) = A.map (fun q => q.2.1) := map_mput_same (v := (x.1, { x.2 with bar := max x.2.bar p })) (x := x) (fun y : Nat × Ls => y.1) rfl hx
  refine ⟨rfl, ?_, ?_⟩
  · rw [hA]
    refine ⟨hp_setCell_ne _ hT.hd (fun e => hxb e.symm), ?_, ?_, ?_, ?_, nodup_mput_key hT.keys, hT.n0, hT.n1⟩
    · have e1 : mapv (fun y : Nat × Ls => Value.pointer (some ⟨y.1, 0, none⟩)) (mput k (x.1, { x.2 with bar := max x.2.bar p }) A) = mapv (fun y : Nat × Ls => Value.pointer (some ⟨y.1, 0, none⟩)) A := by
        rw [← mput_mapv]
        refine mput_id ?_
        rw [mlook_mapv, hx]; rfl
      rw [e1]
      exact hT.map.keep (Below.heap_setCell _ _ _ _ (fun e => hxmb e.symm))
    · intro q hq
      rcases mem_mput_ne hT.keys hq with rfl | ⟨hq, hne⟩
      · have := hp_setCell_same (i := 2) (.int .i64 (max x.2.bar p)) (hT.ls _ hxm)
        simpa [lsCells] using this
      · refine hp_setCell_ne _ (hT.ls q hq) ?_
        intro e
        apply hne
        have h1 : q = (k, x) := inj_of_nodup (fun q : ByteArray × (Nat × Ls) => q.2.1) hN q hq _ hxm e
        rw [h1]
    · simp only [List.nodup_cons, List.mem_cons, not_or]
      rw [hblk]
      exact ⟨⟨hbm, hbA⟩, hmA, hN⟩
    · intro q hq
      rcases mem_mput hq with rfl | hq
      · exact hT.times (k, x) hxm
      · exact hT.times q hq
  · exact Keep.setCell (Keep.refl _ _) _ _ fun _ => .inr (.inr ⟨_, hxm, rfl⟩)
theorem inval_some (k : ByteArray) (p : Int) (b mb : Nat) (A : List (ByteArray × (Nat × Ls))) (n : Int) (w : World) (hT : TabA w b mb A n) (x : Nat × Ls) (hx : mlook k A = some x) :
    Calls Try.prog 15 #[.pointer (some ⟨b, 0, none⟩), .string k, .int .i64 p] w (InvPost k p b mb A n w) := by
  have HP := Lib.hid (inval_post k p b mb A n w hT x hx)
  have HT := Lib.hid hT
  have hc : w.cell? ⟨x.1, 2, none⟩ = some (.int .i64 x.2.bar) := cell_of_block (hT.ls _ (mlook_mem hx)) rfl
  have hf : w.frozen? ⟨x.1, 2, none⟩ = false := free_of_block (hT.ls _ (mlook_mem hx))
  clear hT
  go_enter Try.func15, Try.ntmps15
  go_wp2_with (first | (go_at_call 24; refine (of_calls _ _ _ _ _ _ HT.out).mono ?_; rintro e w' ⟨rfl, rfl⟩; rw [hx]; dsimp only [ptrOf, Option.map_some]))
  · have e1 : max x.2.bar p = p := by omega
    have HP2 := HP.out
    rw [e1] at HP2
    go_end0
    exact HP2
  · have e1 : max x.2.bar p = x.2.bar := by omega
    have HP2 := HP.out
    rw [e1] at HP2
    go_end0
    exact HP2
theorem inval_calls (k : ByteArray) (p : Int) (b mb : Nat) (A : List (ByteArray × (Nat × Ls))) (n : Int) (w : World) (hT : TabA w b mb A n) :
    Calls Try.prog 15 #[.pointer (some ⟨b, 0, none⟩), .string k, .int .i64 p] w (InvPost k p b mb A n w) := by
  cases hx : mlook k A with
  | none =>
    refine (inval_none k p b mb A n w hT hx).mono ?_
    rintro e w' ⟨rfl, rfl⟩
    exact ⟨rfl, by simpa [invA, hx] using hT, Keep.refl _ _⟩
  | some x => exact inval_some k p b mb A n w hT x hx

theorem fill_nil (k : ByteArray) (tok p : Int) (w : World) :
    Calls Try.prog 18 #[.pointer none, .string k, .int .i64 tok, .int .i64 p] w fun e w' => e = .returned (.bool false) ∧ w = w' := by
  go_enter Try.func18, Try.ntmps18
  go_wp2_with (first | (go_at_call 24; refine (of_nil _ _).mono ?_; rintro e w' ⟨rfl, rfl⟩))
  go_ret
  exact ⟨rfl, rfl⟩
def fitsA (k : ByteArray) (tok : Int) (A : List (ByteArray × (Nat × Ls))) : Bool := match mlook k A with | some x => decide (x.2.tok = tok) | none => false
theorem fill_no (k : ByteArray) (tok p : Int) (b mb : Nat) (A : List (ByteArray × (Nat × Ls))) (n : Int) (w : World) (hT : TabA w b mb A n) (h : fitsA k tok A = false) :
    Calls Try.prog 18 #[.pointer (some ⟨b, 0, none⟩), .string k, .int .i64 tok, .int .i64 p] w fun e w' => e = .returned (.bool false) ∧ w = w' := by
  have HT := Lib.hid hT
  cases hx : mlook k A with
  | none =>
    clear hT h
    go_enter Try.func18, Try.ntmps18
    go_wp2_with (first | (go_at_call 24; refine (of_calls _ _ _ _ _ _ HT.out).mono ?_; rintro e w' ⟨rfl, rfl⟩; rw [hx]; dsimp only [ptrOf, Option.map_none]))
    go_ret
    exact ⟨rfl, rfl⟩
  | some x =>
    have hc : w.cell? ⟨x.1, 0, none⟩ = some (.int .i64 x.2.tok) := cell_of_block (hT.ls _ (mlook_mem hx)) rfl
    have hne : ¬ x.2.tok = tok := by simpa [fitsA, hx] using h
    have hne2 : (x.2.tok == tok) = false := by simpa using hne
    clear hT h
    go_enter Try.func18, Try.ntmps18
    go_wp2_with (first | (go_at_call 24; refine (of_calls _ _ _ _ _ _ HT.out).mono ?_; rintro e w' ⟨rfl, rfl⟩; rw [hx]; dsimp only [ptrOf, Option.map_some]))
    go_ret
    exact ⟨rfl, rfl⟩

def FillPost (k : ByteArray) (ok : Bool) (b mb : Nat) (A : List (ByteArray × (Nat × Ls))) (n : Int) (w : World) (e : Ending) (w' : World) : Prop :=
  e = .returned (.bool ok) ∧ TabA w' b mb (mdel k A) n ∧ Keep (foot b mb A) w w'
theorem fill_post (k : ByteArray) (ok : Bool) (b mb : Nat) (A : List (ByteArray × (Nat × Ls))) (n : Int) (w : World) (hT : TabA w b mb A n) (o' : Obj)
    (hM : MapIs (setBlock w mb o') mb (mdel k (mapv (fun x => Value.pointer (some ⟨x.1, 0, none⟩)) A))) : FillPost k ok b mb A n w (.returned (.bool ok)) (setBlock w mb o') := by
  have hnd := hT.nd
  simp only [List.nodup_cons, List.mem_cons, not_or] at hnd
  obtain ⟨⟨hbm, hbA⟩, hmA, hN⟩ := hnd
  have hs := mdel_sublist k A
  rw [mdel_mapv] at hM
  refine ⟨rfl, ⟨hp_setBlock_ne hT.hd hbm, hM, ?_, ?_, ?_, (hs.map _).nodup hT.keys, hT.n0, hT.n1⟩, Keep.setBlock (Keep.refl _ _) _ _ fun _ => .inr (.inl rfl)⟩
  · intro q hq
    exact hp_setBlock_ne (hT.ls q (hs.subset hq)) fun e => hmA (List.mem_map.2 ⟨q, hs.subset hq, e⟩)
  · simp only [List.nodup_cons, List.mem_cons, not_or]
    exact ⟨⟨hbm, fun h => hbA ((hs.map _).subset h)⟩, fun h => hmA ((hs.map _).subset h), (hs.map _).nodup hN⟩
  · intro q hq
    exact hT.times q (hs.subset hq)
theorem fill_yes (k : ByteArray) (tok p : Int) (b mb : Nat) (A : List (ByteArray × (Nat × Ls))) (n : Int) (w : World) (hT : TabA w b mb A n) (x : Nat × Ls) (hx : mlook k A = some x) (ht : x.2.tok = tok) :
    Calls Try.prog 18 #[.pointer (some ⟨b, 0, none⟩), .string k, .int .i64 tok, .int .i64 p] w (FillPost k (decide (x.2.bar ≤ p)) b mb A n w) := by
  have HP := Lib.hid (fill_post k (decide (x.2.bar ≤ p)) b mb A n w hT)
  have HT := Lib.hid hT
  have hxm := mlook_mem hx
  have hc0 : w.cell? ⟨x.1, 0, none⟩ = some (.int .i64 tok) := cell_of_block (hT.ls _ hxm) (by simp [lsCells, ht])
  have hc2 : w.cell? ⟨x.1, 2, none⟩ = some (.int .i64 x.2.bar) := cell_of_block (hT.ls _ hxm) rfl
  have hcb : w.cell? ⟨b, 0, none⟩ = some (.map (some mb)) := cell_of_block hT.hd rfl
  have hnd := hT.nd
  simp only [List.nodup_cons, List.mem_cons, not_or] at hnd
  have hbm : b ≠ mb := hnd.1.1
  have hxmb : x.1 ≠ mb := fun e => hnd.2.1 (List.mem_map.2 ⟨_, hxm, e⟩)
  have HM := Lib.hid hT.map
  clear hT hnd ht hxm
  go_enter Try.func18, Try.ntmps18
  go_wp2_with (first | (go_at_call 24; refine (of_calls _ _ _ _ _ _ HT.out).mono ?_; rintro e w' ⟨rfl, rfl⟩; rw [hx]; dsimp only [ptrOf, Option.map_some]) | (at_delete; refine wpList_delete_str _ rfl _ _ _ _ _ _ rfl Try.underlying50 Try.underlying9 mb _ k rfl rfl HM.out ?_; intro o' hM'; have HM' := Lib.hid hM'; clear hM'))
  go_ret
  exact HP.out _ HM'.out

end Go.Proofs.Ytgflkhifphpgpaa
