/- Contracts of Expire and its function literal. -/
import Derived.Test.YtkgmgmkbgnkdnaaGreatDoorEz
import Derived.Test.YtkgmgmkbgnkdnaaGreatDoorLeaseB
import Derived.Test.YtkgmgmkbgnkdnaaGreatDoorMapRange
import Derived.Deep.DeepMust

namespace Go.Proofs.YtkgmgmkbgnkdnaaGreatDoor
open Go.Proofs.Tryz
open Go Go.RowKit Gw
open Go.ChangeMaps (setBlock)
set_option maxHeartbeats 400000

abbrev ptrs (A : List (ByteArray × (Nat × Ls))) : List (ByteArray × Value) := mapv (fun x => Value.pointer (some ⟨x.1, 0, none⟩)) A
def EndPost (k : ByteArray) (b mb Bo base : Nat) (es : Array MapEntry) (c0 : Nat) (A : List (ByteArray × (Nat × Ls))) (n : Int) (xs : List ByteArray) (w : World) (e : Ending) (w' : World) : Prop :=
  e = .returned (.tuple #[]) ∧ ∃ es' sv', MapE w' mb es' c0 (ptrs (mdel k A)) ∧ es'.toList.Sublist es.toList ∧ TabA w' b mb (mdel k A) n ∧
    w'.heap[Bo]? = some (.cells #[sv'] 61 (0, 0)) ∧ w'.ownsRow base 9 1 sv' (xs.length + 1) ((xs ++ [k]).map Value.string) ∧ sv' ≠ .slice none 0 0 ∧
    Keep (fun i => i = mb ∨ i = Bo ∨ base ≤ i) w w'

theorem tabA_del {k : ByteArray} {b mb : Nat} {A : List (ByteArray × (Nat × Ls))} {n : Int} {w w' : World} (hT : TabA w b mb A n) {S : Nat → Prop} (hK : Keep S w w') (hb : ¬ S b) (hS : ∀ q ∈ A, ¬ S q.2.1)
    (hM : MapIs w' mb (ptrs (mdel k A))) : TabA w' b mb (mdel k A) n := by
  have hnd := hT.nd
  simp only [List.nodup_cons, List.mem_cons, not_or] at hnd
  obtain ⟨⟨hbm, hbA⟩, hmA, hN⟩ := hnd
  have hs := mdel_sublist k A
  refine ⟨hK.get hT.hd hb, hM, fun q hq => hK.get (hT.ls q (hs.subset hq)) (hS q (hs.subset hq)), ?_, fun q hq => hT.times q (hs.subset hq), (hs.map _).nodup hT.keys, hT.n0, hT.n1⟩
  simp only [List.nodup_cons, List.mem_cons, not_or]
  exact ⟨⟨hbm, fun h => hbA ((hs.map _).subset h)⟩, fun h => hmA ((hs.map _).subset h), (hs.map _).nodup hN⟩

theorem strInfo : (Tryz.prog.info? 9).map (fun i => (i.zero, i.size, i.bytes)) = some (some (.string ByteArray.empty), 1, 16) := by kernel_rfl

theorem end_post (k : ByteArray) (b mb Bo base : Nat) (es : Array MapEntry) (c0 : Nat) (A : List (ByteArray × (Nat × Ls))) (n : Int) (sv : Value) (xs : List ByteArray) (w : World) (hT : TabA w b mb A n)
    (ho : w.heap[Bo]? = some (.cells #[sv] 61 (0, 0))) (hsv : ∀ j, sv.ownBlock = some j → base ≤ j) (hbase : base ≤ w.heap.size) (hBo : Bo < base) (hmb : mb < base) (hb : b < base) (hbo : b ≠ Bo) (hmo : mb ≠ Bo) (hA : ∀ q ∈ A, q.2.1 ≠ Bo ∧ q.2.1 < base)
    (w1 : World) (es' : Array MapEntry) (hK1 : Keep (fun i => i = mb) w w1) (hs1 : w1.heap.size = w.heap.size) (hE1 : MapE w1 mb es' c0 (mdel k (ptrs A))) (hsub : es'.toList.Sublist es.toList)
    (ob : Obj) (g cap : Nat) (w2 : World) (hown2 : w2.ownsRow base 9 1 (.slice (some ⟨g, 0, none⟩) (xs.length + 1) cap) (xs.length + 1) (xs.map Value.string ++ [.string k])) (_hbg : base ≤ g) (hg2 : (w1.alloc ob).grownBy w2 sv.ownBlock) :
    w2.heap[Bo]? = some (.cells #[sv] 61 (0, 0)) ∧ EndPost k b mb Bo base es c0 A n xs w (.returned (.tuple #[])) (w2.setCell ⟨Bo, 0, none⟩ (.slice (some ⟨g, 0, none⟩) (xs.length + 1) cap)) := by
  have hnd := hT.nd
  simp only [List.nodup_cons, List.mem_cons, not_or] at hnd
  have hg : ∀ i, i < base → w2.heap[i]? = (w1.alloc ob).heap[i]? := fun i hi => hg2.block i (by simp; omega) fun e => by have := hsv i e.symm; omega
  have hg' : ∀ i, i < base → w2.heap[i]? = w1.heap[i]? := fun i hi => (hg i hi).trans (Below.heap_alloc _ _ _ (by omega))
  have hbo2 : w2.heap[Bo]? = some (.cells #[sv] 61 (0, 0)) := by rw [hg' Bo hBo]; exact hK1.get ho (fun e => hmo e.symm)
  have hK2 : Keep (fun i => i = mb ∨ i = Bo ∨ base ≤ i) w w2 := Keep.grown (Keep.alloc (hK1.mono fun i hi => .inl hi) ob) hg2 fun j hj _ => .inr (.inr (hsv j hj))
  have hK3 : Keep (fun i => i = mb ∨ i = Bo ∨ base ≤ i) w (w2.setCell ⟨Bo, 0, none⟩ (.slice (some ⟨g, 0, none⟩) (xs.length + 1) cap)) := hK2.setCell _ _ fun _ => .inr (.inl rfl)
  have hE3 : MapE (w2.setCell ⟨Bo, 0, none⟩ (.slice (some ⟨g, 0, none⟩) (xs.length + 1) cap)) mb es' c0 (ptrs (mdel k A)) := by
    rw [mdel_mapv] at hE1
    refine hE1.keep ?_
    rw [Below.heap_setCell _ _ _ _ hmo]
    exact hg' mb hmb
  refine ⟨hbo2, rfl, es', _, hE3, hsub, ?_, by simpa using hp_setCell_same (i := 0) (.slice (some ⟨g, 0, none⟩) (xs.length + 1) cap) hbo2, ?_, by simp, hK3⟩
  · refine tabA_del hT hK3 ?_ ?_ hE3.is
    · simp only [not_or]; exact ⟨hnd.1.1, hbo, by omega⟩
    · intro q hq
      simp only [not_or]
      exact ⟨fun e => hnd.2.1 (List.mem_map.2 ⟨q, hq, e⟩), (hA q hq).1, by have := (hA q hq).2; omega⟩
  · have := ownsRow_setCell_below hown2 (a := ⟨Bo, 0, none⟩) hBo (.slice (some ⟨g, 0, none⟩) (xs.length + 1) cap)
    simpa using this

theorem end_calls (k : ByteArray) (b mb Bt Bo base : Nat) (es : Array MapEntry) (c0 : Nat) (A : List (ByteArray × (Nat × Ls))) (n : Int) (sv : Value) (xs : List ByteArray) (w : World) (hT : TabA w b mb A n)
    (hE : MapE w mb es c0 (ptrs A)) (ht : w.heap[Bt]? = some (.cells #[.pointer (some ⟨b, 0, none⟩)] 45 (0, 0))) (ho : w.heap[Bo]? = some (.cells #[sv] 61 (0, 0)))
    (hown : w.ownsRow base 9 1 sv xs.length (xs.map Value.string)) (hbase : base ≤ w.heap.size) (hBo : Bo < base) (hmb : mb < base) (hb : b < base) (hbo : b ≠ Bo) (hmo : mb ≠ Bo) (hA : ∀ q ∈ A, q.2.1 ≠ Bo ∧ q.2.1 < base) (hlen : xs.length ≤ 1000000) :
    Calls Tryz.prog 43 #[.string k, .pointer (some ⟨Bt, 0, none⟩), .pointer (some ⟨Bo, 0, none⟩)] w (EndPost k b mb Bo base es c0 A n xs w) := by
  have hct : w.cell? ⟨Bt, 0, none⟩ = some (.pointer (some ⟨b, 0, none⟩)) := cell_of_block ht rfl
  have hcb : w.cell? ⟨b, 0, none⟩ = some (.map (some mb)) := cell_of_block hT.hd rfl
  have hnd := hT.nd
  simp only [List.nodup_cons, List.mem_cons, not_or] at hnd
  have HE := Lib.hid hE
  have HT := Lib.hid hT
  have HO := Lib.hid ho
  have HOWN := Lib.hid hown
  have HA := Lib.hid hA
  have HND := Lib.hid hnd
  have hmo' : Bo ≠ mb := fun e => hmo e.symm
  have hsv : ∀ j, sv.ownBlock = some j → base ≤ j := fun j hj => (hown.lt j hj).1
  have HSV := Lib.hid hsv
  clear hT hE ht ho hown hA hnd hsv
  go_enter func43, ntmps43
  have hlen2 : xs.length ≤ 1000000000 := by omega
  go_wp2_with (first | (at_delete; go_must (refine wpList_delete_E _ rfl _ _ _ _ _ _ rfl underlying97 underlying9 mb _ _ _ k rfl rfl HE.out ?_; intro w1 es' hK1 hs1 hE1 hsub1; have hc2 : w1.cell? ⟨Bo, 0, none⟩ = some sv := hK1.cell (cell_of_block HO.out rfl) hmo'; have HK1 := Lib.hid hK1; have HS1 := Lib.hid hs1; have HE1 := Lib.hid hE1; have HSUB1 := Lib.hid hsub1; have HOWN1 := Lib.hid (ownsRow_keep HOWN.out hK1 (fun i (hi : i = mb) => hi ▸ hmb)); clear hK1 hs1 hE1 hsub1)) | (at_builtin; go_must (refine wpList_append_one _ rfl _ _ 61 rfl base 9 (.string ByteArray.empty) 16 underlying61 strInfo rfl _ _ _ rfl (HOWN1.out.alloc _) ⟨_, 0, none⟩ 1 (.string k) rfl (World.cell?_alloc_new _ _ _ _) rfl hlen2 (by omega) (by rw [World.size_alloc, HS1.out]; omega) ?_; intro g cap w2 hbg hown2 hg2; clear hc2; have HOWN2 := Lib.hid hown2; have HG2 := Lib.hid hg2; clear hown2 hg2; have hpost := end_post k b mb Bo base es c0 A n sv xs w HT.out HO.out HSV.out hbase hBo hmb hb hbo hmo HA.out w1 es' HK1.out HS1.out HE1.out HSUB1.out _ g cap w2 HOWN2.out hbg HG2.out; have hbl2 := hpost.1; have HPOST := Lib.hid hpost.2; clear hpost; have hc3 : w2.cell? ⟨Bo, 0, none⟩ = some sv := cell_of_block hbl2 rfl; have hf3 : w2.frozen? ⟨Bo, 0, none⟩ = false := free_of_block hbl2; have HBL2 := Lib.hid hbl2; clear hbl2)))
  go_end0
  exact HPOST.out
end Go.Proofs.YtkgmgmkbgnkdnaaGreatDoor
