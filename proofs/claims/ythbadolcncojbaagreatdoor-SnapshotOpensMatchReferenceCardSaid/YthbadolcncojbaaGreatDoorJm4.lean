/- Arguments in a segment of memory; few, same over lists; Open behind a Cut. -/
import Derived.Test.YthbadolcncojbaaGreatDoorEz
import Derived.Test.YthbadolcncojbaaGreatDoorSn2
import Derived.Test.YthbadolcncojbaaGreatDoorEx11

namespace Go.Proofs.YthbadolcncojbaaGreatDoor
open Go.Proofs.Tryz
open Go Go.RowKit Gw
set_option linter.unusedVariables false
set_option maxRecDepth 100000
attribute [local irreducible] Gw.At Gw.Nx Gw.Ops
/-- In the memory M the value v reads as the list of strings ls. -/
def StrsIn (M : List Chunk) (v : Value) (ls : List (List UInt8)) : Prop :=
  (∃ p cap, v = .slice p 0 cap ∧ ls = []) ∨ ∃ g o cap cur T z, v = .slice (some ⟨g, o, none⟩) ls.length cap ∧ (g, .cells cur T z) ∈ M ∧ CellsIn cur o (ls.map strV) ∧ ls.length ≤ maxLen
theorem mem_perm {α} {x : α} {M : List α} (h : x ∈ M) : ∃ R, M.Perm (x :: R) := by
  obtain ⟨a, b, rfl⟩ := List.append_of_mem h
  exact ⟨a ++ b, List.perm_middle⟩
theorem few_mem {M : List Chunk} {v : Value} {ls : List (List UInt8)} (h : StrsIn M v ls) :
    Does Tryz.prog 37 #[v] [M] (fun r H' => ∃ sv, Row 9 r ((fewL ls).map strV) sv ∧ H' = [M, sv]) := by
  rcases h with ⟨p, cap, rfl, rfl⟩ | ⟨g, o, cap, cur, T, z, rfl, hm, hin, hl⟩
  · refine does_mono (does_frame (few_zero p cap) [M] (by simp)) ?_
    rintro r _ ⟨H2, ⟨rfl, rfl⟩, rfl⟩
    exact ⟨_, ⟨[], row_nil _, rfl⟩, by simp⟩
  · obtain ⟨R, hR⟩ := mem_perm hm
    refine does_perm (does_frame (H := [[(g, .cells cur T z)] ++ R]) (few_some g o cap cur T z ls hin (by unfold maxLen at hl; omega)) [R] (by simp)) (by simpa using hR) ?_
    rintro r _ ⟨H2, ⟨sv, h1, rfl⟩, rfl⟩
    refine ⟨_, ⟨sv, h1, rfl⟩, ?_⟩
    simp only [List.flatten_cons, List.flatten_nil, List.append_nil, List.cons_append, List.nil_append, List.append_assoc]
    refine List.Perm.trans ?_ (List.Perm.append_right sv hR.symm)
    exact (List.Perm.cons _ List.perm_append_comm)

theorem same_none (n : Nat) (p q : Option Addr) (cap cap' : Nat) (hn : 0 < n) : DoesR Tryz.prog 25 #[.slice p n cap, .slice q 0 cap'] [] (.bool false) := by
 refine spec_enter func25 rfl ntmps25 rfl ?_
 intro u R
 refine Zb [0, 1] ?_
 refine Zq <| Zg <| Za Y <| Z0 <| Zx <| Zq <| Zq <| Zg <| Zm Y <| Zv (p_len_slice underlying43 Y) <| Zm Y <| Zv (p_len_slice underlying43 Y) ?_
 first | refine op_v (p_neq_nat Y Y) ?_ | refine op_v (p_neq Y Y) ?_
 refine Z0 <| Zx ?_
 first | refine at_if Y (fun hne => ?_) (fun hne => ?_) | refine at_if_bool Y (fun hne => ?_) (fun hne => ?_)
 ·
  refine Zq <| Zg <| Za Y <| Z0 <| Zx <| at_ret <| Zt ?_
  refine nx_end1 rfl results25 Y (by exact ⟨rfl, rfl⟩)
 ·
  exfalso; omega

theorem few_short {ls : List (List UInt8)} : ∀ r ∈ fewL ls, r.length ≤ 65536 := by
  intro r hr
  unfold fewL at hr
  obtain ⟨x, _, rfl⟩ := List.mem_map.1 hr
  rw [List.length_take]; omega
theorem few_len (ls : List (List UInt8)) : (fewL ls).length ≤ 6 := by
  unfold fewL; rw [List.length_map, List.length_take]; omega
theorem row_in {e : TypeId} {v : Value} {xs : List Value} {s : List Chunk} (h : Row e v xs s) (hn : 0 < xs.length) : ∃ g cap cur z, v = .slice (some ⟨g, 0, none⟩) xs.length cap ∧ s = [(g, .cells cur e z)] ∧ CellsIn cur 0 xs := by
  obtain ⟨g, cap, cur, z, h1, h2, h3, h4, h5, h6, h7⟩ := h.some hn
  exact ⟨g, cap, cur, z, h1, h2, by unfold CellsIn; rw [List.drop_zero]; exact h6⟩
theorem same_rows {v v' : Value} {xa bs : List (List UInt8)} {s s' : List Chunk} (h : Row 9 v (xa.map strV) s) (h' : Row 9 v' (bs.map strV) s') (hl : xa.length ≤ 4194304) :
    DoesR Tryz.prog 25 #[v, v'] [s, s'] (.bool (decide (xa = bs))) := by
  by_cases ha : xa = []
  · subst ha
    obtain ⟨b, c, rfl⟩ := h.form
    obtain ⟨b', c', rfl⟩ := h'.form
    refine does_mono (does_frame (same_zero b b' (bs.map strV).length c c') [s, s'] (by simp)) ?_
    rintro r _ ⟨H2, ⟨rfl, rfl⟩, rfl⟩
    refine ⟨_, ⟨?_, rfl⟩, by simp⟩
    congr 2
    rw [List.length_map]
    cases bs <;> simp
  · by_cases hb : bs = []
    · subst hb
      obtain ⟨g, cap, cur, z, rfl, rfl, hin⟩ := row_in h (by rw [List.length_map]; exact List.length_pos_iff.2 ha)
      obtain ⟨b', c', rfl⟩ := h'.form
      rw [List.length_map]
      refine does_mono (does_frame (same_none xa.length (some ⟨g, 0, none⟩) b' cap c' (List.length_pos_iff.2 ha)) [[(g, .cells cur 9 z)], s'] (by simp)) ?_
      rintro r _ ⟨H2, ⟨rfl, rfl⟩, rfl⟩
      exact ⟨_, ⟨by rw [decide_eq_false ha], rfl⟩, by simp⟩
    · obtain ⟨g, cap, cur, z, rfl, rfl, hin⟩ := row_in h (by rw [List.length_map]; exact List.length_pos_iff.2 ha)
      obtain ⟨g', cap', cur', z', rfl, rfl, hin'⟩ := row_in h' (by rw [List.length_map]; exact List.length_pos_iff.2 hb)
      rw [List.length_map, List.length_map]
      exact same_some g 0 cap g' 0 cap' cur cur' 9 9 z z' xa bs hin hin' (by omega)
end Go.Proofs.YthbadolcncojbaaGreatDoor
