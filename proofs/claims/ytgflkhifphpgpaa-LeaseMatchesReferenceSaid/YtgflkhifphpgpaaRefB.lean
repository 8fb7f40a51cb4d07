/- The reference table of layer 16: Invalidate, Fill. -/
import Derived.Test.YtgflkhifphpgpaaRefA
import Derived.BigQuiet
import Derived.StillTailTactics
import Derived.Deep.RegionHeld3
namespace Go.Proofs.Ytgflkhifphpgpaa
open Go Go.RowKit Gw
open Go.ChangeMaps (setBlock)
set_option maxHeartbeats 1000000

theorem mput_set {α : Type} {k : ByteArray} {x : α} (v : α) : ∀ {l : List (ByteArray × α)} {i : Nat}, (l.map (·.1)).Nodup → l[i]? = some (k, x) → mput k v l = l.set i (k, v)
  | [], i, _, h => by simp at h
  | p :: l, 0, _, h => by
    simp at h; subst h
    simp [mput]
  | p :: l, i + 1, hn, h => by
    simp at h
    simp only [List.map_cons, List.nodup_cons] at hn
    have hne : k ≠ p.1 := fun e => hn.1 (by rw [← e]; exact List.mem_map.2 ⟨_, List.mem_of_getElem? h, rfl⟩)
    simp only [mput, hne, if_false, List.set_cons_succ]
    rw [mput_set v hn.2 h]
theorem mdel_erase {α : Type} {k : ByteArray} {x : α} : ∀ {l : List (ByteArray × α)} {i : Nat}, (l.map (·.1)).Nodup → l[i]? = some (k, x) → mdel k l = l.take i ++ l.drop (i + 1)
  | [], i, _, h => by simp at h
  | p :: l, 0, _, h => by
    simp at h; subst h
    simp [mdel]
  | p :: l, i + 1, hn, h => by
    simp at h
    simp only [List.map_cons, List.nodup_cons] at hn
    have hne : k ≠ p.1 := fun e => hn.1 (by rw [← e]; exact List.mem_map.2 ⟨_, List.mem_of_getElem? h, rfl⟩)
    simp only [mdel, hne, if_false, List.take_succ_cons, List.drop_succ_cons, List.cons_append]
    rw [mdel_erase hn.2 h]
def invR (k : ByteArray) (p : Int) (R : RL) : RL := match mlook k R with | some x => mput k { x with bar := max x.bar p } R | none => R
theorem srt_set {R : RL} {i : Nat} {k : ByteArray} {x v : Ls} (h : R.Pairwise ltB) (hi : R[i]? = some (k, x)) : (R.set i (k, v)).Pairwise ltB := by
  have e : (R.set i (k, v)).map (·.1) = R.map (·.1) := by
    rw [List.map_set]
    refine List.ext_getElem? fun j => ?_
    rw [List.getElem?_set]
    by_cases hj : i = j
    · subst hj
      have hlt : i < (R.map (·.1)).length := by rw [List.length_map]; exact (List.getElem?_eq_some_iff.1 hi).1
      simp only [if_true, hlt]
      rw [List.getElem?_map, hi]; rfl
    · simp [hj]
  have h1 : (R.map (·.1)).Pairwise fun a b => a.data.toList < b.data.toList := by rw [List.pairwise_map]; exact h
  rw [← e, List.pairwise_map] at h1
  exact h1

/- writing one cell of the row -/
theorem row_cell {w : World} {sv : Value} {R : RL} {g i : Nat} {k : ByteArray} {x : Ls} (v : Ls) (h : RowR w sv R) (hg : sv.ownBlock = some g) (hi : R[i]? = some (k, x)) :
    w.frozen? ⟨g, i * 4 + 3, none⟩ = false ∧ RowR (w.setCell ⟨g, i * 4 + 3, none⟩ (.int .i64 v.bar)) sv (R.set i (k, { x with bar := v.bar })) ∧
    RowR ((((w.setCell ⟨g, i * 4, none⟩ (.string k)).setCell ⟨g, i * 4 + 1, none⟩ (.int .i64 v.tok)).setCell ⟨g, i * 4 + 2, none⟩ (.int .i64 v.began)).setCell ⟨g, i * 4 + 3, none⟩ (.int .i64 v.bar)) sv (R.set i (k, v)) := by
  rcases h with ⟨rfl, rfl⟩ | ⟨g', cap, c, rfl, h1, h2, h3, h4⟩
  · simp at hi
  have e : g' = g := by simpa [Value.ownBlock] using hg
  subst e
  have hlt : i < R.length := (List.getElem?_eq_some_iff.1 hi).1
  refine ⟨free_of_block h2, .inr ⟨g', cap, c.setIfInBounds (i * 4 + 3) (.int .i64 v.bar), by rw [List.length_set], by rw [List.length_set]; exact h1, hp_setCell_same _ h2, by simpa using h3, ?_⟩, ?_⟩
  · rw [Array.toList_setIfInBounds, List.take_set, List.length_set, h4, rcells_set R i _ hlt]
    have hs : ∀ j (u : Value), j < 4 → (rcell (k, x))[j]? = some u → (rcells R).set (i * 4 + j) u = rcells R := by
      intro j u hj hu
      refine List.ext_getElem? fun m => ?_
      rw [List.getElem?_set]
      split
      · rename_i em
        subst em
        have := rcells_get R i (k, x) j hi hj
        rw [this, hu]
        have hl : i * 4 + j < (rcells R).length := by rw [rcells_length]; omega
        simp [hl]
      · rfl
    rw [show i * 4 = i * 4 + 0 from rfl, hs 0 _ (by omega) rfl, show i * 4 + 0 + 1 = i * 4 + 1 from rfl, hs 1 _ (by omega) rfl, show i * 4 + 0 + 2 = i * 4 + 2 from rfl, hs 2 _ (by omega) rfl]
  · have a1 := hp_setCell_same (i := i * 4) (.string k) h2
    have a2 := hp_setCell_same (i := i * 4 + 1) (.int .i64 v.tok) a1
    have a3 := hp_setCell_same (i := i * 4 + 2) (.int .i64 v.began) a2
    have a4 := hp_setCell_same (i := i * 4 + 3) (.int .i64 v.bar) a3
    refine .inr ⟨g', cap, _, by rw [List.length_set], by rw [List.length_set]; exact h1, a4, by simpa using h3, ?_⟩
    simp only [Array.toList_setIfInBounds, List.take_set, List.length_set]
    rw [h4, rcells_set R i _ hlt]

def RPost (B b : Nat) (sv : Value) (R' : RL) (n' : Int) (w w' : World) : Prop :=
  ∃ sv', RefT B w' b sv' R' n' ∧ Keep (rfoot b sv) w w' ∧ ∀ i, rfoot b sv' i → rfoot b sv i ∨ w.heap.size ≤ i
theorem bar_post {B : Nat} {w w' : World} {b : Nat} {sv : Value} {R : RL} {n : Int} {g i : Nat} {k : ByteArray} {x : Ls} (p : Int) (hT : RefT B w b sv R n) (hg : sv.ownBlock = some g) (hi : R[i]? = some (k, x))
    (hw : w'.heap = (w.setCell ⟨g, i * 4 + 3, none⟩ (.int .i64 (max x.bar p))).heap) (ho : w'.os = w.os) (ht : w'.tape = w.tape) (hu : w'.output = w.output) : RPost B b sv (invR k p R) n w w' := by
  have hlk : mlook k R = some x := look_of hT hi
  have e : invR k p R = R.set i (k, { x with bar := max x.bar p }) := by
    unfold invR; rw [hlk]; exact mput_set _ hT.keys hi
  have hr := (row_cell (v := { x with bar := max x.bar p }) hT.row hg hi).2.1
  have hK : Keep (rfoot b sv) w (w.setCell ⟨g, i * 4 + 3, none⟩ (.int .i64 (max x.bar p))) := (Keep.refl _ w).setCell _ _ fun _ => .inr hg
  have hK' : Keep (rfoot b sv) w w' := ⟨ho, ht, hu, by rw [hw]; exact hK.size, fun j hj hn => by rw [hw]; exact hK.block j hj hn⟩
  have hbg : b ≠ g := fun e => hT.ne (by rw [hg, e])
  rw [e]
  refine ⟨sv, ⟨?_, ?_, hT.low, hT.ne, srt_set hT.srt hi, ?_, hT.n0, hT.n1, by rw [List.length_set]; exact hT.len⟩, hK', fun i hi => .inl hi⟩
  · rw [hw]; exact hp_setCell_ne _ hT.hd hbg
  · exact hr.same fun j _ => by rw [hw]
  · intro q hq
    rcases List.mem_or_eq_of_mem_set hq with h | h
    · exact hT.times q h
    · rw [h]; exact hT.times (k, x) (List.mem_of_getElem? hi)
theorem rinval_calls (B : Nat) (k : ByteArray) (p : Int) (b : Nat) (sv : Value) (R : RL) (n : Int) (w : World) (hT : RefT B w b sv R n) :
    Calls Try.prog 16 #[.pointer (some ⟨b, 0, none⟩), .string k, .int .i64 p] w fun e w' => e = .returned (.tuple #[]) ∧ RPost B b sv (invR k p R) n w w' := by
  have HT := Lib.hid hT
  obtain ⟨ao, cap, hsv, hcap, _, hel⟩ := hT.row.form
  have hcb : w.cell? ⟨b, 0, none⟩ = some (.slice ao R.length cap) := by rw [← hsv]; exact cell_of_block hT.hd rfl
  have HEL := Lib.hid hel
  have hlen := hT.len
  clear hT hel hsv
  go_enter Try.func16, Try.ntmps16
  go_wp2_with fail
  refine (find_calls B k b _ R n w HT.out).mono ?_
  rintro e w' (⟨i, x, rfl, hi, rfl⟩ | ⟨rfl, hn, rfl⟩)
  · obtain ⟨g, rfl, hown, _, _, _, hc⟩ := HEL.out i _ hi
    have hlt : i < R.length := (List.getElem?_eq_some_iff.1 hi).1
    simp only at hc
    have hfz := (row_cell (v := x) HT.out.row hown hi).1
    have HP := Lib.hid (fun w' => bar_post (w' := w') p HT.out hown hi)
    clear hi hown
    go_wp2_with fail
    go_still_tail 17, (by kernel_rfl)
    change wpList _ _ _ _ _ w.drew
    have HP2 : Hid (∀ (q : World), q = w.drew → RPost B b sv (invR k p R) n w (q.setCell ⟨g, i * 4 + 3, none⟩ (.int .i64 (max x.bar p)))) := by
      rintro q rfl
      exact HP.out _ rfl rfl rfl rfl
    have hf2 : w.drew.frozen? ⟨g, i * 4 + 3, none⟩ = false := hfz
    have hc2 : w.drew.cell? ⟨g, i * 4 + 3, none⟩ = some (.int .i64 x.bar) := hc
    generalize hw2 : w.drew = w2 at *
    have HW2 := Lib.hid hw2.symm
    clear hw2
    go_wp2
    go_end0
    exact ⟨rfl, HP2.out _ rfl⟩
  · have HL := Lib.hid hn
    clear hn
    go_wp2
    go_end0
    refine ⟨rfl, ?_⟩
    have e : invR k p R = R := by unfold invR; rw [HL.out]
    rw [e]
    exact ⟨sv, HT.out, Keep.refl _ _, fun i hi => .inl hi⟩
end Go.Proofs.Ytgflkhifphpgpaa
