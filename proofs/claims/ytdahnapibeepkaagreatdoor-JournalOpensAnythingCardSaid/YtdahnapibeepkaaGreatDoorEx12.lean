/- Walking by chunks: a cut (what comes behind is proved once), a segment cut in two. No function of the program is named. -/
import Derived.Test.YtdahnapibeepkaaGreatDoorEx11
namespace Gw
open Go Go.RowKit
section
variable {P : Program} {cx : Cx} {x y : Code} {Q : Exit → Act → World → Prop} {env : Env} {H : Hp}
/-- A cut, of the slots and segments that x turns: B and R stay. -/
theorem at_cutB {e0 B : Env} {H0 R : Hp} (I : Env → Hp → Prop) (hp : Pull H0 H R) (hx : At P cx x (Exit.then (fun a w => ∃ e H1 a0, I e H1 ∧ St cx (e ++ B) (H1 ++ R) a0 w ∧ a = puts (e ++ B) a0) Q) (e0 ++ B) (H0 ++ R)) (hy : ∀ e H1, I e H1 → At P cx y Q (e ++ B) (H1 ++ R)) : At P cx (.seq x y) Q (e0 ++ B) H := fun a w hs => by
  have hs' : St cx (e0 ++ B) (H0 ++ R) a w := ⟨hs.size, hs.defers, hs.fit, hs.sat.perm hp.perm⟩
  refine wpIn_seq (wpIn_mono (hx a w hs') fun e a' w' he => ?_)
  cases e <;> first | exact he | (obtain ⟨e', H', a0, hm, hs2, rfl⟩ := he; exact hy e' H' hm a0 w' hs2)
theorem nx_cutB {I : Env → Hp → Prop} {B e' : Env} {R H' : Hp} (h : I e' H') (hp : Sub (H' ++ R) H) : Nx cx ((Exit.then (fun a w => ∃ e H1 a0, I e H1 ∧ St cx (e ++ B) (H1 ++ R) a0 w ∧ a = puts (e ++ B) a0) Q) .normal) (e' ++ B) H := fun a _ hs => ⟨e', H', a, h, ⟨hs.size, hs.defers, hs.fit, hs.sat.sub hp.amid⟩, rfl⟩
end
/-- Segment c :: s of H is cut in two. -/
inductive Cut1 (c : Chunk) (s : List Chunk) : Hp → Hp → Prop
  | here (H : Hp) : Cut1 c s ((c :: s) :: H) ([c] :: s :: H)
  | there {H H' : Hp} (t : List Chunk) (h : Cut1 c s H H') : Cut1 c s (t :: H) (t :: H')
theorem Cut1.flat {c : Chunk} {s : List Chunk} {H H' : Hp} (h : Cut1 c s H H') : H.flatten = H'.flatten := by
  induction h with
  | here H => simp
  | there t h ih => simp only [List.flatten_cons, ih]
theorem at_cut1 {P : Program} {cx : Cx} {cd : Code} {Q : Exit → Act → World → Prop} {env : Env} {c : Chunk} {s : List Chunk} {H H' : Hp} (h : Cut1 c s H H') (k : At P cx cd Q env H') : At P cx cd Q env H := at_flat h.flat k
end Gw
