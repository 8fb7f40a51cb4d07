/- Walking by chunks: a cut (what comes behind is proved once), a segment cut in two. No function of the program is named. -/
import Derived.Test.YtdahnapibeepkaaGreatDoorEx11
namespace Gw
open Go Go.RowKit
section
variable {P : Program} {cx : Cx} {x y : Code} {Q : Exit → Act → World → Prop} {env : Env} {H : Hp}
end
/-- Segment c :: s of H is cut in two. -/
inductive Cut1 (c : Chunk) (s : List Chunk) : Hp → Hp → Prop
  | here (H : Hp) : Cut1 c s ((c :: s) :: H) ([c] :: s :: H)
  | there {H H' : Hp} (t : List Chunk) (h : Cut1 c s H H') : Cut1 c s (t :: H) (t :: H')
theorem Cut1.flat {c : Chunk} {s : List Chunk} {H H' : Hp} (h : Cut1 c s H H') : H.flatten = H'.flatten := by
  induction h with
  | here H => simp
  | there t h ih => simp only [List.flatten_cons, ih]
end Gw
