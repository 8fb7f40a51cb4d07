/- Walking by chunks: a range over a function; the end of a function that holds one. No function of the program is named. -/
import Derived.Test.YtkgmgmkbgnkdnaaGreatEx5
import Derived.RangeFuncLeaves
import Derived.RangeFuncRecord

namespace Gw
open Go Go.RowKit

section
variable {P : Program} {u : World} {env : Env} {H R : Hp} {d : Option Nat} {ty : TypeId} {pos : String} {af : Array Edge} {g : Option (Nat × Bool)}
end
theorem Sat.turn {u w : World} {b : Nat} {o o' : Obj} {H : Hp} (h : Sat u ([(b, o)] :: H) w) : Sat u ([(b, o')] :: H) (w.putObj b o') := by
  have hb : b < w.heap.size := h.lt (p := (b, o)) (by simp)
  refine h.upd (.here _) rfl rfl rfl (World.putObj_heap_same hb) fun k hk => World.putObj_heap_other hk
/- the end of a function that holds ranges over functions -/
section
variable {P : Program} {N : Nat} {u : World} {fn : Func} {R H H' : Hp} {Q : Value → Hp → Prop} {Pn : List PanicEntry → Hp → Prop} {env : Env} {e : Exit}
end
end Gw
