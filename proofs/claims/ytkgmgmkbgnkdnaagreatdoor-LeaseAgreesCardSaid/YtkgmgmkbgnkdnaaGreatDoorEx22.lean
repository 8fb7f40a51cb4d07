/- Walking by chunks: rows and lists of six numbers compared. No function of the program is named. -/
import Derived.Test.YtkgmgmkbgnkdnaaGreatDoorEz
import Derived.Test.YtkgmgmkbgnkdnaaGreatDoorEx21
import Derived.Test.YtkgmgmkbgnkdnaaGreatDoorEx5

namespace Gw
open Go Go.RowKit
section
variable {P : Program} {u : World} {env : Env} {H R : Hp} {d : Option Nat} {ty : TypeId} {pos : String} {af : Array Edge} {g : Option (Nat × Bool)}
def RowEq (t1 t2 k1 k2 : Int) (x y : V3) : Prop := t1 = t2 ∧ k1 = k2 ∧ x = y
instance (t1 t2 k1 k2 : Int) (x y : V3) : Decidable (RowEq t1 t2 k1 k2 x y) := inferInstanceAs (Decidable (_ ∧ _ ∧ _))
section
variable {t yt e ta : TypeId} {f0 f1 f2 : Field} {x y : Operand} {t1 t2 k1 k2 : Int} {p q : V3}
end
end
theorem does_re {P : Program} {f : FuncId} {args : Array Value} {H H1 : Hp} {Q Q1 : Value → Hp → Prop} (h : Does P f args H Q) (hf : H1.flatten = H.flatten) (hq : ∀ v H', Q v H' → ∃ H2, Q1 v H2 ∧ H2.flatten.Perm H'.flatten) : Does P f args H1 Q1 := fun u R w hs =>
  Calls.mono (h u R w (hs.sub ⟨[], by simp [hf]⟩)) fun e w' he => by
    rcases he with ⟨v, H', rfl, h1, h2⟩ | ⟨ch, H', rfl, h1, h2⟩
    · obtain ⟨H2, h3, h4⟩ := hq v H' h1
      refine .inl ⟨v, H2, rfl, h3, h2.perm ?_⟩
      rw [List.flatten_append, List.flatten_append]
      exact h4.symm.append_right _
    · exact h1.elim
end Gw
