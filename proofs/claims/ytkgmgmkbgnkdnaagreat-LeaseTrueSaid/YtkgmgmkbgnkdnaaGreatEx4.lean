/- Walking by chunks: fields, words of 32 bits, bytes, conversions. No function of the program is named. -/
import Derived.Test.YtkgmgmkbgnkdnaaGreatEx3
import Derived.WalkKit
import Derived.Laws.BitsAllLaws

namespace Gw
open Go Go.RowKit
section
variable {P : Program} {env : Env} {d : Option Nat} {ty : TypeId} {pos : String} {af : Array Edge} {g : Option (Nat × Bool)}
section
variable {t : TypeId} {x : Operand} {b o f m off : Nat} {fs : Array Field} {fl : Field}
theorem p_fieldAddr1 (hu : P.underlying t = some (.struct fs)) (hf : fs[f]? = some fl) (ho : fl.offset = off) (hs : ∀ w : World, (Go.sizeOf fl.type).run P w = .ok (m + 1) w) (hx : ∀ a, ev a env x = .pointer (some ⟨b, o, none⟩)) :
    OpP P ⟨d, .fieldAddr t x f, ty, pos, af, g⟩ env [] (.pointer (some ⟨b, o + off, none⟩)) := by
  subst ho; exact p_fieldAddr hu hf hs hx rfl
theorem p_fieldAddr0 (hu : P.underlying t = some (.struct fs)) (hf : fs[f]? = some fl) (ho : fl.offset = off) (hs : ∀ w : World, (Go.sizeOf fl.type).run P w = .ok (m + 1) w) (hx : ∀ a, ev a env x = .pointer (some ⟨b, 0, none⟩)) :
    OpP P ⟨d, .fieldAddr t x f, ty, pos, af, g⟩ env [] (.pointer (some ⟨b, off, none⟩)) := by
  subst ho; exact p_fieldAddr hu hf hs hx (Nat.zero_add _)
end
/- naturals in other kinds -/
section
variable {t yt : TypeId} {x y : Operand} {m n : Nat}
end
/- words -/
section
variable {t yt : TypeId} {x y : Operand}
end
section
variable {s t : TypeId} {x : Operand} {ds : TypeDesc}
end
end
end Gw
