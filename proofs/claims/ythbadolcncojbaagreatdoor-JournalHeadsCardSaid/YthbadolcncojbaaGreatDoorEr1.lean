/- errors.Is(x, x), x a pointer to an errors.errorString. -/
import Derived.Test.YthbadolcncojbaaGreatDoorEz
import Derived.Test.YthbadolcncojbaaGreatDoorJn3
import Derived.WalkKit
import Derived.LaidEql
import Derived.Stop.Asserts
import Derived.RowKitTokens

namespace Go.Proofs.YthbadolcncojbaaGreatDoor
open Go.Proofs.Tryz
open Go Go.RowKit Gw
set_option linter.unusedVariables false
set_option linter.unusedSimpArgs false
set_option maxRecDepth 100000
attribute [local irreducible] Gw.At Gw.Nx Gw.Ops
open Go.Extern.Stop Go.Stop Go.Extern
def cmpE (t : TypeId) : Sem Value := do Extern.Rtype.noPackHeld "Comparable" t; pure (.bool (← typeInfo t).comparable)
theorem isTypeOf (v : Value) (w : World) : (Extern.ReflectliteType.typeOf #[.iface 299 v]).run Tryz.prog w = .ok (.iface 241 (.agg #[.pointer (some ⟨5, 299, none⟩)])) w := by kernel_rfl
theorem isComparable (w : World) : ((Extern.ReflectliteType.method cmpE) #[.agg #[.pointer (some ⟨5, 299, none⟩)]]).run Tryz.prog w = .ok (.bool true) w := by kernel_rfl
theorem isMethodComparable (v : Value) (w : World) : (Go.method 432 241 v "Comparable").run Tryz.prog w = .ok (229, v) w := by kernel_rfl
theorem isComp : (Tryz.prog.info? 299).map (·.comparable) = some true := by kernel_rfl
theorem isSize : (Tryz.prog.info? 321).map (·.size) = some 1 := by kernel_rfl
set_option maxHeartbeats 1000000 in
theorem is_same (a : Addr) (w : World) :
    Calls Tryz.prog 91 #[.iface 299 (.pointer (some a)), .iface 299 (.pointer (some a))] w fun e w' => e = .returned (.bool true) ∧ w' = w := by
  obtain ⟨i, hi, hcmp⟩ := Option.map_eq_some_iff.1 isComp
  obtain ⟨j, hj, hjs⟩ := Option.map_eq_some_iff.1 isSize
  have h8 := @run_callFunc_extern Tryz.prog 136 _ Extern.ReflectliteType.typeOf func136 (by kernel_rfl) (by kernel_rfl) (by kernel_rfl) (by kernel_rfl)
  have h32 := @run_callFunc_extern Tryz.prog 229 _ (Extern.ReflectliteType.method cmpE) func229 (by kernel_rfl) (by kernel_rfl) (by kernel_rfl) (by kernel_rfl)
  have tT := isTypeOf
  have cT := isComparable
  have mR := isMethodComparable
  have heq := run_eql_iface_ptr_same (P := Tryz.prog) w a underlying125 underlying299 hi hcmp hj
  go_enter func91, ntmps91
  go_wp2
  refine wp_loop_rounds 1 ?_
  rw [rounds_succ]
  go_wp2
  go_ret
  exact ⟨rfl, rfl⟩
theorem is_spec (a : Addr) : DoesR Tryz.prog 91 #[.iface 299 (.pointer (some a)), .iface 299 (.pointer (some a))] [] (.bool true) :=
  spec_below (Rl := fun v => v = .bool true) (fun w _ => (is_same a w).mono (by rintro e w' ⟨rfl, rfl⟩; exact ⟨_, rfl, rfl, Below.refl _ _⟩)) (fun v hv => ⟨hv, rfl⟩)

end Go.Proofs.YthbadolcncojbaaGreatDoor
