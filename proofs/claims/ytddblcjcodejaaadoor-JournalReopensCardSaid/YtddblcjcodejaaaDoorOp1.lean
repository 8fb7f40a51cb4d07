/- Contracts: journal.open. -/
import Derived.Test.YtddblcjcodejaaaDoorEr1
import Derived.Test.YtddblcjcodejaaaDoorAp3
import Derived.Test.YtddblcjcodejaaaDoorEx10
namespace Go.Proofs.YtddblcjcodejaaaDoor
open Go Go.RowKit Gw
set_option linter.unusedVariables false
set_option maxRecDepth 100000
attribute [local irreducible] Gw.At Gw.Nx Gw.Ops
theorem p_typeAssert {P : Program} {env : Env} {d : Option Nat} {ty : TypeId} {pos : String} {af : Array Edge} {g : Option (Nat × Bool)} {x : Operand} {xT at_ : TypeId} {ok : Bool} {v r : Value} (hx : ∀ a, ev a env x = v) (hr : ∀ w : World, (Instr.typeAssert v xT at_ ok).run P w = .ok r w) : OpP P ⟨d, .typeAssert x xT at_ ok, ty, pos, af, g⟩ env [] r := fun a w _ => by
  simp [execOp, hx a, hr w]
theorem isErr (v : Value) (w : World) : (Instr.typeAssert (.iface 155 v) 20 69 true).run Tryd.prog w = .ok (.tuple #[.iface 155 v, .bool true]) w := Go.run_typeAssert_hasB Tryd.underlying69 (by kernel_rfl) v 20 w
theorem isNil (w : World) : (Instr.typeAssert .nilIface 20 69 true).run Tryd.prog w = .ok (.tuple #[.nilIface, .bool false]) w := by kernel_rfl

theorem openD_ret (pj pe : Value) : DoesD Tryd.prog 38 #[pj, pe] .returning .returning [] (fun H' => H' = []) := by
  refine specD_enter (env1 := [(3, .bool false), (2, .nilIface), (8, .bool false), (7, .nilIface), (4, .tuple #[.nilIface, .bool false]), (6, .tuple #[.nilIface, .bool false]), (5, .nilIface), (0, pj), (1, pe)]) Tryd.func38 rfl Tryd.ntmps38 rfl Tryd.results38 ?hrec_1 ?hwalk_1
  case hrec_1 =>
    intro u R c cs Q hm hk
    show OpsS _ _ [0, 1, 2, 3, 4, 5, 6] _ _ _ _ _
    have hcm : ({ c with mode := .returning } : Frame) = c := by cases c; simp only at hm; subst hm; rfl
    rw [hcm] at hk
    refine opsS_norec rfl (by simp [recoverD, hm]) rfl ?_
    refine opsS_w rfl (p_typeAssert (fun _ => rfl) isNil) rfl ?_
    refine opsS_w rfl (p_move (fun _ => rfl)) rfl ?_
    refine opsS_w rfl (p_extract (fun _ => rfl) rfl) rfl ?_
    refine opsS_w rfl (p_extract (fun _ => rfl) rfl) rfl ?_
    refine opsS_w rfl (p_assign (fun _ => rfl)) rfl ?_
    refine opsS_w rfl (p_assign (fun _ => rfl)) rfl ?_
    intro a w hs
    exact hk a w hs
  case hwalk_1 =>
    intro u R
    refine at_slots (env' := [(0, _), (1, _), (2, _), (3, _)]) [0, 1, 2, 3] rfl (fun _ => rfl) ?_
    refine at_seq ?_
    refine at_region ?_
    refine op_w (p_move (fun _ => rfl)) rfl rfl ?_
    refine op_w (p_move (fun _ => rfl)) rfl rfl ?_
    refine ops_split_bool (t := 10) (fun _ => rfl) rfl (fun hb => ?_) (fun hb => ?_)
    ·
      cases hb
    ·
      refine op_skip (fun _ => rfl) rfl ?_
      refine op_skip (fun _ => rfl) rfl ?_
      refine op_skip (fun _ => rfl) rfl ?_
      refine op_w (p_pick_f (fun _ => rfl) (fun _ => rfl)) rfl rfl ?_
      refine ops_nil ?_
      refine nx_slots (env' := [(0, _), (1, _), (14, _)]) [0, 1, 14] rfl (fun _ => rfl) ?_
      refine nx_next ?_
      refine at_else (fun _ => rfl) ?_
      refine at_skip ?_
      refine nx_end0 (H' := _) rfl Tryd.results38 (by rfl) ?hp_2
      case hp_2 => repeat (first | exact Sub.refl _ | exact Sub.nil _ | refine Sub.cons (by repeat (first | exact One.here _ _ | apply One.there)) ?_ | refine Sub.drop _ ?_)

theorem openD_panic (bj be : Nat) (vj ve : Value) (pa : Addr) (Tj Te Tx : TypeId) (zx : Nat × Nat) : DoesD Tryd.prog 38 #[.pointer (some ⟨bj, 0, none⟩), .pointer (some ⟨be, 0, none⟩)] (.panicking [{ v := .iface 155 (.pointer (some pa)), recovered := false }]) (.panicking [{ v := .iface 155 (.pointer (some pa)), recovered := true }]) [[(bj, .cells #[vj] Tj (0, 0))], [(be, .cells #[ve] Te (0, 0))], [(0, .cells #[.iface 155 (.pointer (some pa))] Tx zx)]] (fun H' => H' = [[(bj, .cells #[.pointer none] Tj (0, 0))], [(be, .cells #[.int .i64 232] Te (0, 0))], [(0, .cells #[.iface 155 (.pointer (some pa))] Tx zx)]]) := by
  refine specD_enter (env1 := [(3, .bool true), (2, .iface 155 (.pointer (some pa))), (8, .bool true), (7, .iface 155 (.pointer (some pa))), (4, .tuple #[.iface 155 (.pointer (some pa)), .bool true]), (6, .tuple #[.iface 155 (.pointer (some pa)), .bool true]), (5, .iface 155 (.pointer (some pa))), (0, .pointer (some ⟨bj, 0, none⟩)), (1, .pointer (some ⟨be, 0, none⟩))]) Tryd.func38 rfl Tryd.ntmps38 rfl Tryd.results38 ?hrec_1 ?hwalk_1
  case hrec_1 =>
    intro u R c cs Q hm hk
    show OpsS _ _ [0, 1, 2, 3, 4, 5, 6] _ _ _ _ _
    refine opsS_rec (v := .iface 155 (.pointer (some pa))) (cs' := { c with mode := .panicking [{ v := .iface 155 (.pointer (some pa)), recovered := true }] } :: cs) rfl (by simp [recoverD, hm]) rfl ?_
    refine opsS_w rfl (p_typeAssert (fun _ => rfl) (isErr _)) rfl ?_
    refine opsS_w rfl (p_move (fun _ => rfl)) rfl ?_
    refine opsS_w rfl (p_extract (fun _ => rfl) rfl) rfl ?_
    refine opsS_w rfl (p_extract (fun _ => rfl) rfl) rfl ?_
    refine opsS_w rfl (p_assign (fun _ => rfl)) rfl ?_
    refine opsS_w rfl (p_assign (fun _ => rfl)) rfl ?_
    intro a w hs
    exact hk a w hs
  case hwalk_1 =>
    intro u R
    refine at_slots (env' := [(0, _), (1, _), (2, _), (3, _)]) [0, 1, 2, 3] rfl (fun _ => rfl) ?_
    refine at_seq ?_
    refine at_region ?_
    refine op_w (p_move (fun _ => rfl)) rfl rfl ?_
    refine op_w (p_move (fun _ => rfl)) rfl rfl ?_
    refine ops_split_bool (t := 10) (fun _ => rfl) rfl (fun hb => ?_) (fun hb => ?_)
    ·
      refine op_wg (fun _ => rfl) (p_move (fun _ => rfl)) rfl rfl ?_
      refine op_rg (fun _ => rfl) (by repeat (first | exact Has.here _ | apply Has.there)) (p_load Tryd.isAgg69 (fun _ => rfl) (by rfl)) rfl rfl ?_
      refine op_e (w_callR (vs := [_, _]) (fun _ => rfl) Tryd.call39 (fun _ => rfl) rfl (is_spec pa) (by repeat (first | exact Pull.nil _ | (apply Pull.cons; (focus (repeat (first | exact One.here _ _ | apply One.there))))))) (fun _ => rfl) rfl rfl ?_
      rintro _ _ ⟨rfl, rfl⟩
      refine op_w (p_pick_t (fun _ => rfl) (fun _ => rfl)) rfl rfl ?_
      refine ops_nil ?_
      refine nx_slots (env' := [(0, _), (1, _), (14, _)]) [0, 1, 14] rfl (fun _ => rfl) ?_
      refine nx_next ?_
      refine at_if_bool (fun _ => rfl) (fun hb2 => ?_) (fun hb2 => ?_)
      ·
        refine at_region ?_
        refine op_e (w_store Tryd.sizeOf29 (fun _ => rfl) (fun _ => rfl) rfl (by repeat (first | exact Upd.here _ | apply Upd.there)) (by rfl) (by first | decide | exact Nat.le_refl _ | (simp; done) | (simp; omega)) (by exact free_zero _)) (fun _ => rfl) rfl rfl ?_
        rintro _ _ ⟨rfl, rfl⟩
        refine op_e (w_store Tryd.sizeOf25 (fun _ => rfl) (fun _ => rfl) rfl (by repeat (first | exact Upd.here _ | apply Upd.there)) (by rfl) (by first | decide | exact Nat.le_refl _ | (simp; done) | (simp; omega)) (by exact free_zero _)) (fun _ => rfl) rfl rfl ?_
        rintro _ _ ⟨rfl, rfl⟩
        refine ops_nil ?_
        refine nx_slots (env' := []) [] rfl (fun _ => rfl) ?_
        refine nx_end0 (H' := _) rfl Tryd.results38 (by rfl) ?hp_2
        case hp_2 => repeat (first | exact Sub.refl _ | exact Sub.nil _ | refine Sub.cons (by repeat (first | exact One.here _ _ | apply One.there)) ?_ | refine Sub.drop _ ?_)
      ·
        cases hb2
    ·
      cases hb

end Go.Proofs.YtddblcjcodejaaaDoor
