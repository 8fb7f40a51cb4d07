/- Contracts: journal.open. -/
import Derived.Test.YtddblcjcodejaaaDoorOp1
namespace Go.Proofs.YtddblcjcodejaaaDoor
open Go Go.RowKit Gw
set_option linter.unusedVariables false
set_option maxRecDepth 100000
attribute [local irreducible] Gw.At Gw.Nx Gw.Ops
def zero32 : List UInt8 := List.replicate 32 0
theorem has_sat {u w : World} {H : Hp} {b : Nat} {o : Obj} (h : Has b o H) (hs : Sat u H w) : w.heap[b]? = some o := hs.get _ h.mem

theorem open_spec (dp : Nat) (s : List UInt8) (pa : Addr) (Tx Tg : TypeId) (zx zg : Nat × Nat) (hs : s.length ≤ 4194304) : Does Tryd.prog 22 #[.pointer (some ⟨dp, 0, none⟩), .string (str s)] [[(4, .cells (kTab.map u32v).toArray Tg zg)], [(0, .cells #[.iface 155 (.pointer (some pa))] Tx zx)]]
      (fun r H' => (∃ rs h sz v sr jp, loadL s (s.length + 1) [] zero32 0 = some (rs, h, sz) ∧ h.length = 32 ∧ sz ≤ s.length ∧ rs.length ≤ sz ∧ Row 9 v (rs.map strV) sr ∧ r = .tuple #[.pointer (some ⟨jp, 0, none⟩), .int .i64 0] ∧ H' = [[(jp, .cells #[v, .string (str h), .int .i64 (sz : Int), .pointer (some ⟨dp, 0, none⟩), .bool false] 58 (0, 0))], sr, [(4, .cells (kTab.map u32v).toArray Tg zg)], [(0, .cells #[.iface 155 (.pointer (some pa))] Tx zx)]]) ∨
        (loadL s (s.length + 1) [] zero32 0 = none ∧ r = .tuple #[.pointer none, .int .i64 232] ∧ H' = [[(4, .cells (kTab.map u32v).toArray Tg zg)], [(0, .cells #[.iface 155 (.pointer (some pa))] Tx zx)]])) := by
  refine spec_enterM Tryd.func22 rfl Tryd.ntmps22 rfl ?_
  intro u R
  refine at_slots (env' := [(0, _), (1, _)]) [0, 1] rfl (fun _ => rfl) ?_
  refine at_seq ?_
  refine at_region ?_
  refine op_e (w_alloc Tryd.zeroValue29 (cs := #[_]) rfl) (fun _ => rfl) rfl rfl ?_
  rintro _ _ ⟨bj, rfl, rfl⟩
  refine op_e (w_alloc Tryd.zeroValue25 (cs := #[_]) rfl) (fun _ => rfl) rfl rfl ?_
  rintro _ _ ⟨be, rfl, rfl⟩
  refine ops_nil ?_
  refine nx_slots (env' := [(0, _), (1, _), (4, _), (5, _)]) [0, 1, 4, 5] rfl (fun _ => rfl) ?_
  refine nx_next ?_
  refine at_seq ?_
  refine at_region ?_
  refine op_w (p_makeFunc (vs := []) (us := [_, _]) (fun _ => rfl) (fun _ => rfl)) rfl rfl ?_
  refine ops_defer rfl (fun _ => rfl) ?_
  refine ops_nil ?_
  refine nx_slots (env' := [(0, _), (1, _), (4, _), (5, _)]) [0, 1, 4, 5] rfl (fun _ => rfl) ?_
  refine nx_next ?_
  refine at_seq ?_
  refine at_region ?_
  refine op_w (p_move (fun _ => rfl)) rfl rfl ?_
  refine op_e (w_makeSlice (by_ := 1) (l := 32) (c := 32) Tryd.underlying38 (rfl : Tryd.prog.info? 5 = some Tryd.t5) rfl rfl rfl rfl (fun _ => rfl) (fun _ => rfl) ?_ ?_ ?_) (fun _ => rfl) rfl rfl ?_
  (focus (decide))
  (focus (decide))
  (focus (decide))
  rintro _ _ ⟨b3, rfl, rfl⟩
  refine op_r (by repeat (first | exact Has.here _ | apply Has.there)) (p_conv_bytes_str Tryd.underlying38 Tryd.underlying5 Tryd.underlying9 (fun _ => rfl) (by exact (show (_ = List.map u8v zero32) ∧ zero32.length = _ from ⟨rfl, rfl⟩))) rfl rfl ?_
  refine op_w (p_build (vs := [(1, _)]) (cs := #[_, _, _]) (fun _ => rfl) (run_build_struct (pl := #[(0, 1), (1, 1), (2, 1)]) Tryd.zeroValue56 Tryd.underlying56 (fun _ => by kernel_rfl) rfl)) rfl rfl ?_
  refine op_w (p_build (vs := [(1, _), (0, _)]) (cs := #[_, _, _, _, _]) (fun _ => rfl) (run_build_struct (pl := #[(0, 3), (3, 1), (4, 1)]) Tryd.zeroValue58 Tryd.underlying58 (fun _ => by kernel_rfl) rfl)) rfl rfl ?_
  refine op_e (w_box (fun _ => rfl) (cs := #[_, _, _, _, _]) rfl) (fun _ => rfl) rfl rfl ?_
  rintro _ _ ⟨jp, rfl, rfl⟩
  refine op_e (w_store Tryd.sizeOf29 (fun _ => rfl) (fun _ => rfl) rfl (by repeat (first | exact Upd.here _ | apply Upd.there)) (by rfl) (by first | decide | exact Nat.le_refl _ | (simp; done) | (simp; omega)) (by exact free_zero _)) (fun _ => rfl) rfl rfl ?_
  rintro _ _ ⟨rfl, rfl⟩
  refine ops_nil ?_
  refine nx_slots (env' := [(1, _), (4, _), (5, _)]) [1, 4, 5] rfl (fun _ => rfl) ?_
  refine nx_next ?_
  refine at_seq ?_
  refine at_nil ?_
  refine at_region ?_
  refine op_r (by repeat (first | exact Has.here _ | apply Has.there)) (p_load Tryd.isAgg29 (fun _ => rfl) (by rfl)) rfl rfl ?_
  first | refine op_w (p_nilCheck (fun _ => rfl)) rfl rfl ?_ | refine op_w (p_nilCheck_iface (fun _ => rfl)) rfl rfl ?_
  first | refine op_w (p_fieldAddr0 (off := 0) Tryd.underlying58 rfl rfl Tryd.sizeOf56 (fun _ => rfl)) rfl rfl ?_ | refine op_w (p_fieldAddr1 (off := 0) Tryd.underlying58 rfl rfl Tryd.sizeOf56 (fun _ => rfl)) rfl rfl ?_
  refine op_w (p_move (fun _ => rfl)) rfl rfl ?_
  refine ops_effP (fun _ => rfl) (fits_of rfl) rfl (w_call (vs := [_, _]) (fun _ => rfl) Tryd.call40 (fun _ => rfl) rfl (load_spec jp 0 _ _ false [] [] zero32 s _ _ _ _ _ _ _ (row_nil _) rfl hs (Nat.zero_le _) (Nat.zero_le _)) (by repeat (first | exact Pull.nil _ | (apply Pull.cons; (focus (repeat (first | exact One.here _ _ | apply One.there))))))) ?_ ?hpan_1
  case hpan_1 =>
    rintro _ _ ⟨_, ⟨hl, rfl, rfl⟩, rfl⟩
    refine nx_thru (by intro h; cases h) ?_
    refine nx_panicD (m' := .panicking [{ v := .iface 155 (.pointer (some pa)), recovered := true }]) rfl Tryd.call38 (openD_panic bj be _ _ pa _ _ _ _) (by repeat (first | exact Pull.nil _ | (apply Pull.cons; (focus (repeat (first | exact One.here _ _ | apply One.there)))))) ?_
    rintro _ rfl
    refine ⟨_, [[(4, .cells (kTab.map u32v).toArray Tg zg)], [(0, .cells #[.iface 155 (.pointer (some pa))] Tx zx)]], fun a w hsz hf hs => results_cell2 Tryd.results22 ((puts_look a _ (by rw [hsz]; exact hf) 4).trans rfl) (loadVar_one Tryd.isAgg29 (v := .pointer none) (i := 0) rfl w (has_sat (b := bj) (by repeat (first | exact Has.here _ | apply Has.there)) hs)) ((puts_look a _ (by rw [hsz]; exact hf) 5).trans rfl) (loadVar_one Tryd.isAgg25 (v := .int .i64 232) (i := 0) rfl w (has_sat (b := be) (by repeat (first | exact Has.here _ | apply Has.there)) hs)), .inr ⟨hl, rfl, rfl⟩, Sub.amid (by repeat (first | exact Sub.refl _ | exact Sub.nil _ | refine Sub.cons (by repeat (first | exact One.here _ _ | apply One.there)) ?_ | refine Sub.drop _ ?_))⟩
  rintro _ _ ⟨_, ⟨rs, h, sz, v, sr, hl, hh, hz, hn, hrow, rfl, rfl⟩, rfl⟩
  refine ops_nil ?_
  refine nx_slots (env' := [(4, _), (5, _)]) [4, 5] rfl (fun _ => rfl) ?_
  refine nx_next ?_
  refine at_seq ?_
  refine at_region ?_
  refine op_r (by repeat (first | exact Has.here _ | apply Has.there)) (p_load Tryd.isAgg29 (fun _ => rfl) (by rfl)) rfl rfl ?_
  refine op_e (w_store Tryd.sizeOf29 (fun _ => rfl) (fun _ => rfl) rfl (by repeat (first | exact Upd.here _ | apply Upd.there)) (by rfl) (by first | decide | exact Nat.le_refl _ | (simp; done) | (simp; omega)) (by exact free_zero _)) (fun _ => rfl) rfl rfl ?_
  rintro _ _ ⟨rfl, rfl⟩
  refine op_e (w_store Tryd.sizeOf25 (fun _ => rfl) (fun _ => rfl) rfl (by repeat (first | exact Upd.here _ | apply Upd.there)) (by rfl) (by first | decide | exact Nat.le_refl _ | (simp; done) | (simp; omega)) (by exact free_zero _)) (fun _ => rfl) rfl rfl ?_
  rintro _ _ ⟨rfl, rfl⟩
  refine ops_nil ?_
  refine nx_slots (env' := [(4, _), (5, _)]) [4, 5] rfl (fun _ => rfl) ?_
  refine nx_next ?_
  refine at_ret ?_
  refine nx_endD rfl rfl Tryd.call38 (openD_ret _ _) (by repeat (first | exact Pull.nil _ | (apply Pull.cons; (focus (repeat (first | exact One.here _ _ | apply One.there)))))) ?_
  rintro _ rfl
  refine ⟨_, [[(jp, .cells #[v, .string (str h), .int .i64 (sz : Int), .pointer (some ⟨dp, 0, none⟩), .bool false] 58 (0, 0))], sr, [(4, .cells (kTab.map u32v).toArray Tg zg)], [(0, .cells #[.iface 155 (.pointer (some pa))] Tx zx)]], fun a w hf hs => results_cell2 Tryd.results22 ((puts_look a _ (hf) 4).trans rfl) (loadVar_one Tryd.isAgg29 (v := .pointer (some ⟨jp, 0, none⟩)) (i := 0) rfl w (has_sat (b := bj) (by repeat (first | exact Has.here _ | apply Has.there)) hs)) ((puts_look a _ (hf) 5).trans rfl) (loadVar_one Tryd.isAgg25 (v := .int .i64 0) (i := 0) rfl w (has_sat (b := be) (by repeat (first | exact Has.here _ | apply Has.there)) hs)), .inl ⟨rs, h, sz, v, sr, jp, hl, hh, hz, hn, hrow, rfl, rfl⟩, Sub.amid (by repeat (first | exact Sub.refl _ | exact Sub.nil _ | refine Sub.cons (by repeat (first | exact One.here _ _ | apply One.there)) ?_ | refine Sub.drop _ ?_))⟩

end Go.Proofs.YtddblcjcodejaaaDoor
