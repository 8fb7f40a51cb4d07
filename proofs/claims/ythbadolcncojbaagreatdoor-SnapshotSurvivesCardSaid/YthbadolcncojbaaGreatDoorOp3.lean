/- Contracts: journal.open. Contracts: journal.open. Contracts: strings.Trim at a zero byte, journal.Open where the tail is zeros or the disk is damaged. -/
import Derived.Test.YthbadolcncojbaaGreatDoorEr1
import Derived.Test.YthbadolcncojbaaGreatDoorAp3
import Derived.Test.YthbadolcncojbaaGreatDoorEx10

namespace Go.Proofs.YthbadolcncojbaaGreatDoor
open Go Go.RowKit Gw
set_option linter.unusedVariables false
set_option maxRecDepth 100000
attribute [local irreducible] Gw.At Gw.Nx Gw.Ops
theorem p_typeAssert {P : Program} {env : Env} {d : Option Nat} {ty : TypeId} {pos : String} {af : Array Edge} {g : Option (Nat × Bool)} {x : Operand} {xT at_ : TypeId} {ok : Bool} {v r : Value} (hx : ∀ a, ev a env x = v) (hr : ∀ w : World, (Instr.typeAssert v xT at_ ok).run P w = .ok r w) : OpP P ⟨d, .typeAssert x xT at_ ok, ty, pos, af, g⟩ env [] r := fun a w _ => by
  simp [execOp, hx a, hr w]
theorem isErr (v : Value) (w : World) : (Instr.typeAssert (.iface 299 v) 20 125 true).run Tryz.prog w = .ok (.tuple #[.iface 299 v, .bool true]) w := Go.run_typeAssert_hasB Tryz.underlying125 (by kernel_rfl) v 20 w
theorem isNil (w : World) : (Instr.typeAssert .nilIface 20 125 true).run Tryz.prog w = .ok (.tuple #[.nilIface, .bool false]) w := by kernel_rfl

theorem openD_ret (pj pe : Value) : DoesD Tryz.prog 90 #[pj, pe] .returning .returning [] (fun H' => H' = []) := by
 refine specD_enter (env1 := [(3, .bool false), (2, .nilIface), (8, .bool false), (7, .nilIface), (4, .tuple #[.nilIface, .bool false]), (6, .tuple #[.nilIface, .bool false]), (5, .nilIface), (0, pj), (1, pe)]) Tryz.func90 rfl Tryz.ntmps90 rfl Tryz.results90 ?hrec_1 ?hwalk_1
 case hrec_1 =>
  intro u R c cs Q hm hk
  show OpsS _ _ [0, 1, 2, 3, 4, 5, 6] _ _ _ _ _
  have hcm : ({ c with mode := .returning } : Frame) = c := by cases c; simp only at hm; subst hm; rfl
  rw [hcm] at hk
  refine opsS_norec rfl (by simp [recoverD, hm]) rfl ?_
  refine opsS_w rfl (p_typeAssert (fun _=>rfl) isNil) rfl ?_
  refine opsS_w rfl (p_move (fun _=>rfl)) rfl ?_
  refine opsS_w rfl (p_extract (fun _=>rfl) rfl) rfl ?_
  refine opsS_w rfl (p_extract (fun _=>rfl) rfl) rfl ?_
  refine opsS_w rfl (p_assign (fun _=>rfl)) rfl ?_
  refine opsS_w rfl (p_assign (fun _=>rfl)) rfl ?_
  intro a w hs
  exact hk a w hs
 case hwalk_1 =>
  intro u R
  refine at_slots (env' := [(0, _), (1, _), (2, _), (3, _)]) [0, 1, 2, 3] rfl (fun _=>rfl) ?_
  refine at_seq ?_
  refine at_region ?_
  refine op_v (p_move (fun _=>rfl)) ?_
  refine op_v (p_move (fun _=>rfl)) ?_
  refine ops_split_bool (t := 10) (fun _=>rfl) rfl (fun hb => ?_) (fun hb => ?_)
  ·
   cases hb
  ·
   refine op_skip (fun _=>rfl) rfl ?_
   refine op_skip (fun _=>rfl) rfl ?_
   refine op_skip (fun _=>rfl) rfl ?_
   refine op_v (p_pick_f (fun _=>rfl) (fun _=>rfl)) ?_
   refine ops_nil ?_
   refine nx_next ?_
   refine at_else (fun _=>rfl) ?_
   refine at_skip ?_
   refine nx_end0 (H' := _) rfl Tryz.results90 (by rfl)

theorem openD_panic (bj be : Nat) (vj ve : Value) (pa : Addr) (Tj Te Tx : TypeId) (zx : Nat × Nat) : DoesD Tryz.prog 90 #[.pointer (some ⟨bj, 0, none⟩), .pointer (some ⟨be, 0, none⟩)] (.panicking [{ v := .iface 299 (.pointer (some pa)), recovered := false }]) (.panicking [{ v := .iface 299 (.pointer (some pa)), recovered := true }]) [[(bj, .cells #[vj] Tj (0, 0))], [(be, .cells #[ve] Te (0, 0))], [(0, .cells #[.iface 299 (.pointer (some pa))] Tx zx)]] (fun H' => H' = [[(bj, .cells #[.pointer none] Tj (0, 0))], [(be, .cells #[.int .i64 232] Te (0, 0))], [(0, .cells #[.iface 299 (.pointer (some pa))] Tx zx)]]) := by
 refine specD_enter (env1 := [(3, .bool true), (2, .iface 299 (.pointer (some pa))), (8, .bool true), (7, .iface 299 (.pointer (some pa))), (4, .tuple #[.iface 299 (.pointer (some pa)), .bool true]), (6, .tuple #[.iface 299 (.pointer (some pa)), .bool true]), (5, .iface 299 (.pointer (some pa))), (0, .pointer (some ⟨bj, 0, none⟩)), (1, .pointer (some ⟨be, 0, none⟩))]) Tryz.func90 rfl Tryz.ntmps90 rfl Tryz.results90 ?hrec_1 ?hwalk_1
 case hrec_1 =>
  intro u R c cs Q hm hk
  show OpsS _ _ [0, 1, 2, 3, 4, 5, 6] _ _ _ _ _
  refine opsS_rec (v := .iface 299 (.pointer (some pa))) (cs' := { c with mode := .panicking [{ v := .iface 299 (.pointer (some pa)), recovered := true }] } :: cs) rfl (by simp [recoverD, hm]) rfl ?_
  refine opsS_w rfl (p_typeAssert (fun _=>rfl) (isErr _)) rfl ?_
  refine opsS_w rfl (p_move (fun _=>rfl)) rfl ?_
  refine opsS_w rfl (p_extract (fun _=>rfl) rfl) rfl ?_
  refine opsS_w rfl (p_extract (fun _=>rfl) rfl) rfl ?_
  refine opsS_w rfl (p_assign (fun _=>rfl)) rfl ?_
  refine opsS_w rfl (p_assign (fun _=>rfl)) rfl ?_
  intro a w hs
  exact hk a w hs
 case hwalk_1 =>
  intro u R
  refine at_slots (env' := [(0, _), (1, _), (2, _), (3, _)]) [0, 1, 2, 3] rfl (fun _=>rfl) ?_
  refine at_seq ?_
  refine at_region ?_
  refine op_v (p_move (fun _=>rfl)) ?_
  refine op_v (p_move (fun _=>rfl)) ?_
  refine ops_split_bool (t := 10) (fun _=>rfl) rfl (fun hb => ?_) (fun hb => ?_)
  ·
   refine op_wg (fun _=>rfl) (p_move (fun _=>rfl)) rfl rfl ?_
   refine op_rg (fun _=>rfl) (by repeat (first | exact Has.here _ | apply Has.there)) (p_load Tryz.isAgg125 (fun _=>rfl) (by rfl)) rfl rfl ?_
   refine op_e (w_callR (vs := [_, _]) (fun _=>rfl) Tryz.call91 (fun _=>rfl) rfl (is_spec pa) (by repeat (first | exact Pull.nil _ | (apply Pull.cons; (focus (repeat (first | exact One.here _ _ | apply One.there))))))) (fun _=>rfl) rfl rfl ?_
   rintro _ _ ⟨rfl, rfl⟩
   refine op_v (p_pick_t (fun _=>rfl) (fun _=>rfl)) ?_
   refine ops_nil ?_
   refine nx_next ?_
   refine at_if_bool (fun _=>rfl) (fun hb2 => ?_) (fun hb2 => ?_)
   ·
    refine at_region ?_
    refine op_e (w_store Tryz.sizeOf30 (fun _=>rfl) (fun _=>rfl) rfl (by repeat (first | exact Upd.here _ | apply Upd.there)) (by rfl) (by first | decide | exact Nat.le_refl _ | (simp; done) | (simp; omega)) (by exact free_zero _)) (fun _=>rfl) rfl rfl ?_
    rintro _ _ ⟨rfl, rfl⟩
    refine op_e (w_store Tryz.sizeOf27 (fun _=>rfl) (fun _=>rfl) rfl (by repeat (first | exact Upd.here _ | apply Upd.there)) (by rfl) (by first | decide | exact Nat.le_refl _ | (simp; done) | (simp; omega)) (by exact free_zero _)) (fun _=>rfl) rfl rfl ?_
    rintro _ _ ⟨rfl, rfl⟩
    refine ops_nil ?_
    refine nx_end0 (H' := _) rfl Tryz.results90 (by rfl)
   ·
    cases hb2
  ·
   cases hb

def zero32 : List UInt8 := List.replicate 32 0
theorem has_sat {u w : World} {H : Hp} {b : Nat} {o : Obj} (h : Has b o H) (hs : Sat u H w) : w.heap[b]? = some o := hs.get _ h.mem

theorem open_spec (dp : Nat) (s : List UInt8) (pa : Addr) (Tx Tg : TypeId) (zx zg : Nat × Nat) (hs : s.length ≤ 4194304) : Does Tryz.prog 44 #[.pointer (some ⟨dp, 0, none⟩), .string (str s)] [[(4, .cells (kTab.map u32v).toArray Tg zg)], [(0, .cells #[.iface 299 (.pointer (some pa))] Tx zx)]]
      (fun r H' => (∃ rs h sz v sr jp, loadL s (s.length + 1) [] zero32 0 = some (rs, h, sz) ∧ h.length = 32 ∧ sz ≤ s.length ∧ rs.length ≤ sz ∧ Row 9 v (rs.map strV) sr ∧ r = .tuple #[.pointer (some ⟨jp, 0, none⟩), .int .i64 0] ∧ H' = [[(jp, .cells #[v, .string (str h), .int .i64 (sz : Int), .pointer (some ⟨dp, 0, none⟩), .bool false] 109 (0, 0))], sr, [(4, .cells (kTab.map u32v).toArray Tg zg)], [(0, .cells #[.iface 299 (.pointer (some pa))] Tx zx)]]) ∨
        (loadL s (s.length + 1) [] zero32 0 = none ∧ r = .tuple #[.pointer none, .int .i64 232] ∧ H' = [[(4, .cells (kTab.map u32v).toArray Tg zg)], [(0, .cells #[.iface 299 (.pointer (some pa))] Tx zx)]])) := by
 refine spec_enterM Tryz.func44 rfl Tryz.ntmps44 rfl ?_
 intro u R
 refine at_slots (env' := [(0, _), (1, _)]) [0, 1] rfl (fun _=>rfl) ?_
 refine at_seq ?_
 refine at_region ?_
 refine op_e (w_alloc Tryz.zeroValue30 (cs := #[_]) rfl) (fun _=>rfl) rfl rfl ?_
 rintro _ _ ⟨bj, rfl, rfl⟩
 refine op_e (w_alloc Tryz.zeroValue27 (cs := #[_]) rfl) (fun _=>rfl) rfl rfl ?_
 rintro _ _ ⟨be, rfl, rfl⟩
 refine ops_nil ?_
 refine nx_next ?_
 refine at_seq ?_
 refine at_region ?_
 refine op_v (p_makeFunc (vs := []) (us := [_, _]) (fun _=>rfl) (fun _=>rfl)) ?_
 refine ops_defer rfl (fun _=>rfl) ?_
 refine ops_nil ?_
 refine nx_next ?_
 refine at_seq ?_
 refine at_region ?_
 refine op_v (p_move (fun _=>rfl)) ?_
 refine op_e (w_makeSlice (by_ := 1) (l := 32) (c := 32) Tryz.underlying36 (rfl : Tryz.prog.info? 5 = some Tryz.t5) rfl rfl rfl rfl (fun _=>rfl) (fun _=>rfl) ?_ ?_ ?_) (fun _=>rfl) rfl rfl ?_
 (focus (decide))
 (focus (decide))
 (focus (decide))
 rintro _ _ ⟨b3, rfl, rfl⟩
 refine op_r (by repeat (first | exact Has.here _ | apply Has.there)) (p_conv_bytes_str Tryz.underlying36 Tryz.underlying5 Tryz.underlying9 (fun _=>rfl) (by exact (show (_ = List.map u8v zero32) ∧ zero32.length = _ from ⟨rfl, rfl⟩))) rfl rfl ?_
 refine op_v (p_build (vs := [(1, _)]) (cs := #[_, _, _]) (fun _=>rfl) (run_build_struct (pl := #[(0, 1), (1, 1), (2, 1)]) Tryz.zeroValue107 Tryz.underlying107 (fun _ => by kernel_rfl) rfl)) ?_
 refine op_v (p_build (vs := [(1, _), (0, _)]) (cs := #[_, _, _, _, _]) (fun _=>rfl) (run_build_struct (pl := #[(0, 3), (3, 1), (4, 1)]) Tryz.zeroValue109 Tryz.underlying109 (fun _ => by kernel_rfl) rfl)) ?_
 refine op_e (w_box (fun _=>rfl) (cs := #[_, _, _, _, _]) rfl) (fun _=>rfl) rfl rfl ?_
 rintro _ _ ⟨jp, rfl, rfl⟩
 refine op_e (w_store Tryz.sizeOf30 (fun _=>rfl) (fun _=>rfl) rfl (by repeat (first | exact Upd.here _ | apply Upd.there)) (by rfl) (by first | decide | exact Nat.le_refl _ | (simp; done) | (simp; omega)) (by exact free_zero _)) (fun _=>rfl) rfl rfl ?_
 rintro _ _ ⟨rfl, rfl⟩
 refine ops_nil ?_
 refine nx_next ?_
 refine at_seq ?_
 refine at_nil ?_
 refine at_region ?_
 refine op_r (by repeat (first | exact Has.here _ | apply Has.there)) (p_load Tryz.isAgg30 (fun _=>rfl) (by rfl)) rfl rfl ?_
 refine op_v (p_nilChk (fun _=>rfl) rfl) ?_
 refine op_v (p_fieldAddr0 (off := 0) Tryz.underlying109 rfl rfl Tryz.sizeOf107 (fun _=>rfl)) ?_
 refine op_v (p_move (fun _=>rfl)) ?_
 refine ops_effP (fun _=>rfl) (fits_of rfl) rfl (w_call (vs := [_, _]) (fun _=>rfl) Tryz.call92 (fun _=>rfl) rfl (load_spec jp 0 _ _ false [] [] zero32 s _ _ _ _ _ _ _ (row_nil _) rfl hs (Nat.zero_le _) (Nat.zero_le _)) (by repeat (first | exact Pull.nil _ | (apply Pull.cons; (focus (repeat (first | exact One.here _ _ | apply One.there))))))) ?_ ?hpan_1
 case hpan_1 =>
  rintro _ _ ⟨_, ⟨hl, rfl, rfl⟩, rfl⟩
  refine nx_thru (by intro h; cases h) ?_
  refine nx_panicD (m' := .panicking [{ v := .iface 299 (.pointer (some pa)), recovered := true }]) rfl Tryz.call90 (openD_panic bj be _ _ pa _ _ _ _) (by repeat (first | exact Pull.nil _ | (apply Pull.cons; (focus (repeat (first | exact One.here _ _ | apply One.there)))))) ?_
  rintro _ rfl
  refine ⟨_, [[(4, .cells (kTab.map u32v).toArray Tg zg)], [(0, .cells #[.iface 299 (.pointer (some pa))] Tx zx)]], fun a w hsz hf hs => results_cell2 Tryz.results44 ((puts_look a _ (by rw [hsz]; exact hf) 4).trans rfl) (loadVar_one Tryz.isAgg30 (v := .pointer none) (i := 0) rfl w (has_sat (b := bj) (by repeat (first | exact Has.here _ | apply Has.there)) hs)) ((puts_look a _ (by rw [hsz]; exact hf) 5).trans rfl) (loadVar_one Tryz.isAgg27 (v := .int .i64 232) (i := 0) rfl w (has_sat (b := be) (by repeat (first | exact Has.here _ | apply Has.there)) hs)), .inr ⟨hl, rfl, rfl⟩, Sub.amid (by repeat (first | exact Sub.refl _ | exact Sub.nil _ | (apply Sub.cons; (focus (repeat (first | exact One.here _ _ | apply One.there)))) | refine Sub.drop _ ?_))⟩
 rintro _ _ ⟨_, ⟨rs, h, sz, v, sr, hl, hh, hz, hn, hrow, rfl, rfl⟩, rfl⟩
 refine ops_nil ?_
 refine nx_slots (env' := [(4, _), (5, _)]) [4, 5] rfl (fun _=>rfl) ?_
 refine nx_next ?_
 refine at_seq ?_
 refine at_region ?_
 refine op_r (by repeat (first | exact Has.here _ | apply Has.there)) (p_load Tryz.isAgg30 (fun _=>rfl) (by rfl)) rfl rfl ?_
 refine op_e (w_store Tryz.sizeOf30 (fun _=>rfl) (fun _=>rfl) rfl (by repeat (first | exact Upd.here _ | apply Upd.there)) (by rfl) (by first | decide | exact Nat.le_refl _ | (simp; done) | (simp; omega)) (by exact free_zero _)) (fun _=>rfl) rfl rfl ?_
 rintro _ _ ⟨rfl, rfl⟩
 refine op_e (w_store Tryz.sizeOf27 (fun _=>rfl) (fun _=>rfl) rfl (by repeat (first | exact Upd.here _ | apply Upd.there)) (by rfl) (by first | decide | exact Nat.le_refl _ | (simp; done) | (simp; omega)) (by exact free_zero _)) (fun _=>rfl) rfl rfl ?_
 rintro _ _ ⟨rfl, rfl⟩
 refine ops_nil ?_
 refine nx_next ?_
 refine at_ret ?_
 refine nx_endD rfl rfl Tryz.call90 (openD_ret _ _) (by repeat (first | exact Pull.nil _ | (apply Pull.cons; (focus (repeat (first | exact One.here _ _ | apply One.there)))))) ?_
 rintro _ rfl
 refine ⟨_, [[(jp, .cells #[v, .string (str h), .int .i64 (sz : Int), .pointer (some ⟨dp, 0, none⟩), .bool false] 109 (0, 0))], sr, [(4, .cells (kTab.map u32v).toArray Tg zg)], [(0, .cells #[.iface 299 (.pointer (some pa))] Tx zx)]], fun a w hf hs => results_cell2 Tryz.results44 ((puts_look a _ (hf) 4).trans rfl) (loadVar_one Tryz.isAgg30 (v := .pointer (some ⟨jp, 0, none⟩)) (i := 0) rfl w (has_sat (b := bj) (by repeat (first | exact Has.here _ | apply Has.there)) hs)) ((puts_look a _ (hf) 5).trans rfl) (loadVar_one Tryz.isAgg27 (v := .int .i64 0) (i := 0) rfl w (has_sat (b := be) (by repeat (first | exact Has.here _ | apply Has.there)) hs)), .inl ⟨rs, h, sz, v, sr, jp, hl, hh, hz, hn, hrow, rfl, rfl⟩, Sub.amid (by repeat (first | exact Sub.refl _ | exact Sub.nil _ | (apply Sub.cons; (focus (repeat (first | exact One.here _ _ | apply One.there)))) | refine Sub.drop _ ?_))⟩

theorem drop_all (l : List UInt8) (h : ∀ x ∈ l, x = 0) : l.dropWhile (· == 0) = [] := by
  induction l with
  | nil => rfl
  | cons a l ih =>
    have h1 := h a (by simp)
    subst h1
    rw [List.dropWhile_cons]
    exact ih (fun x hx => h x (by simp [hx]))
theorem trim_zero (l : List UInt8) (h : ∀ x ∈ l, x = 0) : Lib.trimB l 0 = [] := by
  have hr : Lib.trimRightB l 0 = [] := by
    unfold Lib.trimRightB
    rw [show l.reverse.dropWhile (· == 0) = [] from drop_all _ (fun x hx => h x (List.mem_reverse.1 hx))]; rfl
  unfold Lib.trimB
  rw [hr]; rfl
theorem trim_spec (l : List UInt8) (h : ∀ x ∈ l, x = 0) (hl : l.length ≤ 9223372036854775807) : DoesR Tryz.prog 45 #[.string (str l), .string ⟨#[0]⟩] [] (.string (str [])) :=
  spec_below (Rl := fun v => v = .string (str [])) (fun w _ => (Tryz.strings_Trim_one (str l) 0 (by decide) w (by rw [str_size]; exact hl)).mono (by
    rintro e w' ⟨rfl, h2⟩
    refine ⟨_, rfl, ?_, ?_⟩
    · rw [str_list, trim_zero l h]; rfl
    · rcases h2 with rfl | rfl
      · exact Below.refl _ _
      · exact ⟨rfl, rfl, rfl, Nat.le_refl _, fun _ _ => rfl⟩)) (fun v hv => ⟨hv, rfl⟩)
theorem extract_tail (s : List UInt8) (k : Nat) (h : k ≤ s.length) : (str s).extract k (str s).size = str (s.drop k) := by
  have := extract_str s k (s.length - k)
  rw [str_size, show k + (s.length - k) = s.length by omega] at *
  rw [this, List.take_of_length_le (by rw [List.length_drop]; omega)]
theorem p_slice_drop {P : Program} {env : Env} {d : Option Nat} {ty : TypeId} {pos : String} {af : Array Edge} {g : Option (Nat × Bool)} {t : TypeId} {x lo : Operand} {l : List UInt8} {k : Nat} {lk : IntKind} (hu : P.underlying t = some .string) (hx : ∀ a, ev a env x = .string (str l)) (hl : ∀ a, ev a env lo = .int lk (k : Int)) (h1 : k ≤ l.length) : OpP P ⟨d, .slice t x (some lo) none none, ty, pos, af, g⟩ env [] (.string (str (l.drop k))) := by
  have := p_slice_str_from (P := P) (d := d) (ty := ty) (pos := pos) (af := af) (g := g) hu hx hl (by rw [str_size]; exact h1)
  rw [extract_tail l k h1] at this; exact this

theorem open_clean (dp : Nat) (d : DiskS) (sd : List Chunk) (pa : Addr) (Tx Tg : TypeId) (zx zg : Nat × Nat) (hR : DiskR d dp sd) (hoff : d.off = false) (rs : List (List UInt8)) (h : List UInt8) (sz : Nat) (hl : loadL d.vi (d.vi.length + 1) [] zero32 0 = some (rs, h, sz)) (hz : ∀ x ∈ d.vi.drop sz, x = 0) : Does Tryz.prog 10 #[.pointer (some ⟨dp, 0, none⟩)] [sd, [(4, .cells (kTab.map u32v).toArray Tg zg)], [(0, .cells #[.iface 299 (.pointer (some pa))] Tx zx)]]
      (fun r H' => ∃ v sr jp, h.length = 32 ∧ sz ≤ d.vi.length ∧ rs.length ≤ sz ∧ Row 9 v (rs.map strV) sr ∧ r = .tuple #[.pointer (some ⟨jp, 0, none⟩), .int .i64 0] ∧ H' = [[(jp, .cells #[v, .string (str h), .int .i64 (sz : Int), .pointer (some ⟨dp, 0, none⟩), .bool false] 109 (0, 0))], sr, sd, [(4, .cells (kTab.map u32v).toArray Tg zg)], [(0, .cells #[.iface 299 (.pointer (some pa))] Tx zx)]]) := by
 have hvi : d.vi.length ≤ 4194304 := hR.1.2.2.1
 refine spec_enter Tryz.func10 rfl Tryz.ntmps10 rfl ?_
 intro u R
 refine at_slots (env' := [(0, _)]) [0] rfl (fun _=>rfl) ?_
 refine at_seq ?_
 refine at_region ?_
 refine op_v (p_assign (fun _=>rfl)) ?_
 refine op_v (p_assign (fun _=>rfl)) ?_
 refine ops_nil ?_
 refine nx_next ?_
 refine at_seq ?_
 refine at_seq ?_
 refine at_region ?_
 refine op_v (p_move (fun _=>rfl)) ?_
 first | refine op_v (p_eql_nil_nil Tryz.underlying26 (fun _=>rfl) (fun _=>rfl)) ?_ | refine op_v (p_eql_ptr_nil Tryz.underlying26 (fun _=>rfl) (fun _=>rfl)) ?_
 refine ops_nil ?_
 refine nx_next ?_
 refine at_if_bool (fun _=>rfl) (fun hc1 => ?_) (fun hc1 => ?_)
 ·
  cases hc1
 ·
  refine at_skip ?_
  refine nx_next ?_
  refine at_seq ?_
  refine at_region ?_
  refine op_v (p_move (fun _=>rfl)) ?_
  refine op_v (p_move (fun _=>rfl)) ?_
  refine op_e (w_callR (vs := [_]) (fun _=>rfl) Tryz.call43 (fun _=>rfl) rfl (disk_size d dp sd hR) (by repeat (first | exact Pull.nil _ | (apply Pull.cons; (focus (repeat (first | exact One.here _ _ | apply One.there))))))) (fun _=>rfl) rfl rfl ?_
  rintro _ _ ⟨rfl, rfl⟩
  refine op_e (w_callR (vs := [_, _, _]) (fun _=>rfl) Tryz.call16 (fun _=>rfl) rfl ((by have h := disk_read d dp sd hR 0 d.vi.length (by omega) (by have := hR.1.2.1; omega); rw [hoff] at h; simp only [Bool.false_eq_true, if_false, List.drop_zero, List.take_length] at h; exact h : DoesR Tryz.prog 16 #[.pointer (some ⟨dp, 0, none⟩), .int .i64 ((0 : Nat) : Int), .int .i64 (d.vi.length : Int)] [sd] (.tuple #[.string (str d.vi), .int .i64 0]))) (by repeat (first | exact Pull.nil _ | (apply Pull.cons; (focus (repeat (first | exact One.here _ _ | apply One.there))))))) (fun _=>rfl) rfl rfl ?_
  rintro _ _ ⟨rfl, rfl⟩
  refine op_v (p_move (fun _=>rfl)) ?_
  refine op_v (p_extract (fun _=>rfl) rfl) ?_
  refine op_v (p_extract (fun _=>rfl) rfl) ?_
  refine op_v (p_assign (fun _=>rfl)) ?_
  refine op_v (p_assign (fun _=>rfl)) ?_
  refine ops_nil ?_
  refine nx_slots (env' := [(0, _), (4, _), (5, _)]) [0, 4, 5] rfl (fun _=>rfl) ?_
  refine nx_next ?_
  refine at_seq ?_
  refine at_seq ?_
  refine at_region ?_
  refine op_v (p_move (fun _=>rfl)) ?_
  first | refine op_v (p_neq_nat (n := 0) (fun _=>rfl) (fun _=>rfl)) ?_ | refine op_v (p_neq (fun _=>rfl) (fun _=>rfl)) ?_
  refine ops_nil ?_
  refine nx_next ?_
  first | refine at_if (fun _=>rfl) (fun hc2 => ?_) (fun hc2 => ?_) | refine at_if_bool (fun _=>rfl) (fun hc2 => ?_) (fun hc2 => ?_)
  ·
   exact absurd rfl hc2
  ·
   refine at_skip ?_
   refine nx_next ?_
   refine at_seq ?_
   refine at_region ?_
   refine op_v (p_move (fun _=>rfl)) ?_
   refine op_v (p_move (fun _=>rfl)) ?_
   refine ops_eff (fun _=>rfl) (fits_of rfl) rfl (w_call (vs := [_, _]) (fun _=>rfl) Tryz.call44 (fun _=>rfl) rfl ((does_mono (Q' := fun r H' => ∃ v sr jp, h.length = 32 ∧ sz ≤ d.vi.length ∧ rs.length ≤ sz ∧ Row 9 v (rs.map strV) sr ∧ r = .tuple #[.pointer (some ⟨jp, 0, none⟩), .int .i64 0] ∧ H' = [[(jp, .cells #[v, .string (str h), .int .i64 (sz : Int), .pointer (some ⟨dp, 0, none⟩), .bool false] 109 (0, 0))], sr, [(4, .cells (kTab.map u32v).toArray Tg zg)], [(0, .cells #[.iface 299 (.pointer (some pa))] Tx zx)]]) (open_spec dp d.vi pa Tx Tg zx zg hvi) (by
      rintro r H1 (⟨rs2, h2, sz2, v, sr, jp, hl2, g1, g2, g3, g4, rfl, rfl⟩ | ⟨hl2, _⟩)
      · rw [hl] at hl2; injection hl2 with e; injection e with e1 e2; injection e2 with e2 e3; subst e1 e2 e3; exact ⟨_, ⟨v, sr, jp, g1, g2, g3, g4, rfl, rfl⟩, rfl⟩
      · rw [hl] at hl2; cases hl2))) (by repeat (first | exact Pull.nil _ | (apply Pull.cons; (focus (repeat (first | exact One.here _ _ | apply One.there))))))) ?_ no_pan
   rintro _ _ ⟨_, ⟨v, sr, jp, g1, g2, g3, g4, rfl, rfl⟩, rfl⟩
   refine op_v (p_move (fun _=>rfl)) ?_
   refine op_v (p_extract (fun _=>rfl) rfl) ?_
   refine op_v (p_extract (fun _=>rfl) rfl) ?_
   refine op_v (p_assign (fun _=>rfl)) ?_
   refine op_v (p_assign (fun _=>rfl)) ?_
   refine ops_nil ?_
   refine nx_next ?_
   refine at_seq ?_
   refine at_seq ?_
   refine at_region ?_
   refine op_v (p_move (fun _=>rfl)) ?_
   first | refine op_v (p_neq_nat (n := 0) (fun _=>rfl) (fun _=>rfl)) ?_ | refine op_v (p_neq (fun _=>rfl) (fun _=>rfl)) ?_
   refine ops_nil ?_
   refine nx_next ?_
   first | refine at_if (fun _=>rfl) (fun hc3 => ?_) (fun hc3 => ?_) | refine at_if_bool (fun _=>rfl) (fun hc3 => ?_) (fun hc3 => ?_)
   ·
    exact absurd rfl hc3
   ·
    refine at_skip ?_
    refine nx_next ?_
    refine at_seq ?_
    refine at_seq ?_
    refine at_region ?_
    refine op_v (p_move (fun _=>rfl)) ?_
    refine op_v (p_move (fun _=>rfl)) ?_
    refine op_v (p_nilChk (fun _=>rfl) rfl) ?_
    refine op_v (p_fieldAddr0 (off := 0) Tryz.underlying109 rfl rfl Tryz.sizeOf107 (fun _=>rfl)) ?_
    refine op_v (p_fieldAddr1 (off := 2) Tryz.underlying107 rfl rfl Tryz.sizeOf3 (fun _=>rfl)) ?_
    refine op_r (by repeat (first | exact Has.here _ | apply Has.there)) (p_load Tryz.isAgg3 (fun _=>rfl) (by rfl)) rfl rfl ?_
    refine op_w (p_slice_drop Tryz.underlying9 (fun _=>rfl) (fun _=>rfl) g2) rfl rfl ?_
    refine op_e (w_callR (vs := [_, _]) (fun _=>rfl) Tryz.call45 (fun _=>rfl) rfl (trim_spec _ hz (by rw [List.length_drop]; omega)) (by repeat (first | exact Pull.nil _ | (apply Pull.cons; (focus (repeat (first | exact One.here _ _ | apply One.there))))))) (fun _=>rfl) rfl rfl ?_
    rintro _ _ ⟨rfl, rfl⟩
    refine op_v (p_neq_str (fun _=>rfl) (fun _=>rfl)) ?_
    refine ops_nil ?_
    refine nx_slots (env' := [(0, _), (4, _), (5, _), (6, _), (36, _)]) [0, 4, 5, 6, 36] rfl (fun _=>rfl) ?_
    refine nx_next ?_
    first | refine at_if (fun _=>rfl) (fun hc4 => ?_) (fun hc4 => ?_) | refine at_if_bool (fun _=>rfl) (fun hc4 => ?_) (fun hc4 => ?_)
    ·
     exact absurd rfl hc4
    ·
     refine at_skip ?_
     refine nx_next ?_
     refine at_seq ?_
     refine at_seq ?_
     refine at_region ?_
     refine op_v (p_move (fun _=>rfl)) ?_
     first | refine op_v (p_neq_nat (n := 0) (fun _=>rfl) (fun _=>rfl)) ?_ | refine op_v (p_neq (fun _=>rfl) (fun _=>rfl)) ?_
     refine ops_nil ?_
     refine nx_next ?_
     first | refine at_if (fun _=>rfl) (fun hc5 => ?_) (fun hc5 => ?_) | refine at_if_bool (fun _=>rfl) (fun hc5 => ?_) (fun hc5 => ?_)
     ·
      exact absurd rfl hc5
     ·
      refine at_skip ?_
      refine nx_next ?_
      refine at_seq ?_
      refine at_region ?_
      refine op_v (p_move (fun _=>rfl)) ?_
      refine op_v (p_assign (fun _=>rfl)) ?_
      refine op_v (p_assign (fun _=>rfl)) ?_
      refine ops_nil ?_
      refine nx_next ?_
      refine at_ret ?_
      refine nx_end2 (H' := _) rfl Tryz.results10 (fun _=>rfl) (fun _=>rfl) (by exact ⟨v, sr, jp, g1, g2, g3, g4, rfl, rfl⟩)

theorem open_damaged (dp : Nat) (d : DiskS) (sd : List Chunk) (pa : Addr) (Tx Tg : TypeId) (zx zg : Nat × Nat) (hR : DiskR d dp sd) (hoff : d.off = false) (hl : loadL d.vi (d.vi.length + 1) [] zero32 0 = none) : DoesR Tryz.prog 10 #[.pointer (some ⟨dp, 0, none⟩)] [sd, [(4, .cells (kTab.map u32v).toArray Tg zg)], [(0, .cells #[.iface 299 (.pointer (some pa))] Tx zx)]] (.tuple #[.pointer none, .int .i64 232]) := by
 have hvi : d.vi.length ≤ 4194304 := hR.1.2.2.1
 refine spec_enter Tryz.func10 rfl Tryz.ntmps10 rfl ?_
 intro u R
 refine at_slots (env' := [(0, _)]) [0] rfl (fun _=>rfl) ?_
 refine at_seq ?_
 refine at_region ?_
 refine op_v (p_assign (fun _=>rfl)) ?_
 refine op_v (p_assign (fun _=>rfl)) ?_
 refine ops_nil ?_
 refine nx_next ?_
 refine at_seq ?_
 refine at_seq ?_
 refine at_region ?_
 refine op_v (p_move (fun _=>rfl)) ?_
 first | refine op_v (p_eql_nil_nil Tryz.underlying26 (fun _=>rfl) (fun _=>rfl)) ?_ | refine op_v (p_eql_ptr_nil Tryz.underlying26 (fun _=>rfl) (fun _=>rfl)) ?_
 refine ops_nil ?_
 refine nx_next ?_
 refine at_if_bool (fun _=>rfl) (fun hc1 => ?_) (fun hc1 => ?_)
 ·
  cases hc1
 ·
  refine at_skip ?_
  refine nx_next ?_
  refine at_seq ?_
  refine at_region ?_
  refine op_v (p_move (fun _=>rfl)) ?_
  refine op_v (p_move (fun _=>rfl)) ?_
  refine op_e (w_callR (vs := [_]) (fun _=>rfl) Tryz.call43 (fun _=>rfl) rfl (disk_size d dp sd hR) (by repeat (first | exact Pull.nil _ | (apply Pull.cons; (focus (repeat (first | exact One.here _ _ | apply One.there))))))) (fun _=>rfl) rfl rfl ?_
  rintro _ _ ⟨rfl, rfl⟩
  refine op_e (w_callR (vs := [_, _, _]) (fun _=>rfl) Tryz.call16 (fun _=>rfl) rfl ((by have h := disk_read d dp sd hR 0 d.vi.length (by omega) (by have := hR.1.2.1; omega); rw [hoff] at h; simp only [Bool.false_eq_true, if_false, List.drop_zero, List.take_length] at h; exact h : DoesR Tryz.prog 16 #[.pointer (some ⟨dp, 0, none⟩), .int .i64 ((0 : Nat) : Int), .int .i64 (d.vi.length : Int)] [sd] (.tuple #[.string (str d.vi), .int .i64 0]))) (by repeat (first | exact Pull.nil _ | (apply Pull.cons; (focus (repeat (first | exact One.here _ _ | apply One.there))))))) (fun _=>rfl) rfl rfl ?_
  rintro _ _ ⟨rfl, rfl⟩
  refine op_v (p_move (fun _=>rfl)) ?_
  refine op_v (p_extract (fun _=>rfl) rfl) ?_
  refine op_v (p_extract (fun _=>rfl) rfl) ?_
  refine op_v (p_assign (fun _=>rfl)) ?_
  refine op_v (p_assign (fun _=>rfl)) ?_
  refine ops_nil ?_
  refine nx_slots (env' := [(0, _), (4, _), (5, _)]) [0, 4, 5] rfl (fun _=>rfl) ?_
  refine nx_next ?_
  refine at_seq ?_
  refine at_seq ?_
  refine at_region ?_
  refine op_v (p_move (fun _=>rfl)) ?_
  first | refine op_v (p_neq_nat (n := 0) (fun _=>rfl) (fun _=>rfl)) ?_ | refine op_v (p_neq (fun _=>rfl) (fun _=>rfl)) ?_
  refine ops_nil ?_
  refine nx_next ?_
  first | refine at_if (fun _=>rfl) (fun hc2 => ?_) (fun hc2 => ?_) | refine at_if_bool (fun _=>rfl) (fun hc2 => ?_) (fun hc2 => ?_)
  ·
   exact absurd rfl hc2
  ·
   refine at_skip ?_
   refine nx_next ?_
   refine at_seq ?_
   refine at_region ?_
   refine op_v (p_move (fun _=>rfl)) ?_
   refine op_v (p_move (fun _=>rfl)) ?_
   refine ops_eff (fun _=>rfl) (fits_of rfl) rfl (w_call (vs := [_, _]) (fun _=>rfl) Tryz.call44 (fun _=>rfl) rfl ((does_mono (Q' := fun r H' => r = .tuple #[.pointer none, .int .i64 232] ∧ H' = [[(4, .cells (kTab.map u32v).toArray Tg zg)], [(0, .cells #[.iface 299 (.pointer (some pa))] Tx zx)]]) (open_spec dp d.vi pa Tx Tg zx zg hvi) (by
      rintro r H1 (⟨rs2, h2, sz2, v, sr, jp, hl2, g1, g2, g3, g4, rfl, rfl⟩ | ⟨hl2, rfl, rfl⟩)
      · rw [hl] at hl2; cases hl2
      · exact ⟨_, ⟨rfl, rfl⟩, rfl⟩))) (by repeat (first | exact Pull.nil _ | (apply Pull.cons; (focus (repeat (first | exact One.here _ _ | apply One.there))))))) ?_ no_pan
   rintro _ _ ⟨_, ⟨rfl, rfl⟩, rfl⟩
   refine op_v (p_move (fun _=>rfl)) ?_
   refine op_v (p_extract (fun _=>rfl) rfl) ?_
   refine op_v (p_extract (fun _=>rfl) rfl) ?_
   refine op_v (p_assign (fun _=>rfl)) ?_
   refine op_v (p_assign (fun _=>rfl)) ?_
   refine ops_nil ?_
   refine nx_next ?_
   refine at_seq ?_
   refine at_seq ?_
   refine at_region ?_
   refine op_v (p_move (fun _=>rfl)) ?_
   first | refine op_v (p_neq_nat (n := 0) (fun _=>rfl) (fun _=>rfl)) ?_ | refine op_v (p_neq (fun _=>rfl) (fun _=>rfl)) ?_
   refine ops_nil ?_
   refine nx_next ?_
   first | refine at_if (fun _=>rfl) (fun hc3 => ?_) (fun hc3 => ?_) | refine at_if_bool (fun _=>rfl) (fun hc3 => ?_) (fun hc3 => ?_)
   ·
    refine at_seq ?_
    refine at_region ?_
    refine op_v (p_move (fun _=>rfl)) ?_
    refine op_v (p_assign (fun _=>rfl)) ?_
    refine op_v (p_assign (fun _=>rfl)) ?_
    refine ops_nil ?_
    refine nx_slots (env' := [(2, _), (3, _)]) [2, 3] rfl (fun _=>rfl) ?_
    refine nx_next ?_
    refine at_ret ?_
    refine nx_thru (by intro h; cases h) ?_
    refine nx_end2 (H' := _) rfl Tryz.results10 (fun _=>rfl) (fun _=>rfl) (by exact ⟨rfl, rfl⟩)
   ·
    exact absurd (by decide) hc3

end Go.Proofs.YthbadolcncojbaaGreatDoor
