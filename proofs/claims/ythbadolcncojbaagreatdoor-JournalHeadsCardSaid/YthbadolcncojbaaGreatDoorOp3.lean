/- Contracts: journal.open. Contracts: journal.open. Contracts: strings.Trim at a zero byte, journal.Open where the tail is zeros or the disk is damaged. -/
import Derived.Test.YthbadolcncojbaaGreatDoorEz
import Derived.Test.YthbadolcncojbaaGreatDoorEr1
import Derived.Test.YthbadolcncojbaaGreatDoorAp3
import Derived.Test.YthbadolcncojbaaGreatDoorEx10

namespace Go.Proofs.YthbadolcncojbaaGreatDoor
open Go.Proofs.Tryz
open Go Go.RowKit Gw
set_option linter.unusedVariables false
set_option linter.unusedSimpArgs false
set_option maxRecDepth 100000
attribute [local irreducible] Gw.At Gw.Nx Gw.Ops
theorem p_typeAssert {P : Program} {env : Env} {d : Option Nat} {ty : TypeId} {pos : String} {af : Array Edge} {g : Option (Nat × Bool)} {x : Operand} {xT at_ : TypeId} {ok : Bool} {v r : Value} (hx : ∀ a, ev a env x = v) (hr : ∀ w : World, (Instr.typeAssert v xT at_ ok).run P w = .ok r w) : OpP P ⟨d, .typeAssert x xT at_ ok, ty, pos, af, g⟩ env [] r := fun a w _ => by
  simp [execOp, hx a, hr w]
theorem isErr (v : Value) (w : World) : (Instr.typeAssert (.iface 299 v) 20 125 true).run Tryz.prog w = .ok (.tuple #[.iface 299 v, .bool true]) w := Go.run_typeAssert_hasB underlying125 (by kernel_rfl) v 20 w
theorem isNil (w : World) : (Instr.typeAssert .nilIface 20 125 true).run Tryz.prog w = .ok (.tuple #[.nilIface, .bool false]) w := by kernel_rfl

theorem openD_ret (pj pe : Value) : DoesD Tryz.prog 90 #[pj, pe] .returning .returning [] (fun H' => H' = []) := by
 refine specD_enter (env1 := [(3, .bool false), (2, .nilIface), (8, .bool false), (7, .nilIface), (4, .tuple #[.nilIface, .bool false]), (6, .tuple #[.nilIface, .bool false]), (5, .nilIface), (0, pj), (1, pe)]) func90 rfl ntmps90 rfl results90 ?hrec_1 ?hwalk_1
 case hrec_1 =>
  intro u R c cs Q hm hk
  show OpsS _ _ [0, 1, 2, 3, 4, 5, 6] _ _ _ _ _
  have hcm : ({ c with mode := .returning } : Frame) = c := by cases c; simp only at hm; subst hm; rfl
  rw [hcm] at hk
  refine opsS_norec rfl (by simp [recoverD, hm]) rfl ?_
  refine opsS_w rfl (p_typeAssert Y isNil) rfl ?_
  refine opsS_w rfl (p_move Y) rfl ?_
  refine opsS_w rfl (p_extract Y rfl) rfl ?_
  refine opsS_w rfl (p_extract Y rfl) rfl ?_
  refine opsS_w rfl (p_assign Y) rfl ?_
  refine opsS_w rfl (p_assign Y) rfl ?_
  intro a w hs
  exact hk a w hs
 case hwalk_1 =>
  intro u R
  refine Zb [0, 1, 2, 3] ?_
  refine Zq <| Zg <| Zm Y <| Zm Y ?_
  refine ops_split_bool (t := 10) Y rfl (fun hb => ?_) (fun hb => ?_)
  ·
   cases hb
  ·
   refine op_skip Y rfl <| op_skip Y rfl <| op_skip Y rfl <| Zv (p_pick_f Y Y) <| Z0 <| Zx <| at_else Y <| at_skip ?_
   refine nx_end0 rfl results90 (by rfl)

theorem openD_panic (bj be : Nat) (vj ve : Value) (pa : Addr) (Tj Te Tx : TypeId) (zx : Nat × Nat) : DoesD Tryz.prog 90 #[.pointer (some ⟨bj, 0, none⟩), .pointer (some ⟨be, 0, none⟩)] (.panicking [{ v := .iface 299 (.pointer (some pa)), recovered := false }]) (.panicking [{ v := .iface 299 (.pointer (some pa)), recovered := true }]) [[(bj, .cells #[vj] Tj (0, 0))], [(be, .cells #[ve] Te (0, 0))], [(0, .cells #[.iface 299 (.pointer (some pa))] Tx zx)]] (fun H' => H' = [[(bj, .cells #[.pointer none] Tj (0, 0))], [(be, .cells #[.int .i64 232] Te (0, 0))], [(0, .cells #[.iface 299 (.pointer (some pa))] Tx zx)]]) := by
 refine specD_enter (env1 := [(3, .bool true), (2, .iface 299 (.pointer (some pa))), (8, .bool true), (7, .iface 299 (.pointer (some pa))), (4, .tuple #[.iface 299 (.pointer (some pa)), .bool true]), (6, .tuple #[.iface 299 (.pointer (some pa)), .bool true]), (5, .iface 299 (.pointer (some pa))), (0, .pointer (some ⟨bj, 0, none⟩)), (1, .pointer (some ⟨be, 0, none⟩))]) func90 rfl ntmps90 rfl results90 ?hrec_1 ?hwalk_1
 case hrec_1 =>
  intro u R c cs Q hm hk
  show OpsS _ _ [0, 1, 2, 3, 4, 5, 6] _ _ _ _ _
  refine opsS_rec (v := .iface 299 (.pointer (some pa))) (cs' := { c with mode := .panicking [{ v := .iface 299 (.pointer (some pa)), recovered := true }] } :: cs) rfl (by simp [recoverD, hm]) rfl ?_
  refine opsS_w rfl (p_typeAssert Y (isErr _)) rfl ?_
  refine opsS_w rfl (p_move Y) rfl ?_
  refine opsS_w rfl (p_extract Y rfl) rfl ?_
  refine opsS_w rfl (p_extract Y rfl) rfl ?_
  refine opsS_w rfl (p_assign Y) rfl ?_
  refine opsS_w rfl (p_assign Y) rfl ?_
  intro a w hs
  exact hk a w hs
 case hwalk_1 =>
  intro u R
  refine Zb [0, 1, 2, 3] ?_
  refine Zq <| Zg <| Zm Y <| Zm Y ?_
  refine ops_split_bool (t := 10) Y rfl (fun hb => ?_) (fun hb => ?_)
  ·
   refine Zf Y Y <| op_rg Y (by repeat (first | exact Has.here _ | apply Has.there)) (p_load isAgg125 Y (by rfl)) rfl rfl ?_
   refine Zr [_, _] Y call91 Y rfl (is_spec pa) ?_
   rintro _ _ ⟨rfl, rfl⟩
   refine Zv (p_pick_t Y Y) <| Z0 <| Zx ?_
   refine at_if_bool Y (fun hb2 => ?_) (fun hb2 => ?_)
   ·
    refine Zg <| Ze (Zs sizeOf30 Y Y rfl) ?_
    rintro _ _ ⟨rfl, rfl⟩
    refine Ze (Zs sizeOf27 Y Y rfl) ?_
    rintro _ _ ⟨rfl, rfl⟩
    refine Z0 ?_
    refine nx_end0 rfl results90 (by rfl)
   ·
    cases hb2
  ·
   cases hb

def zero32 : List UInt8 := List.replicate 32 0
theorem has_sat {u w : World} {H : Hp} {b : Nat} {o : Obj} (h : Has b o H) (hs : Sat u H w) : w.heap[b]? = some o := hs.get _ h.mem

theorem open_spec (dp : Nat) (s : List UInt8) (pa : Addr) (Tx Tg : TypeId) (zx zg : Nat × Nat) (hs : s.length ≤ 4194304) : Does Tryz.prog 44 #[.pointer (some ⟨dp, 0, none⟩), .string (str s)] [[(4, .cells (kTab.map u32v).toArray Tg zg)], [(0, .cells #[.iface 299 (.pointer (some pa))] Tx zx)]]
      (fun r H' => (∃ rs h sz v sr jp, loadL s (s.length + 1) [] zero32 0 = some (rs, h, sz) ∧ h.length = 32 ∧ sz ≤ s.length ∧ rs.length ≤ sz ∧ Row 9 v (rs.map strV) sr ∧ r = .tuple #[.pointer (some ⟨jp, 0, none⟩), .int .i64 0] ∧ H' = [[(jp, .cells #[v, .string (str h), .int .i64 (sz : Int), .pointer (some ⟨dp, 0, none⟩), .bool false] 109 (0, 0))], sr, [(4, .cells (kTab.map u32v).toArray Tg zg)], [(0, .cells #[.iface 299 (.pointer (some pa))] Tx zx)]]) ∨
        (loadL s (s.length + 1) [] zero32 0 = none ∧ r = .tuple #[.pointer none, .int .i64 232] ∧ H' = [[(4, .cells (kTab.map u32v).toArray Tg zg)], [(0, .cells #[.iface 299 (.pointer (some pa))] Tx zx)]])) := by
 refine spec_enterM func44 rfl ntmps44 rfl ?_
 intro u R
 refine Zb [0, 1] ?_
 refine Zq <| Zg <| Ze (w_alloc zeroValue30 (cs := #[_]) rfl) ?_
 rintro _ _ ⟨bj, rfl, rfl⟩
 refine Ze (w_alloc zeroValue27 (cs := #[_]) rfl) ?_
 rintro _ _ ⟨be, rfl, rfl⟩
 refine Z0 <| Zx <| Zq <| Zg <| Zv (p_makeFunc (vs := []) (us := [_, _]) Y Y) ?_
 refine ops_defer rfl Y ?_
 refine Z0 <| Zx <| Zq <| Zg <| Zm Y ?_
 refine Ze (w_makeSlice (by_ := 1) (l := 32) (c := 32) underlying36 (rfl : Tryz.prog.info? 5 = some Tryz.t5) rfl rfl rfl rfl Y Y ?_ ?_ ?_) ?_
 (focus (decide))
 (focus (decide))
 (focus (decide))
 rintro _ _ ⟨b3, rfl, rfl⟩
 refine Zo (by repeat (first | exact Has.here _ | apply Has.there)) (p_conv_bytes_str underlying36 underlying5 underlying9 Y (by exact (show (_ = List.map u8v zero32) ∧ zero32.length = _ from ⟨rfl, rfl⟩))) ?_
 refine Zv (p_build (vs := [(1, _)]) (cs := #[_, _, _]) Y (run_build_struct (pl := #[(0, 1), (1, 1), (2, 1)]) zeroValue107 underlying107 (fun _ => by kernel_rfl) rfl)) ?_
 refine Zv (p_build (vs := [(1, _), (0, _)]) (cs := #[_, _, _, _, _]) Y (run_build_struct (pl := #[(0, 3), (3, 1), (4, 1)]) zeroValue109 underlying109 (fun _ => by kernel_rfl) rfl)) ?_
 refine Ze (w_box Y (cs := #[_, _, _, _, _]) rfl) ?_
 rintro _ _ ⟨jp, rfl, rfl⟩
 refine Ze (Zs sizeOf30 Y Y rfl) ?_
 rintro _ _ ⟨rfl, rfl⟩
 refine Z0 <| Zx <| Zq <| at_nil ?_
 refine Zg <| Zl isAgg30 Y ?_
 refine Zp Y rfl <| Zh 0 underlying109 rfl rfl sizeOf107 Y <| Zm Y ?_
 refine ops_effP Y (fits_of rfl) rfl (w_call (vs := [_, _]) Y call92 Y rfl (load_spec jp 0 _ _ false [] [] zero32 s _ _ _ _ _ _ _ (row_nil _) rfl hs (Nat.zero_le _) (Nat.zero_le _)) (by repeat (first | exact Pull.nil _ | (apply Pull.cons; (focus (repeat (first | exact One.here _ _ | apply One.there))))))) ?_ ?hpan_1
 case hpan_1 =>
  rintro _ _ ⟨_, ⟨hl, rfl, rfl⟩, rfl⟩
  refine Zt <| nx_panicD (m' := .panicking [{ v := .iface 299 (.pointer (some pa)), recovered := true }]) rfl call90 (openD_panic bj be _ _ pa _ _ _ _) (by repeat (first | exact Pull.nil _ | (apply Pull.cons; (focus (repeat (first | exact One.here _ _ | apply One.there)))))) ?_
  rintro _ rfl
  refine ⟨_, [[(4, .cells (kTab.map u32v).toArray Tg zg)], [(0, .cells #[.iface 299 (.pointer (some pa))] Tx zx)]], fun a w hsz hf hs => results_cell2 results44 ((puts_look a _ (by rw [hsz]; exact hf) 4).trans rfl) (loadVar_one isAgg30 (v := .pointer none) (i := 0) rfl w (has_sat (b := bj) (by repeat (first | exact Has.here _ | apply Has.there)) hs)) ((puts_look a _ (by rw [hsz]; exact hf) 5).trans rfl) (loadVar_one isAgg27 (v := .int .i64 232) (i := 0) rfl w (has_sat (b := be) (by repeat (first | exact Has.here _ | apply Has.there)) hs)), .inr ⟨hl, rfl, rfl⟩, Sub.amid (by repeat (first | exact Sub.refl _ | exact Sub.nil _ | (apply Sub.cons; (focus (repeat (first | exact One.here _ _ | apply One.there)))) | refine Sub.drop _ ?_))⟩
 rintro _ _ ⟨_, ⟨rs, h, sz, v, sr, hl, hh, hz, hn, hrow, rfl, rfl⟩, rfl⟩
 refine Z0 <| Zn [4, 5] ?_
 refine Zx <| Zq <| Zg <| Zl isAgg30 Y ?_
 refine Ze (Zs sizeOf30 Y Y rfl) ?_
 rintro _ _ ⟨rfl, rfl⟩
 refine Ze (Zs sizeOf27 Y Y rfl) ?_
 rintro _ _ ⟨rfl, rfl⟩
 refine Z0 <| Zx <| at_ret <| nx_endD rfl rfl call90 (openD_ret _ _) (by repeat (first | exact Pull.nil _ | (apply Pull.cons; (focus (repeat (first | exact One.here _ _ | apply One.there)))))) ?_
 rintro _ rfl
 refine ⟨_, [[(jp, .cells #[v, .string (str h), .int .i64 (sz : Int), .pointer (some ⟨dp, 0, none⟩), .bool false] 109 (0, 0))], sr, [(4, .cells (kTab.map u32v).toArray Tg zg)], [(0, .cells #[.iface 299 (.pointer (some pa))] Tx zx)]], fun a w hf hs => results_cell2 results44 ((puts_look a _ (hf) 4).trans rfl) (loadVar_one isAgg30 (v := .pointer (some ⟨jp, 0, none⟩)) (i := 0) rfl w (has_sat (b := bj) (by repeat (first | exact Has.here _ | apply Has.there)) hs)) ((puts_look a _ (hf) 5).trans rfl) (loadVar_one isAgg27 (v := .int .i64 0) (i := 0) rfl w (has_sat (b := be) (by repeat (first | exact Has.here _ | apply Has.there)) hs)), .inl ⟨rs, h, sz, v, sr, jp, hl, hh, hz, hn, hrow, rfl, rfl⟩, Sub.amid (by repeat (first | exact Sub.refl _ | exact Sub.nil _ | (apply Sub.cons; (focus (repeat (first | exact One.here _ _ | apply One.there)))) | refine Sub.drop _ ?_))⟩

theorem drop_all (l : List UInt8) (h : ∀ x ∈ l, x = 0) : l.dropWhile (· == 0) = [] := by
  induction l with
  | nil => rfl
  | cons a l ih =>
    have h1 := h a (by simp)
    subst h1
    rw [List.dropWhile_cons]
    exact ih (fun x hx => h x (by simp [hx]))
theorem trim_zero (l : List UInt8) (h : ∀ x ∈ l, x = 0) : Lib.trimB l 0 = [] := by
  have hr : Lib.trimRightB l 0 = [] := by
    unfold Lib.trimRightB
    rw [show l.reverse.dropWhile (· == 0) = [] from drop_all _ (fun x hx => h x (List.mem_reverse.1 hx))]; rfl
  unfold Lib.trimB
  rw [hr]; rfl
theorem trim_spec (l : List UInt8) (h : ∀ x ∈ l, x = 0) (hl : l.length ≤ 9223372036854775807) : DoesR Tryz.prog 45 #[.string (str l), .string ⟨#[0]⟩] [] (.string (str [])) :=
  spec_below (Rl := fun v => v = .string (str [])) (fun w _ => (Tryz.strings_Trim_one (str l) 0 (by decide) w (by rw [str_size]; exact hl)).mono (by
    rintro e w' ⟨rfl, h2⟩
    refine ⟨_, rfl, ?_, ?_⟩
    · rw [str_list, trim_zero l h]; rfl
    · rcases h2 with rfl | rfl
      · exact Below.refl _ _
      · exact ⟨rfl, rfl, rfl, Nat.le_refl _, fun _ _ => rfl⟩)) (fun v hv => ⟨hv, rfl⟩)
theorem extract_tail (s : List UInt8) (k : Nat) (h : k ≤ s.length) : (str s).extract k (str s).size = str (s.drop k) := by
  have := extract_str s k (s.length - k)
  rw [str_size, show k + (s.length - k) = s.length by omega] at *
  rw [this, List.take_of_length_le (by rw [List.length_drop]; omega)]
theorem p_slice_drop {P : Program} {env : Env} {d : Option Nat} {ty : TypeId} {pos : String} {af : Array Edge} {g : Option (Nat × Bool)} {t : TypeId} {x lo : Operand} {l : List UInt8} {k : Nat} {lk : IntKind} (hu : P.underlying t = some .string) (hx : ∀ a, ev a env x = .string (str l)) (hl : ∀ a, ev a env lo = .int lk (k : Int)) (h1 : k ≤ l.length) : OpP P ⟨d, .slice t x (some lo) none none, ty, pos, af, g⟩ env [] (.string (str (l.drop k))) := by
  have := p_slice_str_from (P := P) (d := d) (ty := ty) (pos := pos) (af := af) (g := g) hu hx hl (by rw [str_size]; exact h1)
  rw [extract_tail l k h1] at this; exact this

theorem open_clean (dp : Nat) (d : DiskS) (sd : List Chunk) (pa : Addr) (Tx Tg : TypeId) (zx zg : Nat × Nat) (hR : DiskR d dp sd) (hoff : d.off = false) (rs : List (List UInt8)) (h : List UInt8) (sz : Nat) (hl : loadL d.vi (d.vi.length + 1) [] zero32 0 = some (rs, h, sz)) (hz : ∀ x ∈ d.vi.drop sz, x = 0) : Does Tryz.prog 10 #[.pointer (some ⟨dp, 0, none⟩)] [sd, [(4, .cells (kTab.map u32v).toArray Tg zg)], [(0, .cells #[.iface 299 (.pointer (some pa))] Tx zx)]]
      (fun r H' => ∃ v sr jp, h.length = 32 ∧ sz ≤ d.vi.length ∧ rs.length ≤ sz ∧ Row 9 v (rs.map strV) sr ∧ r = .tuple #[.pointer (some ⟨jp, 0, none⟩), .int .i64 0] ∧ H' = [[(jp, .cells #[v, .string (str h), .int .i64 (sz : Int), .pointer (some ⟨dp, 0, none⟩), .bool false] 109 (0, 0))], sr, sd, [(4, .cells (kTab.map u32v).toArray Tg zg)], [(0, .cells #[.iface 299 (.pointer (some pa))] Tx zx)]]) := by
 have hvi : d.vi.length ≤ 4194304 := hR.1.2.2.1
 refine spec_enter func10 rfl ntmps10 rfl ?_
 intro u R
 refine Zb [0] ?_
 refine Zq <| Zg <| Za Y <| Za Y <| Z0 <| Zx <| Zq <| Zq <| Zg <| Zm Y ?_
 first | refine op_v (p_eql_nil_nil underlying26 Y Y) ?_ | refine op_v (p_eql_ptr_nil underlying26 Y Y) ?_
 refine Z0 <| Zx ?_
 refine at_if_bool Y (fun hc1 => ?_) (fun hc1 => ?_)
 ·
  cases hc1
 ·
  refine at_skip <| Zx <| Zq <| Zg <| Zm Y <| Zm Y <| Zr [_] Y call43 Y rfl (disk_size d dp sd hR) ?_
  rintro _ _ ⟨rfl, rfl⟩
  refine Zr [_, _, _] Y call16 Y rfl ((by have h := disk_read d dp sd hR 0 d.vi.length (by omega) (by have := hR.1.2.1; omega); rw [hoff] at h; simp only [Bool.false_eq_true, if_false, List.drop_zero, List.take_length] at h; exact h : DoesR Tryz.prog 16 #[.pointer (some ⟨dp, 0, none⟩), .int .i64 ((0 : Nat) : Int), .int .i64 (d.vi.length : Int)] [sd] (.tuple #[.string (str d.vi), .int .i64 0]))) ?_
  rintro _ _ ⟨rfl, rfl⟩
  refine Zm Y <| Zd Y rfl <| Zd Y rfl <| Za Y <| Za Y <| Z0 <| Zn [0, 4, 5] ?_
  refine Zx <| Zq <| Zq <| Zg <| Zm Y ?_
  first | refine op_v (p_neq_nat (n := 0) Y Y) ?_ | refine op_v (p_neq Y Y) ?_
  refine Z0 <| Zx ?_
  first | refine at_if Y (fun hc2 => ?_) (fun hc2 => ?_) | refine at_if_bool Y (fun hc2 => ?_) (fun hc2 => ?_)
  ·
   exact absurd rfl hc2
  ·
   refine at_skip <| Zx <| Zq <| Zg <| Zm Y <| Zm Y ?_
   refine ops_eff Y (fits_of rfl) rfl (w_call (vs := [_, _]) Y call44 Y rfl ((does_mono (Q' := fun r H' => ∃ v sr jp, h.length = 32 ∧ sz ≤ d.vi.length ∧ rs.length ≤ sz ∧ Row 9 v (rs.map strV) sr ∧ r = .tuple #[.pointer (some ⟨jp, 0, none⟩), .int .i64 0] ∧ H' = [[(jp, .cells #[v, .string (str h), .int .i64 (sz : Int), .pointer (some ⟨dp, 0, none⟩), .bool false] 109 (0, 0))], sr, [(4, .cells (kTab.map u32v).toArray Tg zg)], [(0, .cells #[.iface 299 (.pointer (some pa))] Tx zx)]]) (open_spec dp d.vi pa Tx Tg zx zg hvi) (by
      rintro r H1 (⟨rs2, h2, sz2, v, sr, jp, hl2, g1, g2, g3, g4, rfl, rfl⟩ | ⟨hl2, _⟩)
      · rw [hl] at hl2; injection hl2 with e; injection e with e1 e2; injection e2 with e2 e3; subst e1 e2 e3; exact ⟨_, ⟨v, sr, jp, g1, g2, g3, g4, rfl, rfl⟩, rfl⟩
      · rw [hl] at hl2; cases hl2))) (by repeat (first | exact Pull.nil _ | (apply Pull.cons; (focus (repeat (first | exact One.here _ _ | apply One.there))))))) ?_ no_pan
   rintro _ _ ⟨_, ⟨v, sr, jp, g1, g2, g3, g4, rfl, rfl⟩, rfl⟩
   refine Zm Y <| Zd Y rfl <| Zd Y rfl <| Za Y <| Za Y <| Z0 <| Zx <| Zq <| Zq <| Zg <| Zm Y ?_
   first | refine op_v (p_neq_nat (n := 0) Y Y) ?_ | refine op_v (p_neq Y Y) ?_
   refine Z0 <| Zx ?_
   first | refine at_if Y (fun hc3 => ?_) (fun hc3 => ?_) | refine at_if_bool Y (fun hc3 => ?_) (fun hc3 => ?_)
   ·
    exact absurd rfl hc3
   ·
    refine at_skip <| Zx <| Zq <| Zq <| Zg <| Zm Y <| Zm Y <| Zp Y rfl <| Zh 0 underlying109 rfl rfl sizeOf107 Y <| Zv (p_fieldAddr1 (off := 2) underlying107 rfl rfl sizeOf3 Y) <| Zl isAgg3 Y ?_
    refine op_w (p_slice_drop underlying9 Y Y g2) rfl rfl ?_
    refine Zr [_, _] Y call45 Y rfl (trim_spec _ hz (by rw [List.length_drop]; omega)) ?_
    rintro _ _ ⟨rfl, rfl⟩
    refine Zv (p_neq_str Y Y) <| Z0 <| Zn [0, 4, 5, 6, 36] ?_
    refine Zx ?_
    first | refine at_if Y (fun hc4 => ?_) (fun hc4 => ?_) | refine at_if_bool Y (fun hc4 => ?_) (fun hc4 => ?_)
    ·
     exact absurd rfl hc4
    ·
     refine at_skip <| Zx <| Zq <| Zq <| Zg <| Zm Y ?_
     first | refine op_v (p_neq_nat (n := 0) Y Y) ?_ | refine op_v (p_neq Y Y) ?_
     refine Z0 <| Zx ?_
     first | refine at_if Y (fun hc5 => ?_) (fun hc5 => ?_) | refine at_if_bool Y (fun hc5 => ?_) (fun hc5 => ?_)
     ·
      exact absurd rfl hc5
     ·
      refine at_skip <| Zx <| Zq <| Zg <| Zm Y <| Za Y <| Za Y <| Z0 <| Zx <| at_ret ?_
      refine nx_end2 rfl results10 Y Y (by exact ⟨v, sr, jp, g1, g2, g3, g4, rfl, rfl⟩)

theorem open_damaged (dp : Nat) (d : DiskS) (sd : List Chunk) (pa : Addr) (Tx Tg : TypeId) (zx zg : Nat × Nat) (hR : DiskR d dp sd) (hoff : d.off = false) (hl : loadL d.vi (d.vi.length + 1) [] zero32 0 = none) : DoesR Tryz.prog 10 #[.pointer (some ⟨dp, 0, none⟩)] [sd, [(4, .cells (kTab.map u32v).toArray Tg zg)], [(0, .cells #[.iface 299 (.pointer (some pa))] Tx zx)]] (.tuple #[.pointer none, .int .i64 232]) := by
 have hvi : d.vi.length ≤ 4194304 := hR.1.2.2.1
 refine spec_enter func10 rfl ntmps10 rfl ?_
 intro u R
 refine Zb [0] ?_
 refine Zq <| Zg <| Za Y <| Za Y <| Z0 <| Zx <| Zq <| Zq <| Zg <| Zm Y ?_
 first | refine op_v (p_eql_nil_nil underlying26 Y Y) ?_ | refine op_v (p_eql_ptr_nil underlying26 Y Y) ?_
 refine Z0 <| Zx ?_
 refine at_if_bool Y (fun hc1 => ?_) (fun hc1 => ?_)
 ·
  cases hc1
 ·
  refine at_skip <| Zx <| Zq <| Zg <| Zm Y <| Zm Y <| Zr [_] Y call43 Y rfl (disk_size d dp sd hR) ?_
  rintro _ _ ⟨rfl, rfl⟩
  refine Zr [_, _, _] Y call16 Y rfl ((by have h := disk_read d dp sd hR 0 d.vi.length (by omega) (by have := hR.1.2.1; omega); rw [hoff] at h; simp only [Bool.false_eq_true, if_false, List.drop_zero, List.take_length] at h; exact h : DoesR Tryz.prog 16 #[.pointer (some ⟨dp, 0, none⟩), .int .i64 ((0 : Nat) : Int), .int .i64 (d.vi.length : Int)] [sd] (.tuple #[.string (str d.vi), .int .i64 0]))) ?_
  rintro _ _ ⟨rfl, rfl⟩
  refine Zm Y <| Zd Y rfl <| Zd Y rfl <| Za Y <| Za Y <| Z0 <| Zn [0, 4, 5] ?_
  refine Zx <| Zq <| Zq <| Zg <| Zm Y ?_
  first | refine op_v (p_neq_nat (n := 0) Y Y) ?_ | refine op_v (p_neq Y Y) ?_
  refine Z0 <| Zx ?_
  first | refine at_if Y (fun hc2 => ?_) (fun hc2 => ?_) | refine at_if_bool Y (fun hc2 => ?_) (fun hc2 => ?_)
  ·
   exact absurd rfl hc2
  ·
   refine at_skip <| Zx <| Zq <| Zg <| Zm Y <| Zm Y ?_
   refine ops_eff Y (fits_of rfl) rfl (w_call (vs := [_, _]) Y call44 Y rfl ((does_mono (Q' := fun r H' => r = .tuple #[.pointer none, .int .i64 232] ∧ H' = [[(4, .cells (kTab.map u32v).toArray Tg zg)], [(0, .cells #[.iface 299 (.pointer (some pa))] Tx zx)]]) (open_spec dp d.vi pa Tx Tg zx zg hvi) (by
      rintro r H1 (⟨rs2, h2, sz2, v, sr, jp, hl2, g1, g2, g3, g4, rfl, rfl⟩ | ⟨hl2, rfl, rfl⟩)
      · rw [hl] at hl2; cases hl2
      · exact ⟨_, ⟨rfl, rfl⟩, rfl⟩))) (by repeat (first | exact Pull.nil _ | (apply Pull.cons; (focus (repeat (first | exact One.here _ _ | apply One.there))))))) ?_ no_pan
   rintro _ _ ⟨_, ⟨rfl, rfl⟩, rfl⟩
   refine Zm Y <| Zd Y rfl <| Zd Y rfl <| Za Y <| Za Y <| Z0 <| Zx <| Zq <| Zq <| Zg <| Zm Y ?_
   first | refine op_v (p_neq_nat (n := 0) Y Y) ?_ | refine op_v (p_neq Y Y) ?_
   refine Z0 <| Zx ?_
   first | refine at_if Y (fun hc3 => ?_) (fun hc3 => ?_) | refine at_if_bool Y (fun hc3 => ?_) (fun hc3 => ?_)
   ·
    refine Zq <| Zg <| Zm Y <| Za Y <| Za Y <| Z0 <| Zn [2, 3] ?_
    refine Zx <| at_ret <| Zt ?_
    refine nx_end2 rfl results10 Y Y (by exact ⟨rfl, rfl⟩)
   ·
    exact absurd (by decide) hc3

end Go.Proofs.YthbadolcncojbaaGreatDoor
