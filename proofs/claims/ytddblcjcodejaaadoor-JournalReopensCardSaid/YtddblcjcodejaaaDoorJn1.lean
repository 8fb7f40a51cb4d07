/- Contracts: journal: add, first, writing, Room. -/
import Derived.Test.YtddblcjcodejaaaDoorDk3
namespace Go.Proofs.YtddblcjcodejaaaDoor
open Go Go.RowKit Gw
set_option linter.unusedVariables false
set_option maxRecDepth 100000
attribute [local irreducible] Gw.At Gw.Nx Gw.Ops
theorem new_state (n : Nat) (h1 : 1 ≤ n) (h2 : n ≤ 4194304) : Does Tryd.prog 6 #[.int .i64 (n : Int)] [] (fun r H' => ∃ dp s, r = .tuple #[.pointer (some ⟨dp, 0, none⟩), .int .i64 0] ∧ H' = [s] ∧ DiskR (DiskS.new n) dp s) := by
  refine does_mono (disk_new n h1 h2) ?_
  rintro v _ ⟨dp, bd, bv, rfl, rfl⟩
  have hl : (List.replicate n (0 : UInt8)).length = n := List.length_replicate
  refine ⟨_, ⟨dp, (dp, .cells (dkc false 0 bd bv (List.replicate n (0 : UInt8)).length (.slice none 0 0)) 51 (0, 0)) :: (bd, .cells (byc (List.replicate n 0)) 5 (0, 0)) :: (bv, .cells (byc (List.replicate n 0)) 5 (0, 0)) :: [], rfl, rfl, ⟨?_, ?_, ?_, ?_⟩, bd, bv, .slice none 0 0, [], rowS_nil 2 _, rfl⟩, ?_⟩
  · rfl
  · simp [DiskS.new]; omega
  · simp [DiskS.new]; omega
  · simp [DiskS.new]
  · rw [rep_u8, hl]; rfl
/-- How a record is stored behind the head h. -/
def recS (h r : List UInt8) : List UInt8 := [1] ++ encS r ++ chainS h r
theorem outS_len (v : V8) : (outS v).length = 32 := rfl
theorem sha_len (l : List UInt8) : (sha l).length = 32 := by unfold sha; exact outS_len _
theorem chain_len (h r : List UInt8) : (chainS h r).length = 32 := sha_len _
theorem encS_len (r : List UInt8) (h : r.length ≤ 65536) : (encS r).length ≤ 65545 := by
  unfold encS; rw [List.length_append]; have := encI_len r.length (by omega) (by omega); omega
theorem recS_len (h r : List UInt8) (hr : r.length ≤ 65536) : (recS h r).length = 33 + (encS r).length := by
  unfold recS; simp only [List.length_append, chain_len, List.length_cons, List.length_nil]; omega
theorem p_len_strL {P : Program} {env : Env} {d : Option Nat} {ty : TypeId} {pos : String} {af : Array Edge} {g : Option (Nat × Bool)} {x : Operand} {T : TypeId} {l : List UInt8} (hu : P.underlying T = some .string) (hx : ∀ a, ev a env x = .string (str l)) : OpP P ⟨d, .call ⟨.builtin .len, #[x], #[T]⟩, ty, pos, af, g⟩ env [] (.int .i64 (l.length : Int)) := by
  have := p_len_str (P := P) (d := d) (ty := ty) (pos := pos) (af := af) (g := g) hu hx
  rw [str_size] at this; exact this

theorem add3 (tp sz : Nat) (v : Value) (rs : List (List UInt8)) (sr : List Chunk) (h r : List UInt8) (Tt Tg : TypeId) (zg : Nat × Nat) (hrow : Row 9 v (rs.map strV) sr) (hh : h.length = 32) (hr : r.length ≤ 65536) (hz : sz ≤ 1099511627776) (hn : rs.length ≤ 1073741824) :
    Does Tryd.prog 32 #[.pointer (some ⟨tp, 0, none⟩), .string (str r)] [[(tp, .cells #[v, .string (str h), .int .i64 (sz : Int)] Tt (0, 0))], sr, [(4, .cells (kTab.map u32v).toArray Tg zg)]] (fun res H' => res = .string (str (recS h r)) ∧ ∃ v' sr', Row 9 v' ((rs ++ [r]).map strV) sr' ∧ H' = [[(tp, .cells #[v', .string (str (chainS h r)), .int .i64 ((sz + (recS h r).length : Nat) : Int)] Tt (0, 0))], sr', [(4, .cells (kTab.map u32v).toArray Tg zg)]]) := by
  have hml : maxLen = 9223372036854775807 := rfl
  have hel := encS_len r hr
  have hrl := recS_len h r hr
  obtain ⟨gv, cv, rfl⟩ := hrow.form
  refine spec_enter Tryd.func32 rfl Tryd.ntmps32 rfl ?_
  intro u R
  refine at_slots (env' := [(0, _), (1, _)]) [0, 1] rfl (fun _ => rfl) ?_
  refine at_seq ?_
  refine at_region ?_
  refine op_w (p_assign (fun _ => rfl)) rfl rfl ?_
  refine ops_nil ?_
  refine nx_slots (env' := [(0, _), (1, _)]) [0, 1] rfl (fun _ => rfl) ?_
  refine nx_next ?_
  refine at_seq ?_
  refine at_region ?_
  refine op_w (p_move (fun _ => rfl)) rfl rfl ?_
  refine op_w (p_move (fun _ => rfl)) rfl rfl ?_
  first | refine op_w (p_nilCheck (fun _ => rfl)) rfl rfl ?_ | refine op_w (p_nilCheck_iface (fun _ => rfl)) rfl rfl ?_
  first | refine op_w (p_fieldAddr0 (off := 1) Tryd.underlying56 rfl rfl Tryd.sizeOf9 (fun _ => rfl)) rfl rfl ?_ | refine op_w (p_fieldAddr1 (off := 1) Tryd.underlying56 rfl rfl Tryd.sizeOf9 (fun _ => rfl)) rfl rfl ?_
  refine op_r (by repeat (first | exact Has.here _ | apply Has.there)) (p_load Tryd.isAgg9 (fun _ => rfl) (by rfl)) rfl rfl ?_
  refine op_w (p_move (fun _ => rfl)) rfl rfl ?_
  refine op_e (w_callR (vs := [_, _]) (fun _ => rfl) Tryd.call53 (fun _ => rfl) rfl (chain_spec h r (by omega) _ _) (by repeat (first | exact Pull.nil _ | (apply Pull.cons; (focus (repeat (first | exact One.here _ _ | apply One.there))))))) (fun _ => rfl) rfl rfl ?_
  rintro _ _ ⟨rfl, rfl⟩
  first | refine op_w (p_nilCheck (fun _ => rfl)) rfl rfl ?_ | refine op_w (p_nilCheck_iface (fun _ => rfl)) rfl rfl ?_
  first | refine op_w (p_fieldAddr0 (off := 1) Tryd.underlying56 rfl rfl Tryd.sizeOf9 (fun _ => rfl)) rfl rfl ?_ | refine op_w (p_fieldAddr1 (off := 1) Tryd.underlying56 rfl rfl Tryd.sizeOf9 (fun _ => rfl)) rfl rfl ?_
  refine op_e (w_store Tryd.sizeOf9 (fun _ => rfl) (fun _ => rfl) rfl (by repeat (first | exact Upd.here _ | apply Upd.there)) (by rfl) (by first | decide | exact Nat.le_refl _ | (simp; done) | (simp; omega)) (by exact free_zero _)) (fun _ => rfl) rfl rfl ?_
  rintro _ _ ⟨rfl, rfl⟩
  refine ops_nil ?_
  refine nx_slots (env' := [(0, _), (1, _)]) [0, 1] rfl (fun _ => rfl) ?_
  refine nx_next ?_
  refine at_seq ?_
  refine at_region ?_
  refine op_w (p_move (fun _ => rfl)) rfl rfl ?_
  refine op_w (p_move (fun _ => rfl)) rfl rfl ?_
  first | refine op_w (p_nilCheck (fun _ => rfl)) rfl rfl ?_ | refine op_w (p_nilCheck_iface (fun _ => rfl)) rfl rfl ?_
  first | refine op_w (p_fieldAddr0 (off := 0) Tryd.underlying56 rfl rfl Tryd.sizeOf22 (fun _ => rfl)) rfl rfl ?_ | refine op_w (p_fieldAddr1 (off := 0) Tryd.underlying56 rfl rfl Tryd.sizeOf22 (fun _ => rfl)) rfl rfl ?_
  refine op_r (by repeat (first | exact Has.here _ | apply Has.there)) (p_load Tryd.isAgg22 (fun _ => rfl) (by rfl)) rfl rfl ?_
  refine op_w (p_move (fun _ => rfl)) rfl rfl ?_
  refine op_e (w_buildSlice (vs := [_]) (cs := [_]) Tryd.underlying22 Tryd.sizeOf9 Tryd.zeroValue9 (fun _ => rfl) rfl rfl rfl rfl rfl) (fun _ => rfl) rfl rfl ?_
  rintro _ _ ⟨b1, rfl, rfl⟩
  refine op_e (w_append (by_ := 16) (news := [_]) Tryd.underlying22 (rfl : Tryd.prog.info? 9 = some Tryd.t9) rfl rfl rfl rfl (fun _ => rfl) hrow (fun _ => rfl) (by repeat (first | exact One.here _ _ | apply One.there)) (by repeat (first | exact Has.here _ | apply Has.there)) (by rfl) rfl (by simp [Value.oneCell']) (by decide) (by (rw [List.length_map]; omega)) (by (rw [List.length_map]; omega))) (fun _ => rfl) rfl rfl ?_
  rintro _ _ ⟨sq, hrq, rfl⟩
  obtain ⟨gq, cq, rfl⟩ := hrq.form
  first | refine op_w (p_nilCheck (fun _ => rfl)) rfl rfl ?_ | refine op_w (p_nilCheck_iface (fun _ => rfl)) rfl rfl ?_
  first | refine op_w (p_fieldAddr0 (off := 0) Tryd.underlying56 rfl rfl Tryd.sizeOf22 (fun _ => rfl)) rfl rfl ?_ | refine op_w (p_fieldAddr1 (off := 0) Tryd.underlying56 rfl rfl Tryd.sizeOf22 (fun _ => rfl)) rfl rfl ?_
  refine op_e (w_store Tryd.sizeOf22 (fun _ => rfl) (fun _ => rfl) rfl (by repeat (first | exact Upd.here _ | apply Upd.there)) (by rfl) (by first | decide | exact Nat.le_refl _ | (simp; done) | (simp; omega)) (by exact free_zero _)) (fun _ => rfl) rfl rfl ?_
  rintro _ _ ⟨rfl, rfl⟩
  refine ops_nil ?_
  refine nx_slots (env' := [(0, _), (1, _)]) [0, 1] rfl (fun _ => rfl) ?_
  refine nx_next ?_
  refine at_seq ?_
  refine at_region ?_
  refine op_w (p_move (fun _ => rfl)) rfl rfl ?_
  refine op_e (w_callR (vs := [_]) (fun _ => rfl) Tryd.call54 (fun _ => rfl) rfl (putString_spec r hr) (by repeat (first | exact Pull.nil _ | (apply Pull.cons; (focus (repeat (first | exact One.here _ _ | apply One.there))))))) (fun _ => rfl) rfl rfl ?_
  rintro _ _ ⟨rfl, rfl⟩
  refine op_w (p_move (fun _ => rfl)) rfl rfl ?_
  refine op_w (p_extract (fun _ => rfl) rfl) rfl rfl ?_
  refine op_w (p_extract (fun _ => rfl) rfl) rfl rfl ?_
  refine op_w (p_assign (fun _ => rfl)) rfl rfl ?_
  refine op_w (p_assign (fun _ => rfl)) rfl rfl ?_
  refine ops_nil ?_
  refine nx_slots (env' := [(0, _), (5, _)]) [0, 5] rfl (fun _ => rfl) ?_
  refine nx_next ?_
  refine at_seq ?_
  refine at_draw (n := 10) (0 :: 1 :: 0 :: 7 :: 0 :: 16 :: 48 :: 112 :: 255 :: 511 :: []) 1 (by kernel_rfl) (by kernel_rfl) rfl ?_
  refine lin_w (D' := 4) 2 rfl rfl rfl (p_move (fun _ => rfl)) ?_
  refine lin_w (D' := 20) 4 rfl rfl rfl (p_move (fun _ => rfl)) ?_
  first | refine lin_w (D' := 52) 5 rfl rfl rfl (p_nilCheck (fun _ => rfl)) ?_ | refine lin_w (D' := 52) 5 rfl rfl rfl (p_nilCheck_iface (fun _ => rfl)) ?_
  first | refine lin_w (D' := 116) 6 rfl rfl rfl (p_fieldAddr0 (off := 1) Tryd.underlying56 rfl rfl Tryd.sizeOf9 (fun _ => rfl)) ?_ | refine lin_w (D' := 116) 6 rfl rfl rfl (p_fieldAddr1 (off := 1) Tryd.underlying56 rfl rfl Tryd.sizeOf9 (fun _ => rfl)) ?_
  refine lin_r (D' := 244) 7 rfl rfl rfl (by repeat (first | exact Has.here _ | apply Has.there)) (p_load Tryd.isAgg9 (fun _ => rfl) (by rfl)) ?_
  refine lin_eff (l := [0]) (by kernel_rfl) (by kernel_rfl) ?_
  refine each_cons (m := 0) (D' := 245) (is := [7]) (bs := [true]) (T' := [(7, (_, _))]) rfl rfl rfl rfl (by kernel_rfl) rfl (w_buildSlice (vs := [_]) (cs := [_]) Tryd.underlying38 Tryd.sizeOf5 Tryd.zeroValue5 (fun _ => rfl) rfl rfl rfl rfl rfl) ?hk_1 (fun _ _ h => h.elim) ?hl_1
  case hk_1 =>
    rintro _ _ ⟨b3, rfl, rfl⟩
    refine ⟨keep_cons (by repeat (first | exact Has.here _ | apply Has.there)) (keep_nil), ?_⟩
    refine lin_r (D' := 247) 1 rfl rfl rfl (by repeat (first | exact Has.here _ | apply Has.there)) (p_conv_bytes_str Tryd.underlying38 Tryd.underlying5 Tryd.underlying9 (fun _ => rfl) (by exact (show (_ = List.map u8v [1]) ∧ ([1] : List UInt8).length = _ from ⟨rfl, rfl⟩))) ?_
    (refine lin_w (D' := 255) 3 rfl rfl rfl (p_add_str (fun _ => rfl) (fun _ => rfl) ?_) ?_; (focus (rw [str_size, str_size]; simp only [List.length_cons, List.length_nil]; omega)))
    (refine lin_w (D' := 511) 8 rfl rfl rfl (p_add_str (fun _ => rfl) (fun _ => rfl) ?_) ?_; (focus (rw [str_app, str_size, str_size, List.length_append, chain_len]; simp only [List.length_cons, List.length_nil]; omega)))
    refine lin_w (D' := 1023) 9 rfl rfl rfl (p_assign (fun _ => rfl)) ?_
    refine lin_nil ?_
    refine nx_slots (env' := [(0, _), (7, _)]) [0, 7] rfl (fun _ => rfl) ?_
    refine nx_next ?_
    refine at_seq ?_
    rw [str_app, str_app]
    obtain ⟨out, ho⟩ : ∃ out, out = recS h r := ⟨_, rfl⟩
    have ho2 : [1] ++ encS r ++ chainS h r = out := ho.symm
    rw [ho2]
    rw [← ho] at hrl
    rw [← ho]
    refine at_region ?_
    refine op_w (p_move (fun _ => rfl)) rfl rfl ?_
    first | refine op_w (p_nilCheck (fun _ => rfl)) rfl rfl ?_ | refine op_w (p_nilCheck_iface (fun _ => rfl)) rfl rfl ?_
    first | refine op_w (p_fieldAddr0 (off := 2) Tryd.underlying56 rfl rfl Tryd.sizeOf3 (fun _ => rfl)) rfl rfl ?_ | refine op_w (p_fieldAddr1 (off := 2) Tryd.underlying56 rfl rfl Tryd.sizeOf3 (fun _ => rfl)) rfl rfl ?_
    refine op_r (by repeat (first | exact Has.here _ | apply Has.there)) (p_load Tryd.isAgg3 (fun _ => rfl) (by rfl)) rfl rfl ?_
    refine op_w (p_move (fun _ => rfl)) rfl rfl ?_
    refine op_w (p_len_strL Tryd.underlying9 (fun _ => rfl)) rfl rfl ?_
    first | (refine op_w (p_add_nat (fun _ => rfl) (fun _ => rfl) ?_) rfl rfl ?_; (focus (omega))) | (refine op_w (p_add (fun _ => rfl) (fun _ => rfl) (IntWalk.i64_in _ ?_)) rfl rfl ?_; (focus (omega)))
    first | refine op_w (p_nilCheck (fun _ => rfl)) rfl rfl ?_ | refine op_w (p_nilCheck_iface (fun _ => rfl)) rfl rfl ?_
    first | refine op_w (p_fieldAddr0 (off := 2) Tryd.underlying56 rfl rfl Tryd.sizeOf3 (fun _ => rfl)) rfl rfl ?_ | refine op_w (p_fieldAddr1 (off := 2) Tryd.underlying56 rfl rfl Tryd.sizeOf3 (fun _ => rfl)) rfl rfl ?_
    refine op_e (w_store Tryd.sizeOf3 (fun _ => rfl) (fun _ => rfl) rfl (by repeat (first | exact Upd.here _ | apply Upd.there)) (by rfl) (by first | decide | exact Nat.le_refl _ | (simp; done) | (simp; omega)) (by exact free_zero _)) (fun _ => rfl) rfl rfl ?_
    rintro _ _ ⟨rfl, rfl⟩
    refine ops_nil ?_
    refine nx_slots (env' := [(7, _)]) [7] rfl (fun _ => rfl) ?_
    refine nx_next ?_
    refine at_seq ?_
    refine at_region ?_
    refine op_w (p_move (fun _ => rfl)) rfl rfl ?_
    refine op_w (p_assign (fun _ => rfl)) rfl rfl ?_
    refine ops_nil ?_
    refine nx_slots (env' := [(4, _)]) [4] rfl (fun _ => rfl) ?_
    refine nx_next ?_
    refine at_ret ?_
    refine nx_end1 (H' := _) rfl Tryd.results32 (fun _ => rfl) (by exact ⟨rfl, _, sq, (by rw [List.map_append]; exact hrq), rfl⟩) ?hp_2
    case hp_2 => repeat (first | exact Sub.refl _ | exact Sub.nil _ | refine Sub.cons (by repeat (first | exact One.here _ _ | apply One.there)) ?_ | refine Sub.drop _ ?_)
  case hl_1 =>
    exact each_nil

theorem add5 (tp sz : Nat) (v : Value) (rs : List (List UInt8)) (sr : List Chunk) (h r : List UInt8) (Tt Tg : TypeId) (zg : Nat × Nat) (dv : Value) (br : Bool) (hrow : Row 9 v (rs.map strV) sr) (hh : h.length = 32) (hr : r.length ≤ 65536) (hz : sz ≤ 1099511627776) (hn : rs.length ≤ 1073741824) :
    Does Tryd.prog 32 #[.pointer (some ⟨tp, 0, none⟩), .string (str r)] [[(tp, .cells #[v, .string (str h), .int .i64 (sz : Int), dv, .bool br] Tt (0, 0))], sr, [(4, .cells (kTab.map u32v).toArray Tg zg)]] (fun res H' => res = .string (str (recS h r)) ∧ ∃ v' sr', Row 9 v' ((rs ++ [r]).map strV) sr' ∧ H' = [[(tp, .cells #[v', .string (str (chainS h r)), .int .i64 ((sz + (recS h r).length : Nat) : Int), dv, .bool br] Tt (0, 0))], sr', [(4, .cells (kTab.map u32v).toArray Tg zg)]]) := by
  have hml : maxLen = 9223372036854775807 := rfl
  have hel := encS_len r hr
  have hrl := recS_len h r hr
  obtain ⟨gv, cv, rfl⟩ := hrow.form
  refine spec_enter Tryd.func32 rfl Tryd.ntmps32 rfl ?_
  intro u R
  refine at_slots (env' := [(0, _), (1, _)]) [0, 1] rfl (fun _ => rfl) ?_
  refine at_seq ?_
  refine at_region ?_
  refine op_w (p_assign (fun _ => rfl)) rfl rfl ?_
  refine ops_nil ?_
  refine nx_slots (env' := [(0, _), (1, _)]) [0, 1] rfl (fun _ => rfl) ?_
  refine nx_next ?_
  refine at_seq ?_
  refine at_region ?_
  refine op_w (p_move (fun _ => rfl)) rfl rfl ?_
  refine op_w (p_move (fun _ => rfl)) rfl rfl ?_
  first | refine op_w (p_nilCheck (fun _ => rfl)) rfl rfl ?_ | refine op_w (p_nilCheck_iface (fun _ => rfl)) rfl rfl ?_
  first | refine op_w (p_fieldAddr0 (off := 1) Tryd.underlying56 rfl rfl Tryd.sizeOf9 (fun _ => rfl)) rfl rfl ?_ | refine op_w (p_fieldAddr1 (off := 1) Tryd.underlying56 rfl rfl Tryd.sizeOf9 (fun _ => rfl)) rfl rfl ?_
  refine op_r (by repeat (first | exact Has.here _ | apply Has.there)) (p_load Tryd.isAgg9 (fun _ => rfl) (by rfl)) rfl rfl ?_
  refine op_w (p_move (fun _ => rfl)) rfl rfl ?_
  refine op_e (w_callR (vs := [_, _]) (fun _ => rfl) Tryd.call53 (fun _ => rfl) rfl (chain_spec h r (by omega) _ _) (by repeat (first | exact Pull.nil _ | (apply Pull.cons; (focus (repeat (first | exact One.here _ _ | apply One.there))))))) (fun _ => rfl) rfl rfl ?_
  rintro _ _ ⟨rfl, rfl⟩
  first | refine op_w (p_nilCheck (fun _ => rfl)) rfl rfl ?_ | refine op_w (p_nilCheck_iface (fun _ => rfl)) rfl rfl ?_
  first | refine op_w (p_fieldAddr0 (off := 1) Tryd.underlying56 rfl rfl Tryd.sizeOf9 (fun _ => rfl)) rfl rfl ?_ | refine op_w (p_fieldAddr1 (off := 1) Tryd.underlying56 rfl rfl Tryd.sizeOf9 (fun _ => rfl)) rfl rfl ?_
  refine op_e (w_store Tryd.sizeOf9 (fun _ => rfl) (fun _ => rfl) rfl (by repeat (first | exact Upd.here _ | apply Upd.there)) (by rfl) (by first | decide | exact Nat.le_refl _ | (simp; done) | (simp; omega)) (by exact free_zero _)) (fun _ => rfl) rfl rfl ?_
  rintro _ _ ⟨rfl, rfl⟩
  refine ops_nil ?_
  refine nx_slots (env' := [(0, _), (1, _)]) [0, 1] rfl (fun _ => rfl) ?_
  refine nx_next ?_
  refine at_seq ?_
  refine at_region ?_
  refine op_w (p_move (fun _ => rfl)) rfl rfl ?_
  refine op_w (p_move (fun _ => rfl)) rfl rfl ?_
  first | refine op_w (p_nilCheck (fun _ => rfl)) rfl rfl ?_ | refine op_w (p_nilCheck_iface (fun _ => rfl)) rfl rfl ?_
  first | refine op_w (p_fieldAddr0 (off := 0) Tryd.underlying56 rfl rfl Tryd.sizeOf22 (fun _ => rfl)) rfl rfl ?_ | refine op_w (p_fieldAddr1 (off := 0) Tryd.underlying56 rfl rfl Tryd.sizeOf22 (fun _ => rfl)) rfl rfl ?_
  refine op_r (by repeat (first | exact Has.here _ | apply Has.there)) (p_load Tryd.isAgg22 (fun _ => rfl) (by rfl)) rfl rfl ?_
  refine op_w (p_move (fun _ => rfl)) rfl rfl ?_
  refine op_e (w_buildSlice (vs := [_]) (cs := [_]) Tryd.underlying22 Tryd.sizeOf9 Tryd.zeroValue9 (fun _ => rfl) rfl rfl rfl rfl rfl) (fun _ => rfl) rfl rfl ?_
  rintro _ _ ⟨b1, rfl, rfl⟩
  refine op_e (w_append (by_ := 16) (news := [_]) Tryd.underlying22 (rfl : Tryd.prog.info? 9 = some Tryd.t9) rfl rfl rfl rfl (fun _ => rfl) hrow (fun _ => rfl) (by repeat (first | exact One.here _ _ | apply One.there)) (by repeat (first | exact Has.here _ | apply Has.there)) (by rfl) rfl (by simp [Value.oneCell']) (by decide) (by (rw [List.length_map]; omega)) (by (rw [List.length_map]; omega))) (fun _ => rfl) rfl rfl ?_
  rintro _ _ ⟨sq, hrq, rfl⟩
  obtain ⟨gq, cq, rfl⟩ := hrq.form
  first | refine op_w (p_nilCheck (fun _ => rfl)) rfl rfl ?_ | refine op_w (p_nilCheck_iface (fun _ => rfl)) rfl rfl ?_
  first | refine op_w (p_fieldAddr0 (off := 0) Tryd.underlying56 rfl rfl Tryd.sizeOf22 (fun _ => rfl)) rfl rfl ?_ | refine op_w (p_fieldAddr1 (off := 0) Tryd.underlying56 rfl rfl Tryd.sizeOf22 (fun _ => rfl)) rfl rfl ?_
  refine op_e (w_store Tryd.sizeOf22 (fun _ => rfl) (fun _ => rfl) rfl (by repeat (first | exact Upd.here _ | apply Upd.there)) (by rfl) (by first | decide | exact Nat.le_refl _ | (simp; done) | (simp; omega)) (by exact free_zero _)) (fun _ => rfl) rfl rfl ?_
  rintro _ _ ⟨rfl, rfl⟩
  refine ops_nil ?_
  refine nx_slots (env' := [(0, _), (1, _)]) [0, 1] rfl (fun _ => rfl) ?_
  refine nx_next ?_
  refine at_seq ?_
  refine at_region ?_
  refine op_w (p_move (fun _ => rfl)) rfl rfl ?_
  refine op_e (w_callR (vs := [_]) (fun _ => rfl) Tryd.call54 (fun _ => rfl) rfl (putString_spec r hr) (by repeat (first | exact Pull.nil _ | (apply Pull.cons; (focus (repeat (first | exact One.here _ _ | apply One.there))))))) (fun _ => rfl) rfl rfl ?_
  rintro _ _ ⟨rfl, rfl⟩
  refine op_w (p_move (fun _ => rfl)) rfl rfl ?_
  refine op_w (p_extract (fun _ => rfl) rfl) rfl rfl ?_
  refine op_w (p_extract (fun _ => rfl) rfl) rfl rfl ?_
  refine op_w (p_assign (fun _ => rfl)) rfl rfl ?_
  refine op_w (p_assign (fun _ => rfl)) rfl rfl ?_
  refine ops_nil ?_
  refine nx_slots (env' := [(0, _), (5, _)]) [0, 5] rfl (fun _ => rfl) ?_
  refine nx_next ?_
  refine at_seq ?_
  refine at_draw (n := 10) (0 :: 1 :: 0 :: 7 :: 0 :: 16 :: 48 :: 112 :: 255 :: 511 :: []) 1 (by kernel_rfl) (by kernel_rfl) rfl ?_
  refine lin_w (D' := 4) 2 rfl rfl rfl (p_move (fun _ => rfl)) ?_
  refine lin_w (D' := 20) 4 rfl rfl rfl (p_move (fun _ => rfl)) ?_
  first | refine lin_w (D' := 52) 5 rfl rfl rfl (p_nilCheck (fun _ => rfl)) ?_ | refine lin_w (D' := 52) 5 rfl rfl rfl (p_nilCheck_iface (fun _ => rfl)) ?_
  first | refine lin_w (D' := 116) 6 rfl rfl rfl (p_fieldAddr0 (off := 1) Tryd.underlying56 rfl rfl Tryd.sizeOf9 (fun _ => rfl)) ?_ | refine lin_w (D' := 116) 6 rfl rfl rfl (p_fieldAddr1 (off := 1) Tryd.underlying56 rfl rfl Tryd.sizeOf9 (fun _ => rfl)) ?_
  refine lin_r (D' := 244) 7 rfl rfl rfl (by repeat (first | exact Has.here _ | apply Has.there)) (p_load Tryd.isAgg9 (fun _ => rfl) (by rfl)) ?_
  refine lin_eff (l := [0]) (by kernel_rfl) (by kernel_rfl) ?_
  refine each_cons (m := 0) (D' := 245) (is := [7]) (bs := [true]) (T' := [(7, (_, _))]) rfl rfl rfl rfl (by kernel_rfl) rfl (w_buildSlice (vs := [_]) (cs := [_]) Tryd.underlying38 Tryd.sizeOf5 Tryd.zeroValue5 (fun _ => rfl) rfl rfl rfl rfl rfl) ?hk_1 (fun _ _ h => h.elim) ?hl_1
  case hk_1 =>
    rintro _ _ ⟨b3, rfl, rfl⟩
    refine ⟨keep_cons (by repeat (first | exact Has.here _ | apply Has.there)) (keep_nil), ?_⟩
    refine lin_r (D' := 247) 1 rfl rfl rfl (by repeat (first | exact Has.here _ | apply Has.there)) (p_conv_bytes_str Tryd.underlying38 Tryd.underlying5 Tryd.underlying9 (fun _ => rfl) (by exact (show (_ = List.map u8v [1]) ∧ ([1] : List UInt8).length = _ from ⟨rfl, rfl⟩))) ?_
    (refine lin_w (D' := 255) 3 rfl rfl rfl (p_add_str (fun _ => rfl) (fun _ => rfl) ?_) ?_; (focus (rw [str_size, str_size]; simp only [List.length_cons, List.length_nil]; omega)))
    (refine lin_w (D' := 511) 8 rfl rfl rfl (p_add_str (fun _ => rfl) (fun _ => rfl) ?_) ?_; (focus (rw [str_app, str_size, str_size, List.length_append, chain_len]; simp only [List.length_cons, List.length_nil]; omega)))
    refine lin_w (D' := 1023) 9 rfl rfl rfl (p_assign (fun _ => rfl)) ?_
    refine lin_nil ?_
    refine nx_slots (env' := [(0, _), (7, _)]) [0, 7] rfl (fun _ => rfl) ?_
    refine nx_next ?_
    refine at_seq ?_
    rw [str_app, str_app]
    obtain ⟨out, ho⟩ : ∃ out, out = recS h r := ⟨_, rfl⟩
    have ho2 : [1] ++ encS r ++ chainS h r = out := ho.symm
    rw [ho2]
    rw [← ho] at hrl
    rw [← ho]
    refine at_region ?_
    refine op_w (p_move (fun _ => rfl)) rfl rfl ?_
    first | refine op_w (p_nilCheck (fun _ => rfl)) rfl rfl ?_ | refine op_w (p_nilCheck_iface (fun _ => rfl)) rfl rfl ?_
    first | refine op_w (p_fieldAddr0 (off := 2) Tryd.underlying56 rfl rfl Tryd.sizeOf3 (fun _ => rfl)) rfl rfl ?_ | refine op_w (p_fieldAddr1 (off := 2) Tryd.underlying56 rfl rfl Tryd.sizeOf3 (fun _ => rfl)) rfl rfl ?_
    refine op_r (by repeat (first | exact Has.here _ | apply Has.there)) (p_load Tryd.isAgg3 (fun _ => rfl) (by rfl)) rfl rfl ?_
    refine op_w (p_move (fun _ => rfl)) rfl rfl ?_
    refine op_w (p_len_strL Tryd.underlying9 (fun _ => rfl)) rfl rfl ?_
    first | (refine op_w (p_add_nat (fun _ => rfl) (fun _ => rfl) ?_) rfl rfl ?_; (focus (omega))) | (refine op_w (p_add (fun _ => rfl) (fun _ => rfl) (IntWalk.i64_in _ ?_)) rfl rfl ?_; (focus (omega)))
    first | refine op_w (p_nilCheck (fun _ => rfl)) rfl rfl ?_ | refine op_w (p_nilCheck_iface (fun _ => rfl)) rfl rfl ?_
    first | refine op_w (p_fieldAddr0 (off := 2) Tryd.underlying56 rfl rfl Tryd.sizeOf3 (fun _ => rfl)) rfl rfl ?_ | refine op_w (p_fieldAddr1 (off := 2) Tryd.underlying56 rfl rfl Tryd.sizeOf3 (fun _ => rfl)) rfl rfl ?_
    refine op_e (w_store Tryd.sizeOf3 (fun _ => rfl) (fun _ => rfl) rfl (by repeat (first | exact Upd.here _ | apply Upd.there)) (by rfl) (by first | decide | exact Nat.le_refl _ | (simp; done) | (simp; omega)) (by exact free_zero _)) (fun _ => rfl) rfl rfl ?_
    rintro _ _ ⟨rfl, rfl⟩
    refine ops_nil ?_
    refine nx_slots (env' := [(7, _)]) [7] rfl (fun _ => rfl) ?_
    refine nx_next ?_
    refine at_seq ?_
    refine at_region ?_
    refine op_w (p_move (fun _ => rfl)) rfl rfl ?_
    refine op_w (p_assign (fun _ => rfl)) rfl rfl ?_
    refine ops_nil ?_
    refine nx_slots (env' := [(4, _)]) [4] rfl (fun _ => rfl) ?_
    refine nx_next ?_
    refine at_ret ?_
    refine nx_end1 (H' := _) rfl Tryd.results32 (fun _ => rfl) (by exact ⟨rfl, _, sq, (by rw [List.map_append]; exact hrq), rfl⟩) ?hp_2
    case hp_2 => repeat (first | exact Sub.refl _ | exact Sub.nil _ | refine Sub.cons (by repeat (first | exact One.here _ _ | apply One.there)) ?_ | refine Sub.drop _ ?_)
  case hl_1 =>
    exact each_nil

theorem room_spec (jp sz dp : Nat) (v : Value) (h : List UInt8) (br : Bool) (Tt : TypeId) (d : DiskS) (s : List Chunk) (hR : DiskR d dp s) (hz : sz ≤ 1099511627776) :
    DoesR Tryd.prog 12 #[.pointer (some ⟨jp, 0, none⟩)] [[(jp, .cells #[v, .string (str h), .int .i64 (sz : Int), .pointer (some ⟨dp, 0, none⟩), .bool br] Tt (0, 0))], s] (.int .i64 ((d.vi.length : Int) - (sz : Int))) := by
  have hok := hR.1.2.2.1
  refine spec_enter Tryd.func12 rfl Tryd.ntmps12 rfl ?_
  intro u R
  refine at_slots (env' := [(0, _)]) [0] rfl (fun _ => rfl) ?_
  refine at_seq ?_
  refine at_region ?_
  refine op_w (p_assign (fun _ => rfl)) rfl rfl ?_
  refine ops_nil ?_
  refine nx_slots (env' := [(0, _)]) [0] rfl (fun _ => rfl) ?_
  refine nx_next ?_
  refine at_seq ?_
  refine at_seq ?_
  refine at_region ?_
  refine op_w (p_move (fun _ => rfl)) rfl rfl ?_
  first | refine op_w (p_eql_nil_nil Tryd.underlying29 (fun _ => rfl) (fun _ => rfl)) rfl rfl ?_ | refine op_w (p_eql_ptr_nil Tryd.underlying29 (fun _ => rfl) (fun _ => rfl)) rfl rfl ?_
  refine ops_nil ?_
  refine nx_slots (env' := [(0, _), (4, _)]) [0, 4] rfl (fun _ => rfl) ?_
  refine nx_next ?_
  refine at_if_bool (fun _ => rfl) (fun hc1 => ?_) (fun hc1 => ?_)
  ·
    cases hc1
  ·
    refine at_skip ?_
    refine nx_next ?_
    refine at_seq ?_
    refine at_draw (n := 12) (0 :: 1 :: 3 :: 7 :: 15 :: 0 :: 32 :: 96 :: 224 :: 480 :: 1023 :: 2047 :: []) 16 (by kernel_rfl) (by kernel_rfl) rfl ?_
    refine lin_w (D' := 1) 0 rfl rfl rfl (p_move (fun _ => rfl)) ?_
    first | refine lin_w (D' := 3) 1 rfl rfl rfl (p_nilCheck (fun _ => rfl)) ?_ | refine lin_w (D' := 3) 1 rfl rfl rfl (p_nilCheck_iface (fun _ => rfl)) ?_
    first | refine lin_w (D' := 7) 2 rfl rfl rfl (p_fieldAddr0 (off := 3) Tryd.underlying58 rfl rfl Tryd.sizeOf24 (fun _ => rfl)) ?_ | refine lin_w (D' := 7) 2 rfl rfl rfl (p_fieldAddr1 (off := 3) Tryd.underlying58 rfl rfl Tryd.sizeOf24 (fun _ => rfl)) ?_
    refine lin_r (D' := 15) 3 rfl rfl rfl (by repeat (first | exact Has.here _ | apply Has.there)) (p_load Tryd.isAgg24 (fun _ => rfl) (by rfl)) ?_
    refine lin_w (D' := 47) 5 rfl rfl rfl (p_move (fun _ => rfl)) ?_
    first | refine lin_w (D' := 111) 6 rfl rfl rfl (p_nilCheck (fun _ => rfl)) ?_ | refine lin_w (D' := 111) 6 rfl rfl rfl (p_nilCheck_iface (fun _ => rfl)) ?_
    first | refine lin_w (D' := 239) 7 rfl rfl rfl (p_fieldAddr0 (off := 0) Tryd.underlying58 rfl rfl Tryd.sizeOf56 (fun _ => rfl)) ?_ | refine lin_w (D' := 239) 7 rfl rfl rfl (p_fieldAddr1 (off := 0) Tryd.underlying58 rfl rfl Tryd.sizeOf56 (fun _ => rfl)) ?_
    first | refine lin_w (D' := 495) 8 rfl rfl rfl (p_fieldAddr0 (off := 2) Tryd.underlying56 rfl rfl Tryd.sizeOf3 (fun _ => rfl)) ?_ | refine lin_w (D' := 495) 8 rfl rfl rfl (p_fieldAddr1 (off := 2) Tryd.underlying56 rfl rfl Tryd.sizeOf3 (fun _ => rfl)) ?_
    refine lin_r (D' := 1007) 9 rfl rfl rfl (by repeat (first | exact Has.here _ | apply Has.there)) (p_load Tryd.isAgg3 (fun _ => rfl) (by rfl)) ?_
    refine lin_eff (l := [4]) (by kernel_rfl) (by kernel_rfl) ?_
    refine each_cons (m := 15) (D' := 1023) (is := [9, 3]) (bs := [true, false]) (T' := [(9, (_, _))]) rfl rfl rfl rfl (by kernel_rfl) rfl (w_callR (vs := [_]) (fun _ => rfl) Tryd.call21 (fun _ => rfl) rfl (disk_size d dp s hR) (by repeat (first | exact Pull.nil _ | (apply Pull.cons; (focus (repeat (first | exact One.here _ _ | apply One.there))))))) ?hk_1 (fun _ _ h => h.elim) ?hl_1
    case hk_1 =>
      rintro _ _ ⟨rfl, rfl⟩
      refine ⟨keep_cons (by repeat (first | exact Has.here _ | apply Has.there)) (keep_nil), ?_⟩
      refine lin_w (D' := 2047) 10 rfl rfl rfl (p_sub (fun _ => rfl) (fun _ => rfl) (IntWalk.i64_in _ (by omega))) ?_
      refine lin_w (D' := 4095) 11 rfl rfl rfl (p_assign (fun _ => rfl)) ?_
      refine lin_nil ?_
      refine nx_slots (env' := [(2, _)]) [2] rfl (fun _ => rfl) ?_
      refine nx_next ?_
      refine at_ret ?_
      refine nx_end1 (H' := _) rfl Tryd.results12 (fun _ => rfl) (by exact ⟨rfl, rfl⟩) ?hp_2
      case hp_2 => repeat (first | exact Sub.refl _ | exact Sub.nil _ | refine Sub.cons (by repeat (first | exact One.here _ _ | apply One.there)) ?_ | refine Sub.drop _ ?_)
    case hl_1 =>
      exact each_nil

theorem long_spec (s : List UInt8) : DoesR Tryd.prog 28 #[.string (str s)] [] (.bool (decide (s.length > 65536))) := by
  have hss := str_size s
  refine spec_enter Tryd.func28 rfl Tryd.ntmps28 rfl ?_
  intro u R
  refine at_slots (env' := [(0, _)]) [0] rfl (fun _ => rfl) ?_
  refine at_seq ?_
  refine at_region ?_
  refine op_w (p_assign (fun _ => rfl)) rfl rfl ?_
  refine ops_nil ?_
  refine nx_slots (env' := [(0, _)]) [0] rfl (fun _ => rfl) ?_
  refine nx_next ?_
  refine at_seq ?_
  refine at_region ?_
  refine op_w (p_move (fun _ => rfl)) rfl rfl ?_
  refine op_w (p_len_str Tryd.underlying9 (fun _ => rfl)) rfl rfl ?_
  first | refine op_w (p_gtr_nat (n := 65536) (fun _ => rfl) (fun _ => rfl)) rfl rfl ?_ | refine op_w (p_gtr (fun _ => rfl) (fun _ => rfl)) rfl rfl ?_
  refine op_w (p_assign (fun _ => rfl)) rfl rfl ?_
  refine ops_nil ?_
  refine nx_slots (env' := [(2, _)]) [2] rfl (fun _ => rfl) ?_
  refine nx_next ?_
  refine at_ret ?_
  refine nx_end1 (H' := _) rfl Tryd.results28 (fun _ => rfl) (by exact ⟨by rw [hss], rfl⟩) ?hp_1
  case hp_1 => repeat (first | exact Sub.refl _ | exact Sub.nil _ | refine Sub.cons (by repeat (first | exact One.here _ _ | apply One.there)) ?_ | refine Sub.drop _ ?_)

theorem writing_spec (p : Option Addr) (o : Int) (s : ByteArray) : Does Tryd.prog 25 #[.pointer p, .int .i64 o, .string s] [] (fun r H' => ∃ b1 b2 b3, r = .func (.func 48) #[] #[.pointer (some ⟨b1, 0, none⟩), .pointer (some ⟨b2, 0, none⟩), .pointer (some ⟨b3, 0, none⟩)] ∧
      H' = [[(b1, .cells #[.pointer p] 29 (0, 0))], [(b2, .cells #[.int .i64 o] 3 (0, 0))], [(b3, .cells #[.string s] 9 (0, 0))]]) := by
  refine spec_enter Tryd.func25 rfl Tryd.ntmps25 rfl ?_
  intro u R
  refine at_slots (env' := [(0, _), (1, _), (2, _)]) [0, 1, 2] rfl (fun _ => rfl) ?_
  refine at_seq ?_
  refine at_region ?_
  refine op_e (w_box (fun _ => rfl) (cs := #[_]) rfl) (fun _ => rfl) rfl rfl ?_
  rintro _ _ ⟨b1, rfl, rfl⟩
  refine op_e (w_box (fun _ => rfl) (cs := #[_]) rfl) (fun _ => rfl) rfl rfl ?_
  rintro _ _ ⟨b2, rfl, rfl⟩
  refine op_e (w_box (fun _ => rfl) (cs := #[_]) rfl) (fun _ => rfl) rfl rfl ?_
  rintro _ _ ⟨b3, rfl, rfl⟩
  refine op_w (p_assign (fun _ => rfl)) rfl rfl ?_
  refine ops_nil ?_
  refine nx_slots (env' := [(3, _), (4, _), (5, _)]) [3, 4, 5] rfl (fun _ => rfl) ?_
  refine nx_next ?_
  refine at_seq ?_
  refine at_region ?_
  refine op_w (p_makeFunc (vs := []) (us := [_, _, _]) (fun _ => rfl) (fun _ => rfl)) rfl rfl ?_
  refine op_w (p_assign (fun _ => rfl)) rfl rfl ?_
  refine ops_nil ?_
  refine nx_slots (env' := [(6, _)]) [6] rfl (fun _ => rfl) ?_
  refine nx_next ?_
  refine at_ret ?_
  refine nx_end1 (H' := _) rfl Tryd.results25 (fun _ => rfl) (by exact ⟨_, _, _, rfl, rfl⟩) ?hp_1
  case hp_1 => repeat (first | exact Sub.refl _ | exact Sub.nil _ | refine Sub.cons (by repeat (first | exact One.here _ _ | apply One.there)) ?_ | refine Sub.drop _ ?_)

theorem writing_in (b1 b2 b3 jp dp : Nat) (T1 T2 T3 : TypeId) (v hv zv bv : Value) (Tt : TypeId) (o : Int) (s : ByteArray) (sd : List Chunk) (Q : Value → List Chunk → Prop)
    (hW : Does Tryd.prog 19 #[.pointer (some ⟨dp, 0, none⟩), .int .i64 o, .string s] [sd] (fun r H' => ∃ s', H' = [s'] ∧ Q r s')) :
    Does Tryd.prog 48 #[.pointer (some ⟨b1, 0, none⟩), .pointer (some ⟨b2, 0, none⟩), .pointer (some ⟨b3, 0, none⟩)] [[(b1, .cells #[.pointer (some ⟨jp, 0, none⟩)] T1 (0, 0))], [(b2, .cells #[.int .i64 o] T2 (0, 0))], [(b3, .cells #[.string s] T3 (0, 0))], [(jp, .cells #[v, hv, zv, .pointer (some ⟨dp, 0, none⟩), bv] Tt (0, 0))], sd]
      (fun r H' => ∃ s', Q r s' ∧ H' = [[(b1, .cells #[.pointer (some ⟨jp, 0, none⟩)] T1 (0, 0))], [(b2, .cells #[.int .i64 o] T2 (0, 0))], [(b3, .cells #[.string s] T3 (0, 0))], [(jp, .cells #[v, hv, zv, .pointer (some ⟨dp, 0, none⟩), bv] Tt (0, 0))], s']) := by
  refine spec_enter Tryd.func48 rfl Tryd.ntmps48 rfl ?_
  intro u R
  refine at_slots (env' := [(0, _), (1, _), (2, _)]) [0, 1, 2] rfl (fun _ => rfl) ?_
  refine at_seq ?_
  refine at_region ?_
  refine op_w (p_assign (fun _ => rfl)) rfl rfl ?_
  refine ops_nil ?_
  refine nx_slots (env' := [(0, _), (1, _), (2, _)]) [0, 1, 2] rfl (fun _ => rfl) ?_
  refine nx_next ?_
  refine at_seq ?_
  refine at_draw (n := 8) (0 :: 1 :: 3 :: 7 :: 0 :: 0 :: 63 :: 127 :: []) 64 (by kernel_rfl) (by kernel_rfl) rfl ?_
  refine lin_r (D' := 1) 0 rfl rfl rfl (by repeat (first | exact Has.here _ | apply Has.there)) (p_load Tryd.isAgg29 (fun _ => rfl) (by rfl)) ?_
  first | refine lin_w (D' := 3) 1 rfl rfl rfl (p_nilCheck (fun _ => rfl)) ?_ | refine lin_w (D' := 3) 1 rfl rfl rfl (p_nilCheck_iface (fun _ => rfl)) ?_
  first | refine lin_w (D' := 7) 2 rfl rfl rfl (p_fieldAddr0 (off := 3) Tryd.underlying58 rfl rfl Tryd.sizeOf24 (fun _ => rfl)) ?_ | refine lin_w (D' := 7) 2 rfl rfl rfl (p_fieldAddr1 (off := 3) Tryd.underlying58 rfl rfl Tryd.sizeOf24 (fun _ => rfl)) ?_
  refine lin_r (D' := 15) 3 rfl rfl rfl (by repeat (first | exact Has.here _ | apply Has.there)) (p_load Tryd.isAgg24 (fun _ => rfl) (by rfl)) ?_
  refine lin_r (D' := 31) 4 rfl rfl rfl (by repeat (first | exact Has.here _ | apply Has.there)) (p_load Tryd.isAgg3 (fun _ => rfl) (by rfl)) ?_
  refine lin_r (D' := 63) 5 rfl rfl rfl (by repeat (first | exact Has.here _ | apply Has.there)) (p_load Tryd.isAgg9 (fun _ => rfl) (by rfl)) ?_
  refine lin_eff (l := [6]) (by kernel_rfl) (by kernel_rfl) ?_
  refine each_cons (m := 63) (D' := 127) (is := [5, 4, 3, 0]) (bs := [false, false, false, false]) (T' := []) rfl rfl rfl rfl (by kernel_rfl) rfl (w_call (vs := [_, _, _]) (fun _ => rfl) Tryd.call19 (fun _ => rfl) rfl (hW) (by repeat (first | exact Pull.nil _ | (apply Pull.cons; (focus (repeat (first | exact One.here _ _ | apply One.there))))))) ?hk_1 no_pan ?hl_1
  case hk_1 =>
    rintro _ _ ⟨_, ⟨s', rfl, hq⟩, rfl⟩
    refine ⟨keep_nil, ?_⟩
    refine lin_w (D' := 255) 7 rfl rfl rfl (p_assign (fun _ => rfl)) ?_
    refine lin_nil ?_
    refine nx_slots (env' := [(3, _)]) [3] rfl (fun _ => rfl) ?_
    refine nx_next ?_
    refine at_ret ?_
    refine nx_end1 (H' := _) rfl Tryd.results48 (fun _ => rfl) (by exact ⟨s', hq, rfl⟩) ?hp_2
    case hp_2 => repeat (first | exact Sub.refl _ | exact Sub.nil _ | refine Sub.cons (by repeat (first | exact One.here _ _ | apply One.there)) ?_ | refine Sub.drop _ ?_)
  case hl_1 =>
    exact each_nil

end Go.Proofs.YtddblcjcodejaaaDoor
