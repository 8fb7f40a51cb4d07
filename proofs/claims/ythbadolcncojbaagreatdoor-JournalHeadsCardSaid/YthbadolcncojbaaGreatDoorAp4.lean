/- Contract: journal.Append where it refuses, and at a nil list. -/
import Derived.Test.YthbadolcncojbaaGreatDoorEz
import Derived.Test.YthbadolcncojbaaGreatDoorAp3
namespace Go.Proofs.YthbadolcncojbaaGreatDoor
open Go.Proofs.Tryz
open Go Go.RowKit Gw
set_option linter.unusedVariables false
set_option linter.unusedSimpArgs false
set_option maxRecDepth 100000
attribute [local irreducible] Gw.At Gw.Nx Gw.Ops
theorem append_none (jp dp sz : Nat) (v : Value) (rs : List (List UInt8)) (sr sd : List Chunk) (h : List UInt8) (d : DiskS) (Tt : TypeId) (hrow : Row 9 v (rs.map strV) sr) (hz : sz ≤ d.vi.length) (hn : rs.length ≤ 4194304) (hR : DiskR d dp sd) :
    DoesR Tryz.prog 13 #[.pointer (some ⟨jp, 0, none⟩), .slice none 0 0] [[(jp, .cells #[v, .string (str h), .int .i64 (sz : Int), .pointer (some ⟨dp, 0, none⟩), .bool false] Tt (0, 0))], sr, sd] (.int .i64 0) := by
 have hvi : d.vi.length ≤ 4194304 := hR.1.2.2.1
 obtain ⟨gv, cv, rfl⟩ := hrow.form
 refine spec_enter func13 rfl ntmps13 rfl ?_
 intro u R
 refine Zb [0, 1] ?_
 refine Zq <| Zg <| Za Y <| Z0 <| Zx <| Zq <| Zq <| Zg <| Zm Y ?_
 first | refine op_v (p_eql_nil_nil underlying30 Y Y) ?_ | refine op_v (p_eql_ptr_nil underlying30 Y Y) ?_
 refine Z0 <| Zx ?_
 refine at_if_bool Y (fun hc1 => ?_) (fun hc1 => ?_)
 ·
  cases hc1
 ·
  refine at_skip <| Zx <| Zq <| Zg <| Za Y <| Z0 <| Zx <| Zq <| Zq <| Zg <| Zm Y <| Zp Y rfl <| Zh 4 underlying109 rfl rfl sizeOf4 Y <| Zl isAgg4 Y ?_
  refine Zm Y ?_
  refine ops_split_bool (t := 18) Y rfl (fun hb => ?_) (fun hb => ?_)
  ·
   cases hb
  ·
   refine Zf Y Y <| Zf Y Y <| Zr [_, _] Y call54 Y rfl (contains_none _) ?_
   rintro _ _ ⟨rfl, rfl⟩
   refine Zv (p_pick_f Y Y) <| Z0 <| Zn [0, 1, 22] ?_
   refine Zx ?_
   refine at_if_bool Y (fun hl => ?_) (fun hl => ?_)
   ·
    cases hl
   ·
    refine at_skip <| Zx <| Zq <| Zg <| Zm Y <| Zp Y rfl <| Zh 0 underlying109 rfl rfl sizeOf107 Y <| Zo (by repeat (first | exact Has.here _ | apply Has.there)) (p_load_agg (cs := #[_, _, _]) isAgg107 sizeOf107 Y (by first | decide | exact Nat.le_refl _ | (simp; done) | (simp; omega)) (by rfl)) ?_
    refine Ze (w_alloc zeroValue107 (cs := #[_, _, _]) rfl) ?_
    rintro _ _ ⟨nx, rfl, rfl⟩
    refine Ze (w_store_agg sizeOf107 Y Y (by first | (simp [Value.oneCell']; done) | (simp [Value.oneCell', Value.cells]; done)) (by repeat (first | exact Upd.here _ | apply Upd.there)) (by exact (rfl : _ = (#[.slice gv _ cv, .string (str h), .int .i64 (sz : Int)] : Array Value))) (by first | rfl | (simp; done)) (by first | decide | exact Nat.le_refl _ | (simp; done) | (simp; omega)) (by exact free_zero _)) ?_
    rintro _ _ ⟨rfl, rfl⟩
    refine Z0 <| Zx <| Zq <| Zg <| Zh 0 underlying107 rfl rfl sizeOf43 Y <| Zl isAgg43 Y ?_
    refine Zc [_] Y call55 Y rfl (clone_spec _ rs sr hrow (by omega)) ?_
    rintro _ _ ⟨_, ⟨srn, hrn, rfl⟩, rfl⟩
    obtain ⟨gn, cn, rfl⟩ := hrn.form
    refine Zh 0 underlying107 rfl rfl sizeOf43 Y <| Ze (Zs sizeOf43 Y Y rfl) ?_
    rintro _ _ ⟨rfl, rfl⟩
    refine Z0 <| Zx <| Zq <| Zg <| Ze (w_alloc zeroValue123 (cs := #[_, _]) rfl) ?_
    rintro _ _ ⟨bo, rfl, rfl⟩
    refine Z0 <| Zx <| Zq <| Zq <| Zg <| Zm Y <| Zv (p_len_slice underlying43 Y) <| Zm Y <| Z0 <| Zn [0, 6, 7, 31, 32, 33] ?_
    refine Zx <| at_block <| Zb [33, 0, 6, 7, 31, 32] ?_
    refine at_loopB (e0 := [(33, _)]) (H0 := _) (n := _) (fun m e H => ∃ (i : Nat), m = 0 + i ∧ (True) ∧ e = [(33, .int .i64 (i : Int))] ∧ H = []) (by exact ⟨0, rfl, trivial, rfl, rfl⟩) (by repeat (first | exact Pull.nil _ | (apply Pull.cons; (focus (repeat (first | exact One.here _ _ | apply One.there)))))) ?_
    rintro _ _ _ ⟨i, rfl, _, rfl, rfl⟩
    refine Zq <| Zg ?_
    first | refine op_v (p_lss_nat Y Y) ?_ | refine op_v (p_lss Y Y) ?_
    refine Z0 <| Zx <| Zq ?_
    first | refine at_if Y (fun hlt => ?_) (fun hlt => ?_) | refine at_if_bool Y (fun hlt => ?_) (fun hlt => ?_)
    ·
     exfalso; omega
    ·
     refine at_exit <| Zt <| Zt <| nx_block_exit <| Zx <| Zq <| Zg <| Zc [_] Y call58 Y rfl (builderString_none bo _) ?_
     rintro _ _ ⟨_, ⟨rfl, rfl⟩, rfl⟩
     refine Za Y <| Z0 <| Zx <| Zq <| at_block <| Zq <| Zg <| Zm Y <| op_w (p_len_strL underlying9 Y) rfl rfl ?_
     refine Zm Y <| Zr [_] Y call17 Y rfl (room_spec jp sz dp _ h false Tt d sd hR (by omega)) ?_
     rintro _ _ ⟨rfl, rfl⟩
     first | refine op_v (p_gtr_nat Y Y) ?_ | refine op_v (p_gtr Y Y) ?_
     refine Za Y <| Z0 <| Zx ?_
     first | refine at_if Y (fun hroom => ?_) (fun hroom => ?_) | refine at_if_bool Y (fun hroom => ?_) (fun hroom => ?_)
     ·
      exfalso; simp only [List.length_nil] at hroom; omega
     ·
      refine Zq <| Zg <| Zm Y <| Zv (p_eql_str Y Y) <| Za Y <| Z0 <| Zx ?_
      first | refine at_if Y (fun hemp => ?_) (fun hemp => ?_) | refine at_if_bool Y (fun hemp => ?_) (fun hemp => ?_)
      ·
       refine Zq <| Zg <| Za Y <| Z0 <| Zn [4] ?_
       refine Zx <| at_ret <| nx_block_ret <| Zt ?_
       refine nx_end1 rfl results13 Y (by exact ⟨rfl, rfl⟩)
      ·
       exact absurd rfl hemp

end Go.Proofs.YthbadolcncojbaaGreatDoor
