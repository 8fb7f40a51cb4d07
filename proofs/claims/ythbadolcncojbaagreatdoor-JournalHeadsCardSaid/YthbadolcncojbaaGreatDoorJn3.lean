/- Contracts: journal: add, first, writing, Room. Contracts: journal.first, Records. Contracts: journal.check, load. -/
import Derived.Test.YthbadolcncojbaaGreatDoorEz
import Derived.Test.YthbadolcncojbaaGreatDoorDk3
namespace Go.Proofs.YthbadolcncojbaaGreatDoor
open Go.Proofs.Tryz
open Go Go.RowKit Gw
set_option linter.unusedVariables false
set_option linter.unusedSimpArgs false
set_option maxRecDepth 100000
attribute [local irreducible] Gw.At Gw.Nx Gw.Ops
theorem new_state (n : Nat) (h1 : 1 ≤ n) (h2 : n ≤ 4194304) : Does Tryz.prog 9 #[.int .i64 (n : Int)] [] (fun r H' => ∃ dp s, r = .tuple #[.pointer (some ⟨dp, 0, none⟩), .int .i64 0] ∧ H' = [s] ∧ DiskR (DiskS.new n) dp s) := by
  refine does_mono (disk_new n h1 h2) ?_
  rintro v _ ⟨dp, bd, bv, rfl, rfl⟩
  have hl : (List.replicate n (0 : UInt8)).length = n := List.length_replicate
  refine ⟨_, ⟨dp, (dp, .cells (dkc false 0 bd bv (List.replicate n (0 : UInt8)).length (.slice none 0 0)) 103 (0, 0)) :: (bd, .cells (byc (List.replicate n 0)) 5 (0, 0)) :: (bv, .cells (byc (List.replicate n 0)) 5 (0, 0)) :: [], rfl, rfl, ⟨?_, ?_, ?_, ?_⟩, bd, bv, .slice none 0 0, [], rowS_nil 2 _, rfl⟩, ?_⟩
  · rfl
  · simp [DiskS.new]; omega
  · simp [DiskS.new]; omega
  · simp [DiskS.new]
  · rw [rep_u8, hl]; rfl
/-- How a record is stored behind the head h. -/
def recS (h r : List UInt8) : List UInt8 := [1] ++ encS r ++ chainS h r
theorem outS_len (v : V8) : (outS v).length = 32 := rfl
theorem sha_len (l : List UInt8) : (sha l).length = 32 := by unfold sha; exact outS_len _
theorem chain_len (h r : List UInt8) : (chainS h r).length = 32 := sha_len _
theorem encS_len (r : List UInt8) (h : r.length ≤ 65536) : (encS r).length ≤ 65545 := by
  unfold encS; rw [List.length_append]; have := encI_len r.length (by omega) (by omega); omega
theorem recS_len (h r : List UInt8) (hr : r.length ≤ 65536) : (recS h r).length = 33 + (encS r).length := by
  unfold recS; simp only [List.length_append, chain_len, List.length_cons, List.length_nil]; omega
theorem p_len_strL {P : Program} {env : Env} {d : Option Nat} {ty : TypeId} {pos : String} {af : Array Edge} {g : Option (Nat × Bool)} {x : Operand} {T : TypeId} {l : List UInt8} (hu : P.underlying T = some .string) (hx : ∀ a, ev a env x = .string (str l)) : OpP P ⟨d, .call ⟨.builtin .len, #[x], #[T]⟩, ty, pos, af, g⟩ env [] (.int .i64 (l.length : Int)) := by
  have := p_len_str (P := P) (d := d) (ty := ty) (pos := pos) (af := af) (g := g) hu hx
  rw [str_size] at this; exact this

theorem add3 (tp sz : Nat) (v : Value) (rs : List (List UInt8)) (sr : List Chunk) (h r : List UInt8) (Tt Tg : TypeId) (zg : Nat × Nat) (hrow : Row 9 v (rs.map strV) sr) (hh : h.length = 32) (hr : r.length ≤ 65536) (hz : sz ≤ 1099511627776) (hn : rs.length ≤ 1073741824) :
    Does Tryz.prog 57 #[.pointer (some ⟨tp, 0, none⟩), .string (str r)] [[(tp, .cells #[v, .string (str h), .int .i64 (sz : Int)] Tt (0, 0))], sr, [(4, .cells (kTab.map u32v).toArray Tg zg)]] (fun res H' => res = .string (str (recS h r)) ∧ ∃ v' sr', Row 9 v' ((rs ++ [r]).map strV) sr' ∧ H' = [[(tp, .cells #[v', .string (str (chainS h r)), .int .i64 ((sz + (recS h r).length : Nat) : Int)] Tt (0, 0))], sr', [(4, .cells (kTab.map u32v).toArray Tg zg)]]) := by
 have hml : maxLen = 9223372036854775807 := rfl
 have hel := encS_len r hr
 have hrl := recS_len h r hr
 obtain ⟨gv, cv, rfl⟩ := hrow.form
 refine spec_enter func57 rfl ntmps57 rfl ?_
 intro u R
 refine Zb [0, 1] ?_
 refine Zq <| Zg <| Za Y <| Z0 <| Zx <| Zq <| Zg <| Zm Y <| Zm Y <| Zp Y rfl <| Zh 1 underlying107 rfl rfl sizeOf9 Y <| Zl isAgg9 Y ?_
 refine Zm Y <| Zr [_, _] Y call110 Y rfl (chain_spec h r (by omega) _ _) ?_
 rintro _ _ ⟨rfl, rfl⟩
 refine Zp Y rfl <| Zh 1 underlying107 rfl rfl sizeOf9 Y <| Ze (Zs sizeOf9 Y Y rfl) ?_
 rintro _ _ ⟨rfl, rfl⟩
 refine Z0 <| Zx <| Zq <| Zg <| Zm Y <| Zm Y <| Zp Y rfl <| Zh 0 underlying107 rfl rfl sizeOf43 Y <| Zl isAgg43 Y ?_
 refine Zm Y <| Ze (w_buildSlice (vs := [_]) (cs := [_]) underlying43 sizeOf9 zeroValue9 Y rfl rfl rfl rfl rfl) ?_
 rintro _ _ ⟨b1, rfl, rfl⟩
 refine Ze (w_append (by_ := 16) (news := [_]) underlying43 (rfl : Tryz.prog.info? 9 = some Tryz.t9) rfl rfl rfl rfl Y hrow Y (by repeat (first | exact One.here _ _ | apply One.there)) (by repeat (first | exact Has.here _ | apply Has.there)) (by rfl) rfl (by simp [Value.oneCell']) (by decide) (by (rw [List.length_map]; omega)) (by (rw [List.length_map]; omega))) ?_
 rintro _ _ ⟨sq, hrq, rfl⟩
 obtain ⟨gq, cq, rfl⟩ := hrq.form
 refine Zp Y rfl <| Zh 0 underlying107 rfl rfl sizeOf43 Y <| Ze (Zs sizeOf43 Y Y rfl) ?_
 rintro _ _ ⟨rfl, rfl⟩
 refine Z0 <| Zn [0, 1] ?_
 refine Zx <| Zq <| Zg <| Zm Y <| Zr [_] Y call111 Y rfl (putString_spec r hr) ?_
 rintro _ _ ⟨rfl, rfl⟩
 refine Zm Y <| Zd Y rfl <| Zd Y rfl <| Za Y <| Za Y <| Z0 <| Zx <| Zq <| at_draw (n := 10) (0 :: 1 :: 0 :: 7 :: 0 :: 16 :: 48 :: 112 :: 255 :: 511 :: []) 1 (by kernel_rfl) (by kernel_rfl) rfl ?_
 refine Zi 4 2 rfl (p_move Y) <| Zi 20 4 rfl (p_move Y) <| Zi 52 5 rfl (p_nilChk Y rfl) <| Zi 116 6 rfl (p_fieldAddr0 (off := 1) underlying107 rfl rfl sizeOf9 Y) <| Zj 244 7 rfl isAgg9 Y ?_
 refine Zz (l := [0]) ?_
 refine Zy 0 245 [7] [true] [(7, (_, _))] rfl Y rfl rfl rfl rfl (w_buildSlice (vs := [_]) (cs := [_]) underlying36 sizeOf5 zeroValue5 Y rfl rfl rfl rfl rfl) ?hk_1 (fun _ _ h => h.elim) ?hl_1
 case hk_1 =>
  rintro _ _ ⟨b3, rfl, rfl⟩
  refine ⟨Zk (keep_nil), ?_⟩
  refine lin_r (D' := 247) 1 rfl rfl rfl (by repeat (first | exact Has.here _ | apply Has.there)) (p_conv_bytes_str underlying36 underlying5 underlying9 Y (by exact (show (_ = List.map u8v [1]) ∧ ([1] : List UInt8).length = _ from ⟨rfl, rfl⟩))) ?_
  (refine lin_v (D' := 255) 3 (p_add_str Y Y ?_) ?_; (focus (rw [str_size, str_size]; simp only [List.length_cons, List.length_nil]; omega)))
  (refine lin_v (D' := 511) 8 (p_add_str Y Y ?_) ?_; (focus (rw [str_app, str_size, str_size, List.length_append, chain_len]; simp only [List.length_cons, List.length_nil]; omega)))
  refine Zi 1023 9 rfl (p_assign Y) <| lin_nil ?_
  refine Zn [0, 7] ?_
  refine Zx <| Zq ?_
  rw [str_app, str_app]
  obtain ⟨out, ho⟩ : ∃ out, out = recS h r := ⟨_, rfl⟩
  have ho2 : [1] ++ encS r ++ chainS h r = out := ho.symm
  rw [ho2]
  rw [← ho] at hrl
  rw [← ho]
  refine Zg <| Zm Y <| Zp Y rfl <| Zh 2 underlying107 rfl rfl sizeOf3 Y <| Zl isAgg3 Y ?_
  refine Zm Y <| op_w (p_len_strL underlying9 Y) rfl rfl ?_
  first | (refine op_v (p_add_nat Y Y ?_) ?_; (focus (omega))) | (refine op_v (p_add Y Y (IntWalk.i64_in _ ?_)) ?_; (focus (omega)))
  refine Zp Y rfl <| Zh 2 underlying107 rfl rfl sizeOf3 Y <| Ze (Zs sizeOf3 Y Y rfl) ?_
  rintro _ _ ⟨rfl, rfl⟩
  refine Z0 <| Zx <| Zq <| Zg <| Zm Y <| Za Y <| Z0 <| Zx <| at_ret ?_
  refine nx_end1 rfl results57 Y (by exact ⟨rfl, _, sq, (by rw [List.map_append]; exact hrq), rfl⟩)
 case hl_1 =>
  exact each_nil

theorem add5 (tp sz : Nat) (v : Value) (rs : List (List UInt8)) (sr : List Chunk) (h r : List UInt8) (Tt Tg : TypeId) (zg : Nat × Nat) (dv : Value) (br : Bool) (hrow : Row 9 v (rs.map strV) sr) (hh : h.length = 32) (hr : r.length ≤ 65536) (hz : sz ≤ 1099511627776) (hn : rs.length ≤ 1073741824) :
    Does Tryz.prog 57 #[.pointer (some ⟨tp, 0, none⟩), .string (str r)] [[(tp, .cells #[v, .string (str h), .int .i64 (sz : Int), dv, .bool br] Tt (0, 0))], sr, [(4, .cells (kTab.map u32v).toArray Tg zg)]] (fun res H' => res = .string (str (recS h r)) ∧ ∃ v' sr', Row 9 v' ((rs ++ [r]).map strV) sr' ∧ H' = [[(tp, .cells #[v', .string (str (chainS h r)), .int .i64 ((sz + (recS h r).length : Nat) : Int), dv, .bool br] Tt (0, 0))], sr', [(4, .cells (kTab.map u32v).toArray Tg zg)]]) := by
 have hml : maxLen = 9223372036854775807 := rfl
 have hel := encS_len r hr
 have hrl := recS_len h r hr
 obtain ⟨gv, cv, rfl⟩ := hrow.form
 refine spec_enter func57 rfl ntmps57 rfl ?_
 intro u R
 refine Zb [0, 1] ?_
 refine Zq <| Zg <| Za Y <| Z0 <| Zx <| Zq <| Zg <| Zm Y <| Zm Y <| Zp Y rfl <| Zh 1 underlying107 rfl rfl sizeOf9 Y <| Zl isAgg9 Y ?_
 refine Zm Y <| Zr [_, _] Y call110 Y rfl (chain_spec h r (by omega) _ _) ?_
 rintro _ _ ⟨rfl, rfl⟩
 refine Zp Y rfl <| Zh 1 underlying107 rfl rfl sizeOf9 Y <| Ze (Zs sizeOf9 Y Y rfl) ?_
 rintro _ _ ⟨rfl, rfl⟩
 refine Z0 <| Zx <| Zq <| Zg <| Zm Y <| Zm Y <| Zp Y rfl <| Zh 0 underlying107 rfl rfl sizeOf43 Y <| Zl isAgg43 Y ?_
 refine Zm Y <| Ze (w_buildSlice (vs := [_]) (cs := [_]) underlying43 sizeOf9 zeroValue9 Y rfl rfl rfl rfl rfl) ?_
 rintro _ _ ⟨b1, rfl, rfl⟩
 refine Ze (w_append (by_ := 16) (news := [_]) underlying43 (rfl : Tryz.prog.info? 9 = some Tryz.t9) rfl rfl rfl rfl Y hrow Y (by repeat (first | exact One.here _ _ | apply One.there)) (by repeat (first | exact Has.here _ | apply Has.there)) (by rfl) rfl (by simp [Value.oneCell']) (by decide) (by (rw [List.length_map]; omega)) (by (rw [List.length_map]; omega))) ?_
 rintro _ _ ⟨sq, hrq, rfl⟩
 obtain ⟨gq, cq, rfl⟩ := hrq.form
 refine Zp Y rfl <| Zh 0 underlying107 rfl rfl sizeOf43 Y <| Ze (Zs sizeOf43 Y Y rfl) ?_
 rintro _ _ ⟨rfl, rfl⟩
 refine Z0 <| Zn [0, 1] ?_
 refine Zx <| Zq <| Zg <| Zm Y <| Zr [_] Y call111 Y rfl (putString_spec r hr) ?_
 rintro _ _ ⟨rfl, rfl⟩
 refine Zm Y <| Zd Y rfl <| Zd Y rfl <| Za Y <| Za Y <| Z0 <| Zx <| Zq <| at_draw (n := 10) (0 :: 1 :: 0 :: 7 :: 0 :: 16 :: 48 :: 112 :: 255 :: 511 :: []) 1 (by kernel_rfl) (by kernel_rfl) rfl ?_
 refine Zi 4 2 rfl (p_move Y) <| Zi 20 4 rfl (p_move Y) <| Zi 52 5 rfl (p_nilChk Y rfl) <| Zi 116 6 rfl (p_fieldAddr0 (off := 1) underlying107 rfl rfl sizeOf9 Y) <| Zj 244 7 rfl isAgg9 Y ?_
 refine Zz (l := [0]) ?_
 refine Zy 0 245 [7] [true] [(7, (_, _))] rfl Y rfl rfl rfl rfl (w_buildSlice (vs := [_]) (cs := [_]) underlying36 sizeOf5 zeroValue5 Y rfl rfl rfl rfl rfl) ?hk_1 (fun _ _ h => h.elim) ?hl_1
 case hk_1 =>
  rintro _ _ ⟨b3, rfl, rfl⟩
  refine ⟨Zk (keep_nil), ?_⟩
  refine lin_r (D' := 247) 1 rfl rfl rfl (by repeat (first | exact Has.here _ | apply Has.there)) (p_conv_bytes_str underlying36 underlying5 underlying9 Y (by exact (show (_ = List.map u8v [1]) ∧ ([1] : List UInt8).length = _ from ⟨rfl, rfl⟩))) ?_
  (refine lin_v (D' := 255) 3 (p_add_str Y Y ?_) ?_; (focus (rw [str_size, str_size]; simp only [List.length_cons, List.length_nil]; omega)))
  (refine lin_v (D' := 511) 8 (p_add_str Y Y ?_) ?_; (focus (rw [str_app, str_size, str_size, List.length_append, chain_len]; simp only [List.length_cons, List.length_nil]; omega)))
  refine Zi 1023 9 rfl (p_assign Y) <| lin_nil ?_
  refine Zn [0, 7] ?_
  refine Zx <| Zq ?_
  rw [str_app, str_app]
  obtain ⟨out, ho⟩ : ∃ out, out = recS h r := ⟨_, rfl⟩
  have ho2 : [1] ++ encS r ++ chainS h r = out := ho.symm
  rw [ho2]
  rw [← ho] at hrl
  rw [← ho]
  refine Zg <| Zm Y <| Zp Y rfl <| Zh 2 underlying107 rfl rfl sizeOf3 Y <| Zl isAgg3 Y ?_
  refine Zm Y <| op_w (p_len_strL underlying9 Y) rfl rfl ?_
  first | (refine op_v (p_add_nat Y Y ?_) ?_; (focus (omega))) | (refine op_v (p_add Y Y (IntWalk.i64_in _ ?_)) ?_; (focus (omega)))
  refine Zp Y rfl <| Zh 2 underlying107 rfl rfl sizeOf3 Y <| Ze (Zs sizeOf3 Y Y rfl) ?_
  rintro _ _ ⟨rfl, rfl⟩
  refine Z0 <| Zx <| Zq <| Zg <| Zm Y <| Za Y <| Z0 <| Zx <| at_ret ?_
  refine nx_end1 rfl results57 Y (by exact ⟨rfl, _, sq, (by rw [List.map_append]; exact hrq), rfl⟩)
 case hl_1 =>
  exact each_nil

theorem room_spec (jp sz dp : Nat) (v : Value) (h : List UInt8) (br : Bool) (Tt : TypeId) (d : DiskS) (s : List Chunk) (hR : DiskR d dp s) (hz : sz ≤ 1099511627776) :
    DoesR Tryz.prog 17 #[.pointer (some ⟨jp, 0, none⟩)] [[(jp, .cells #[v, .string (str h), .int .i64 (sz : Int), .pointer (some ⟨dp, 0, none⟩), .bool br] Tt (0, 0))], s] (.int .i64 ((d.vi.length : Int) - (sz : Int))) := by
 have hok := hR.1.2.2.1
 refine spec_enter func17 rfl ntmps17 rfl ?_
 intro u R
 refine Zb [0] ?_
 refine Zq <| Zg <| Za Y <| Z0 <| Zx <| Zq <| Zq <| Zg <| Zm Y ?_
 first | refine op_v (p_eql_nil_nil underlying30 Y Y) ?_ | refine op_v (p_eql_ptr_nil underlying30 Y Y) ?_
 refine Z0 <| Zx ?_
 refine at_if_bool Y (fun hc1 => ?_) (fun hc1 => ?_)
 ·
  cases hc1
 ·
  refine at_skip <| Zx <| Zq <| at_draw (n := 12) (0 :: 1 :: 3 :: 7 :: 15 :: 0 :: 32 :: 96 :: 224 :: 480 :: 1023 :: 2047 :: []) 16 (by kernel_rfl) (by kernel_rfl) rfl ?_
  refine Zi 1 0 rfl (p_move Y) <| Zi 3 1 rfl (p_nilChk Y rfl) <| Zi 7 2 rfl (p_fieldAddr0 (off := 3) underlying109 rfl rfl sizeOf26 Y) <| Zj 15 3 rfl isAgg26 Y ?_
  refine Zi 47 5 rfl (p_move Y) <| Zi 111 6 rfl (p_nilChk Y rfl) <| Zi 239 7 rfl (p_fieldAddr0 (off := 0) underlying109 rfl rfl sizeOf107 Y) <| Zi 495 8 rfl (p_fieldAddr1 (off := 2) underlying107 rfl rfl sizeOf3 Y) <| Zj 1007 9 rfl isAgg3 Y ?_
  refine Zz (l := [4]) ?_
  refine Zy 15 1023 [9, 3] [true, false] [(9, (_, _))] rfl Y rfl rfl rfl rfl (Zu [_] Y call43 Y rfl (disk_size d dp s hR)) ?hk_1 (fun _ _ h => h.elim) ?hl_1
  case hk_1 =>
   rintro _ _ ⟨rfl, rfl⟩
   refine ⟨Zk (keep_nil), ?_⟩
   refine lin_w (D' := 2047) 10 rfl rfl rfl (p_sub Y Y (IntWalk.i64_in _ (by omega))) ?_
   refine Zi 4095 11 rfl (p_assign Y) <| lin_nil ?_
   refine Zn [2] ?_
   refine Zx <| at_ret ?_
   refine nx_end1 rfl results17 Y (by exact ⟨rfl, rfl⟩)
  case hl_1 =>
   exact each_nil

theorem long_spec (s : List UInt8) : DoesR Tryz.prog 53 #[.string (str s)] [] (.bool (decide (s.length > 65536))) := by
 have hss := str_size s
 refine spec_enter func53 rfl ntmps53 rfl ?_
 intro u R
 refine Zb [0] ?_
 refine Zq <| Zg <| Za Y <| Z0 <| Zx <| Zq <| Zg <| Zm Y <| Zv (p_len_str underlying9 Y) ?_
 first | refine op_v (p_gtr_nat (n := 65536) Y Y) ?_ | refine op_v (p_gtr Y Y) ?_
 refine Za Y <| Z0 <| Zx <| at_ret ?_
 refine nx_end1 rfl results53 Y (by exact ⟨by rw [hss], rfl⟩)

theorem writing_spec (p : Option Addr) (o : Int) (s : ByteArray) : Does Tryz.prog 47 #[.pointer p, .int .i64 o, .string s] [] (fun r H' => ∃ b1 b2 b3, r = .func (.func 100) #[] #[.pointer (some ⟨b1, 0, none⟩), .pointer (some ⟨b2, 0, none⟩), .pointer (some ⟨b3, 0, none⟩)] ∧
      H' = [[(b1, .cells #[.pointer p] 30 (0, 0))], [(b2, .cells #[.int .i64 o] 3 (0, 0))], [(b3, .cells #[.string s] 9 (0, 0))]]) := by
 refine spec_enter func47 rfl ntmps47 rfl ?_
 intro u R
 refine Zb [0, 1, 2] ?_
 refine Zq <| Zg <| Ze (w_box Y (cs := #[_]) rfl) ?_
 rintro _ _ ⟨b1, rfl, rfl⟩
 refine Ze (w_box Y (cs := #[_]) rfl) ?_
 rintro _ _ ⟨b2, rfl, rfl⟩
 refine Ze (w_box Y (cs := #[_]) rfl) ?_
 rintro _ _ ⟨b3, rfl, rfl⟩
 refine Za Y <| Z0 <| Zx <| Zq <| Zg <| Zv (p_makeFunc (vs := []) (us := [_, _, _]) Y Y) ?_
 refine Za Y <| Z0 <| Zx <| at_ret ?_
 refine nx_end1 rfl results47 Y (by exact ⟨_, _, _, rfl, rfl⟩)

theorem writing_in (b1 b2 b3 jp dp : Nat) (T1 T2 T3 : TypeId) (v hv zv bv : Value) (Tt : TypeId) (o : Int) (s : ByteArray) (sd : List Chunk) (Q : Value → List Chunk → Prop)
    (hW : Does Tryz.prog 21 #[.pointer (some ⟨dp, 0, none⟩), .int .i64 o, .string s] [sd] (fun r H' => ∃ s', H' = [s'] ∧ Q r s')) :
    Does Tryz.prog 100 #[.pointer (some ⟨b1, 0, none⟩), .pointer (some ⟨b2, 0, none⟩), .pointer (some ⟨b3, 0, none⟩)] [[(b1, .cells #[.pointer (some ⟨jp, 0, none⟩)] T1 (0, 0))], [(b2, .cells #[.int .i64 o] T2 (0, 0))], [(b3, .cells #[.string s] T3 (0, 0))], [(jp, .cells #[v, hv, zv, .pointer (some ⟨dp, 0, none⟩), bv] Tt (0, 0))], sd]
      (fun r H' => ∃ s', Q r s' ∧ H' = [[(b1, .cells #[.pointer (some ⟨jp, 0, none⟩)] T1 (0, 0))], [(b2, .cells #[.int .i64 o] T2 (0, 0))], [(b3, .cells #[.string s] T3 (0, 0))], [(jp, .cells #[v, hv, zv, .pointer (some ⟨dp, 0, none⟩), bv] Tt (0, 0))], s']) := by
 refine spec_enter func100 rfl ntmps100 rfl ?_
 intro u R
 refine Zb [0, 1, 2] ?_
 refine Zq <| Zg <| Za Y <| Z0 <| Zx <| Zq <| at_draw (n := 8) (0 :: 1 :: 3 :: 7 :: 0 :: 0 :: 63 :: 127 :: []) 64 (by kernel_rfl) (by kernel_rfl) rfl ?_
 refine Zj 1 0 rfl isAgg30 Y ?_
 refine Zi 3 1 rfl (p_nilChk Y rfl) <| Zi 7 2 rfl (p_fieldAddr0 (off := 3) underlying109 rfl rfl sizeOf26 Y) <| Zj 15 3 rfl isAgg26 Y ?_
 refine Zj 31 4 rfl isAgg3 Y ?_
 refine Zj 63 5 rfl isAgg9 Y ?_
 refine Zz (l := [6]) ?_
 refine Zy 63 127 [5, 4, 3, 0] [false, false, false, false] [] rfl Y rfl rfl rfl rfl (Zw [_, _, _] Y call21 Y rfl (hW)) ?hk_1 no_pan ?hl_1
 case hk_1 =>
  rintro _ _ ⟨_, ⟨s', rfl, hq⟩, rfl⟩
  refine ⟨keep_nil, ?_⟩
  refine Zi 255 7 rfl (p_assign Y) <| lin_nil ?_
  refine Zx <| at_ret ?_
  refine nx_end1 rfl results100 Y (by exact ⟨s', hq, rfl⟩)
 case hl_1 =>
  exact each_nil

theorem first_spec (g n cap : Nat) (fc : Array Value) (Tf : TypeId) (zf : Nat × Nat) (fid : Nat → FuncId) (fst cps : Nat → Array Value) (I : Nat → List Chunk → Prop) (E : Int → List Chunk → Prop)
    (hn : n ≤ 1000) (hfc : ∀ i, i < n → fc[i]? = some (.func (.func (fid i)) (fst i) (cps i))) (hcall : ∀ i, i < n → ∀ (args : Array Value) (w : World), (callFunc (fid i) args).run Tryz.prog w = .ok (.enter (fid i) args) w)
    (hsp : ∀ i, i < n → ∀ s, I i s → Does Tryz.prog (fid i) ((fst i).toList ++ [] ++ (cps i).toList).toArray [s] (fun r H' => ∃ (e : Int) (s' : List Chunk), r = .int .i64 e ∧ H' = [s'] ∧ ((e = 0 ∧ I (i + 1) s') ∨ (e ≠ 0 ∧ E e s')))) (s : List Chunk) (h0 : I 0 s) :
    Does Tryz.prog 46 #[.slice (some ⟨g, 0, none⟩) n cap] [[(g, .cells fc Tf zf)], s] (fun r H' => ∃ (e : Int) (s' : List Chunk), r = .int .i64 e ∧ H' = [[(g, .cells fc Tf zf)], s'] ∧ ((e = 0 ∧ I n s') ∨ (e ≠ 0 ∧ E e s'))) := by
 refine spec_enter func46 rfl ntmps46 rfl ?_
 intro u R
 refine Zb [0] ?_
 refine Zq <| Zg <| Za Y <| Z0 <| Zx <| Zq <| Zq <| Zg <| Zm Y <| Zv (p_len_slice underlying181 Y) <| Zm Y <| Z0 <| Zx <| at_block <| Zb [8, 6, 7] ?_
 refine at_loopB (e0 := [(8, _)]) (H0 := _) (n := _) (fun m e H => ∃ (i : Nat) (s : List Chunk), m = n - i ∧ (i ≤ n ∧ I i s) ∧ e = [(8, .int .i64 (i : Int))] ∧ H = [s]) (by exact ⟨0, s, rfl, ⟨Nat.zero_le _, h0⟩, rfl, rfl⟩) (by repeat (first | exact Pull.nil _ | (apply Pull.cons; (focus (repeat (first | exact One.here _ _ | apply One.there)))))) ?_
 rintro _ _ _ ⟨i, s, rfl, ⟨hi, hI⟩, rfl, rfl⟩
 refine Zq <| Zg ?_
 first | refine op_v (p_lss_nat Y Y) ?_ | refine op_v (p_lss Y Y) ?_
 refine Z0 <| Zx <| Zq ?_
 first | refine at_if Y (fun hi2 => ?_) (fun hi2 => ?_) | refine at_if_bool Y (fun hi2 => ?_) (fun hi2 => ?_)
 ·
  refine at_skip <| Zx <| Zq <| at_block <| Zq <| Zg ?_
  first | (refine op_v (p_indexAddr_nat0 underlying181 sizeOf111 Y Y ?_) ?_; (focus (omega))) | (refine op_v (p_indexAddr_nat1 underlying181 sizeOf111 Y Y ?_) ?_; (focus (omega)))
  refine Zl isAgg111 Y (hv := by first | exact hfc i hi2 | (rw [Nat.mul_one, Nat.zero_add]; exact hfc i hi2) | (rw [Nat.mul_one]; exact hfc i hi2)) ?_
  refine Za Y <| Z0 <| Zx <| Zq <| Zg <| Zm Y <| Zc [] Y (hcall i hi2) Y rfl (hsp i hi2 s hI) ?_
  rintro _ _ ⟨_, ⟨e, s', rfl, rfl, hE⟩, rfl⟩
  refine Za Y <| Z0 <| Zx <| Zq <| Zg <| Zm Y ?_
  first | refine op_v (p_neq_nat (n := 0) Y Y) ?_ | refine op_v (p_neq Y Y) ?_
  refine Z0 <| Zx ?_
  first | refine at_if Y (fun he => ?_) (fun he => ?_) | refine at_if_bool Y (fun he => ?_) (fun he => ?_)
  ·
   refine Zq <| Zg <| Zm Y <| Za Y <| Z0 <| Zx <| at_ret <| nx_block_ret <| Zt <| Zt <| nx_block_ret <| Zt ?_
   refine nx_end1 rfl results46 Y (by exact ⟨e, s', rfl, rfl, .inr (hE.resolve_left (fun h => he h.1))⟩)
  ·
   refine at_skip <| nx_block_normal <| Zx <| Zg ?_
   first | (refine op_v (p_add_nat (n := 1) Y Y ?_) ?_; (focus (omega))) | (refine op_v (p_add Y Y (IntWalk.i64_in _ ?_)) ?_; (focus (omega)))
   refine Zm Y <| Z0 <| Zn [8, 6, 7] ?_
   refine nx_againB (e' := [(8, _)]) (m := _) (H' := _) (by exact ⟨i + 1, s', rfl, ⟨by omega, (hE.resolve_right (fun h => he h.1)).2⟩, rfl, rfl⟩)
 ·
  have ei : i = n := by omega
  subst ei
  refine at_exit <| Zt <| Zt <| nx_block_exit <| Zx <| Zq <| Zg <| Za Y <| Z0 <| Zx <| at_ret ?_
  refine nx_end1 rfl results46 Y (by exact ⟨0, s, rfl, rfl, .inl ⟨rfl, hI⟩⟩)

theorem sat_fresh {u w w' : World} {H : Hp} (h : Sat u H w) (hb : Below w.heap.size w w') {g : Nat} {o : Obj} (hg : w.heap.size ≤ g) (ho : w'.heap[g]? = some o) : Sat u ([(g, o)] :: H) w' := by
  have h2 := h.below hb
  refine ⟨h2.os, h2.tape, h2.output, ?_, ?_⟩
  · simp only [List.flatten_cons, List.singleton_append, List.map_cons, List.nodup_cons]
    refine ⟨fun hm => ?_, h.nodup⟩
    obtain ⟨p, hp, e⟩ := List.mem_map.1 hm
    have := h.lt hp
    omega
  · intro p hp
    simp only [List.flatten_cons, List.singleton_append, List.mem_cons] at hp
    rcases hp with rfl | hp
    · exact ho
    · exact h2.get p hp
theorem sat_own {u w w' : World} {H : Hp} (h : Sat u H w) (hb : Below w.heap.size w w') {e n : Nat} {v : Value} {xs : List Value} (ho : w'.ownsRow w.heap.size e 1 v n xs) : ∃ s', Row e v xs s' ∧ Sat u (s' :: H) w' := by
  obtain ⟨hl, ⟨rfl, rfl⟩ | ⟨g, cap, cur, rfl, hg, hc, h1, h2, h3, h4⟩⟩ := ho
  · have : xs = [] := List.eq_nil_of_length_eq_zero (by omega)
    subst this
    exact ⟨[], row_nil e, (h.below hb).sub ⟨[], by simp⟩⟩
  · have hn : n = xs.length := by omega
    subst hn
    exact ⟨[(g, .cells cur e (0, 0))], .inr ⟨g, cap, cur, (0, 0), rfl, rfl, h1, h2, by omega, by simpa using h4, free_zero _⟩, sat_fresh h hb hg hc⟩
theorem clone_spec (v : Value) (rs : List (List UInt8)) (sr : List Chunk) (hr : Row 9 v (rs.map strV) sr) (hb : rs.length ≤ 1073741824) :
    Does Tryz.prog 55 #[v] [sr] (fun r H' => ∃ sr', Row 9 r (rs.map strV) sr' ∧ H' = [sr', sr]) := fun u R w hs => by
  rcases hr with ⟨rfl, hx, rfl⟩ | ⟨g, cap, cur, z, rfl, rfl, hle, hcm, hcs, htk, hfr⟩
  · refine (Tryz.slices_Clone_string_nil 0 0 w).mono ?_
    rintro e w' ⟨rfl, rfl⟩
    exact .inl ⟨_, [[], []], rfl, ⟨[], by rw [hx]; exact row_nil _, rfl⟩, hs.sub ⟨[], by simp⟩⟩
  · rw [List.length_map] at hle ⊢
    rcases Nat.eq_zero_or_pos rs.length with h0 | h0
    · have hx : rs = [] := List.eq_nil_of_length_eq_zero h0
      subst hx
      refine (Tryz.slices_Clone_string_zero ⟨g, 0, none⟩ cap w).mono ?_
      rintro e w' ⟨v', rfl, ho, _, hbl⟩
      obtain ⟨s', hrow, hsat⟩ := sat_own hs hbl ho
      exact .inl ⟨_, [s', _], rfl, ⟨s', hrow, rfl⟩, by simpa using hsat⟩
    · have hg := hs.get (g, .cells cur 9 z) (by simp)
      have hin : CellsIn cur 0 (rs.map strV) := by unfold CellsIn; rw [List.drop_zero]; exact htk
      refine (Tryz.slices_Clone_string g 0 rs.length cap (rs.map str) w (by simp) (by omega) (fun j hj => ?_)).mono ?_
      · have := cell_in hg hin j (.string ((rs.map str).getD j ByteArray.empty)) (by
          rw [List.length_map] at hj
          rw [List.getElem?_map, List.getElem?_eq_getElem hj, List.getD_eq_getElem?_getD, List.getElem?_map, List.getElem?_eq_getElem hj]; rfl)
        exact this
      · rintro e w' ⟨v', rfl, ho, _, hbl⟩
        have e1 : ((rs.map str).take rs.length).map Value.string = rs.map strV := by
          rw [List.take_of_length_le (by simp), List.map_map]; rfl
        rw [e1] at ho
        obtain ⟨s', hrow, hsat⟩ := sat_own hs hbl ho
        exact .inl ⟨_, [s', _], rfl, ⟨s', hrow, rfl⟩, by simpa using hsat⟩

theorem records_spec (jp : Nat) (v c1 c2 c3 c4 : Value) (rs : List (List UInt8)) (sr : List Chunk) (Tt : TypeId) (hr : Row 9 v (rs.map strV) sr) (hb : rs.length ≤ 1073741824) :
    Does Tryz.prog 39 #[.pointer (some ⟨jp, 0, none⟩)] [[(jp, .cells #[v, c1, c2, c3, c4] Tt (0, 0))], sr] (fun r H' => ∃ sr', Row 9 r (rs.map strV) sr' ∧ H' = [[(jp, .cells #[v, c1, c2, c3, c4] Tt (0, 0))], sr', sr]) := by
 refine spec_enter func39 rfl ntmps39 rfl ?_
 intro u R
 refine Zb [0] ?_
 refine Zq <| Zg <| Za Y <| Z0 <| Zx <| Zq <| Zq <| Zg <| Zm Y ?_
 first | refine op_v (p_eql_nil_nil underlying30 Y Y) ?_ | refine op_v (p_eql_ptr_nil underlying30 Y Y) ?_
 refine Z0 <| Zx ?_
 refine at_if_bool Y (fun hc1 => ?_) (fun hc1 => ?_)
 ·
  cases hc1
 ·
  refine at_skip <| Zx <| Zq <| Zg <| Zm Y <| Zp Y rfl <| Zh 0 underlying109 rfl rfl sizeOf107 Y <| Zv (p_fieldAddr1 (off := 0) underlying107 rfl rfl sizeOf43 Y) <| Zl isAgg43 Y ?_
  refine Zc [_] Y call55 Y rfl (clone_spec _ rs sr hr hb) ?_
  rintro _ _ ⟨_, ⟨sr', hrr, rfl⟩, rfl⟩
  refine Za Y <| Z0 <| Zx <| at_ret ?_
  refine nx_end1 rfl results39 Y (by exact ⟨sr', hrr, rfl⟩)

/-- The records of a content, from sz on: none: it is damaged. -/
def loadL (s : List UInt8) : Nat → List (List UInt8) → List UInt8 → Nat → Option (List (List UInt8) × List UInt8 × Nat)
  | 0, rs, h, sz => some (rs, h, sz)
  | f + 1, rs, h, sz => match s[sz]? with
    | none => some (rs, h, sz)
    | some b => if b.toNat = 0 then some (rs, h, sz) else if b.toNat = 1 then match decS s (sz + 1) with
        | none => none
        | some (r, k) => if k + 32 ≤ s.length ∧ recS h r = (s.drop sz).take (k + 32 - sz) then loadL s f (rs ++ [r]) (chainS h r) (sz + (recS h r).length) else none
      else none
theorem strR_cases (s : List UInt8) (a : Nat) : ∃ (r : List UInt8) (k : Nat) (e : Int), strR (decS s a) = .tuple #[.string (str r), .int .i64 (k : Int), .int .i64 e] ∧ ((e = 0 ∧ decS s a = some (r, k)) ∨ (e ≠ 0 ∧ decS s a = none ∧ k = 0)) := by
  cases h : decS s a with
  | none => exact ⟨[], 0, 10, rfl, .inr ⟨by decide, rfl, rfl⟩⟩
  | some p => exact ⟨p.1, p.2, 0, rfl, .inl ⟨rfl, rfl⟩⟩
theorem decS_at {s : List UInt8} {a : Nat} {r : List UInt8} {k : Nat} (h : decS s a = some (r, k)) : a < k ∧ k ≤ s.length ∧ r.length ≤ 65536 := by
  unfold decS at h
  cases hd : decI s a with
  | none => rw [hd] at h; cases h
  | some p =>
    obtain ⟨n, j⟩ := p
    rw [hd] at h
    have hat := decI_at hd
    simp only at h
    split at h
    · cases h
    · injection h with h
      injection h with h1 h2
      subst h1 h2
      refine ⟨by omega, by omega, ?_⟩
      rw [List.length_take]
      exact Nat.le_trans (Nat.min_le_left _ _) (by omega)
theorem extract_dec (s x : List UInt8) (a b : Nat) (h : a ≤ b) : (str x = (str s).extract a b) ↔ x = (s.drop a).take (b - a) := by
  have e : (str s).extract a b = str ((s.drop a).take (b - a)) := by
    have := extract_str s a (b - a)
    rw [show a + (b - a) = b by omega] at this; exact this
  rw [e]
  constructor
  · intro h
    have := congrArg (fun t : ByteArray => t.data.toList) h
    simpa [str] using this
  · intro h; rw [h]
theorem load_end {s : List UInt8} {f : Nat} {rs : List (List UInt8)} {h : List UInt8} {sz : Nat} {res : Option (List (List UInt8) × List UInt8 × Nat)} (hi : loadL s f rs h sz = res) (hx : s.length ≤ sz ∨ (byteAt (str s) sz).toNat = 0) : res = some (rs, h, sz) := by
  subst hi
  cases f with
  | zero => rfl
  | succ f =>
    rw [loadL]
    rcases Nat.lt_or_ge sz s.length with h1 | h1
    · rw [byte_get s sz h1]
      simp only
      rw [if_pos (by omega)]
    · rw [List.getElem?_eq_none h1]
theorem load_step {s : List UInt8} {f : Nat} {rs : List (List UInt8)} {h : List UInt8} {sz : Nat} {res : Option (List (List UInt8) × List UInt8 × Nat)} (hi : loadL s f rs h sz = res) (hf : s.length - sz < f) (hlt : sz < s.length) (h0 : ¬ (byteAt (str s) sz).toNat = 0) :
    (if (byteAt (str s) sz).toNat = 1 then match decS s (sz + 1) with
        | none => none
        | some (r, k) => if k + 32 ≤ s.length ∧ recS h r = (s.drop sz).take (k + 32 - sz) then loadL s (f - 1) (rs ++ [r]) (chainS h r) (sz + (recS h r).length) else none
      else none) = res := by
  subst hi
  cases f with
  | zero => omega
  | succ f =>
    rw [loadL, byte_get s sz hlt]
    simp only
    rw [if_neg h0]
    rfl
theorem load_bad1 {s : List UInt8} {f : Nat} {rs : List (List UInt8)} {h : List UInt8} {sz : Nat} {res : Option (List (List UInt8) × List UInt8 × Nat)} (hi : loadL s f rs h sz = res) (hf : s.length - sz < f) (hlt : sz < s.length) (h0 : ¬ (byteAt (str s) sz).toNat = 0) (h1 : ¬ (byteAt (str s) sz).toNat = 1) : res = none := by
  have := load_step hi hf hlt h0
  rw [if_neg h1] at this; exact this.symm
theorem load_bad2 {s : List UInt8} {f : Nat} {rs : List (List UInt8)} {h : List UInt8} {sz : Nat} {res : Option (List (List UInt8) × List UInt8 × Nat)} (hi : loadL s f rs h sz = res) (hf : s.length - sz < f) (hlt : sz < s.length) (h0 : ¬ (byteAt (str s) sz).toNat = 0) (h1 : (byteAt (str s) sz).toNat = 1) (hd : decS s (sz + 1) = none) : res = none := by
  have := load_step hi hf hlt h0
  rw [if_pos h1, hd] at this; exact this.symm
theorem load_bad3 {s : List UInt8} {f : Nat} {rs : List (List UInt8)} {h : List UInt8} {sz : Nat} {res : Option (List (List UInt8) × List UInt8 × Nat)} (hi : loadL s f rs h sz = res) (hf : s.length - sz < f) (hlt : sz < s.length) (h0 : ¬ (byteAt (str s) sz).toNat = 0) (h1 : (byteAt (str s) sz).toNat = 1) {r : List UInt8} {k : Nat} (hd : decS s (sz + 1) = some (r, k))
    (hb : ¬ (k + 32 ≤ s.length ∧ recS h r = (s.drop sz).take (k + 32 - sz))) : res = none := by
  have := load_step hi hf hlt h0
  rw [if_pos h1, hd] at this
  simp only at this
  rw [if_neg hb] at this; exact this.symm
theorem load_next {s : List UInt8} {f : Nat} {rs : List (List UInt8)} {h : List UInt8} {sz : Nat} {res : Option (List (List UInt8) × List UInt8 × Nat)} (hi : loadL s f rs h sz = res) (hf : s.length - sz < f) (hlt : sz < s.length) (h0 : ¬ (byteAt (str s) sz).toNat = 0) (h1 : (byteAt (str s) sz).toNat = 1) {r : List UInt8} {k : Nat} (hd : decS s (sz + 1) = some (r, k))
    (hb : k + 32 ≤ s.length ∧ recS h r = (s.drop sz).take (k + 32 - sz)) : loadL s (f - 1) (rs ++ [r]) (chainS h r) (sz + (recS h r).length) = res := by
  have := load_step hi hf hlt h0
  rw [if_pos h1, hd] at this
  simp only at this
  rw [if_pos hb] at this; exact this

theorem check_spec (b : Bool) (Te : TypeId) (ve : Value) (Tx : TypeId) (zx : Nat × Nat) : DoesE Tryz.prog 138 #[.bool b] [[(0, .cells #[.iface Te ve] Tx zx)]] (fun r H' => b = true ∧ r = .tuple #[] ∧ H' = [[(0, .cells #[.iface Te ve] Tx zx)]]) (fun ch H' => b = false ∧ ch = [{ v := .iface Te ve, recovered := false }] ∧ H' = [[(0, .cells #[.iface Te ve] Tx zx)]]) := by
 refine spec_enter func138 rfl ntmps138 rfl ?_
 intro u R
 refine Zb [0] ?_
 refine Zq <| Zg <| Zm Y ?_
 first | refine op_v (p_not_dec Y) ?_ | refine op_v (p_not Y) ?_
 refine Z0 <| Zx ?_
 refine at_if_bool Y (fun hb => ?_) (fun hb => ?_)
 ·
  refine Zg <| Zl isAgg125 Y ?_
  refine ops_eff Y (fits_of rfl) rfl (w_panic Y) ?_ ?hpan_1
  case hpan_1 =>
   rintro _ _ ⟨rfl, rfl⟩ env
   refine nx_panic (H' := _) (by exact ⟨by simpa using hb, rfl, rfl⟩)
  exact fun _ _ h => h.elim
 ·
  refine at_skip ?_
  refine nx_end0 rfl results138 (by exact ⟨by simpa using hb, rfl, rfl⟩)

theorem load_spec (tp sz0 : Nat) (v0 dv : Value) (br : Bool) (rs0 : List (List UInt8)) (sr0 : List Chunk) (h00 s : List UInt8) (Tt Tg Te Tx : TypeId) (ve : Value) (zg zx : Nat × Nat) (hrow0 : Row 9 v0 (rs0.map strV) sr0) (hh0 : h00.length = 32) (hs : s.length ≤ 4194304) (hz0 : sz0 ≤ s.length) (hn0 : rs0.length ≤ sz0) :
    DoesE Tryz.prog 92 #[.pointer (some ⟨tp, 0, none⟩), .string (str s)] [[(tp, .cells #[v0, .string (str h00), .int .i64 (sz0 : Int), dv, .bool br] Tt (0, 0))], sr0, [(4, .cells (kTab.map u32v).toArray Tg zg)], [(0, .cells #[.iface Te ve] Tx zx)]]
      (fun r H' => ∃ rs h sz v sr, loadL s (s.length + 1) rs0 h00 sz0 = some (rs, h, sz) ∧ h.length = 32 ∧ sz ≤ s.length ∧ rs.length ≤ sz ∧ Row 9 v (rs.map strV) sr ∧ r = .tuple #[] ∧ H' = [[(tp, .cells #[v, .string (str h), .int .i64 (sz : Int), dv, .bool br] Tt (0, 0))], sr, [(4, .cells (kTab.map u32v).toArray Tg zg)], [(0, .cells #[.iface Te ve] Tx zx)]])
      (fun ch H' => loadL s (s.length + 1) rs0 h00 sz0 = none ∧ ch = [{ v := .iface Te ve, recovered := false }] ∧ H' = [[(4, .cells (kTab.map u32v).toArray Tg zg)], [(0, .cells #[.iface Te ve] Tx zx)]]) := by
 have hss := str_size s
 obtain ⟨res, hres⟩ : ∃ res, res = loadL s (s.length + 1) rs0 h00 sz0 := ⟨_, rfl⟩
 rw [← hres]
 refine spec_enter func92 rfl ntmps92 rfl ?_
 intro u R
 refine Zb [0, 1] ?_
 refine at_block <| Zb [0, 1] ?_
 refine at_loopB (e0 := []) (H0 := _) (n := _) (fun m e H => ∃ (f : Nat) (rs : List (List UInt8)) (h : List UInt8) (sz : Nat) (v : Value) (sr : List Chunk), m = 0 + f ∧ (s.length - sz < f ∧ sz ≤ s.length ∧ h.length = 32 ∧ rs.length ≤ sz ∧ Row 9 v (rs.map strV) sr ∧ loadL s f rs h sz = res) ∧ e = [] ∧ H = [[(tp, .cells #[v, .string (str h), .int .i64 (sz : Int), dv, .bool br] Tt (0, 0))], sr]) (by exact ⟨s.length + 1, rs0, h00, sz0, v0, sr0, rfl, ⟨by omega, hz0, hh0, hn0, hrow0, hres.symm⟩, rfl, rfl⟩) (by repeat (first | exact Pull.nil _ | (apply Pull.cons; (focus (repeat (first | exact One.here _ _ | apply One.there)))))) ?_
 rintro _ _ _ ⟨f, rs, h, sz, v, sr, rfl, ⟨hf, hz, hh, hn, hrow, hinv⟩, rfl, rfl⟩
 refine Zq <| Zq <| Zg <| Zm Y <| Zp Y rfl <| Zh 2 underlying107 rfl rfl sizeOf3 Y <| Zl isAgg3 Y ?_
 refine Zm Y <| Zv (p_len_str underlying9 Y) ?_
 first | refine op_v (p_lss_nat Y Y) ?_ | refine op_v (p_lss Y Y) ?_
 refine Zm Y ?_
 first | refine ops_split (t := 15) Y rfl (fun hlt => ?_) (fun hlt => ?_) | refine ops_split_bool (t := 15) Y rfl (fun hlt => ?_) (fun hlt => ?_)
 ·
  refine Zf Y Y <| Zf Y Y <| op_wg Y (p_nilChk Y rfl) rfl rfl ?_
  refine op_wg Y (p_fieldAddr0 (off := 2) underlying107 rfl rfl sizeOf3 Y) rfl rfl ?_
  refine op_rg Y (by repeat (first | exact Has.here _ | apply Has.there)) (p_load isAgg3 Y (by rfl)) rfl rfl ?_
  (refine op_wg Y (p_index_str underlying9 Y Y (byteAt_get _ _ ?_)) rfl rfl ?_; (focus (omega)))
  first | refine op_wg Y (p_neq_nat (n := 0) Y Y) rfl rfl ?_ | refine op_wg Y (p_neq Y Y) rfl rfl ?_
  refine Zv (p_pick_t Y Y) <| Z0 <| Zn [0, 1, 23] ?_
  refine Zx ?_
  first | refine at_if Y (fun hb0 => ?_) (fun hb0 => ?_) | refine at_if_bool Y (fun hb0 => ?_) (fun hb0 => ?_)
  ·
   refine at_skip <| Zx <| at_block <| Zq <| Zg <| Zm Y <| Zp Y rfl <| Zh 2 underlying107 rfl rfl sizeOf3 Y <| Zl isAgg3 Y ?_
   refine Za Y <| Z0 <| Zx <| Zq <| Zg <| Zm Y <| Zm Y ?_
   (refine op_v (p_index_str underlying9 Y Y (byteAt_get _ _ ?_)) ?_; (focus (omega)))
   first | refine op_v (p_eql_nat (n := 1) Y Y) ?_ | refine op_v (p_eql Y Y) ?_
   refine ops_eff Y (fits_of rfl) rfl (w_call (vs := [_]) Y call138 Y rfl (check_spec _ _ _ _ _) (by repeat (first | exact Pull.nil _ | (apply Pull.cons; (focus (repeat (first | exact One.here _ _ | apply One.there))))))) ?_ ?hpan_2
   case hpan_2 =>
    rintro _ _ ⟨_, ⟨hk1, rfl, rfl⟩, rfl⟩ env
    refine Zt <| nx_block_panic ?_
    refine Zt <| nx_block_panic ?_
    refine nx_panic (H' := _) (by
          have hb1 := of_decide_eq_false hk1
          exact ⟨load_bad1 hinv hf (by omega) (by omega) (by omega), rfl, rfl⟩)
   rintro _ _ ⟨_, ⟨hk1, rfl, rfl⟩, rfl⟩
   have hb1 := of_decide_eq_true hk1
   refine Z0 <| Zx <| Zq ?_
   obtain ⟨r, k, e, hRe, hRc⟩ := strR_cases s (sz + 1)
   have hstr := string_spec s (sz + 1) (by omega) (by omega)
   rw [hRe] at hstr
   refine Zg <| Zm Y <| Zm Y ?_
   first | (refine op_v (p_add_nat (n := 1) Y Y ?_) ?_; (focus (omega))) | (refine op_v (p_add Y Y (IntWalk.i64_in _ ?_)) ?_; (focus (omega)))
   refine Zr [_, _] Y call139 Y rfl (hstr) ?_
   rintro _ _ ⟨rfl, rfl⟩
   refine Zm Y <| Zd Y rfl <| Zd Y rfl <| Zd Y rfl <| Za Y <| Za Y <| Za Y <| Z0 <| Zn [0, 1, 4, 5, 6, 7] ?_
   refine Zx <| Zq <| Zg <| Zm Y ?_
   first | refine op_v (p_eql_nat (n := 0) Y Y) ?_ | refine op_v (p_eql Y Y) ?_
   refine Zm Y ?_
   first | refine ops_split (t := 43) Y rfl (fun he => ?_) (fun he => ?_) | refine ops_split_bool (t := 43) Y rfl (fun he => ?_) (fun he => ?_)
   ·
    have hd := (hRc.resolve_right (fun h => h.1 he)).2
    have hda := decS_at hd
    refine Zf Y Y ?_
    first | (refine op_wg Y (p_add_nat (n := 32) Y Y ?_) rfl rfl ?_; (focus (omega))) | (refine op_wg Y (p_add Y Y (IntWalk.i64_in _ ?_)) rfl rfl ?_; (focus (omega)))
    refine Zf Y Y <| op_wg Y (p_len_str underlying9 Y) rfl rfl ?_
    first | refine op_wg Y (p_leq_nat Y Y) rfl rfl ?_ | refine op_wg Y (p_leq Y Y) rfl rfl ?_
    refine Zv (p_pick_t Y Y) ?_
    refine ops_eff Y (fits_of rfl) rfl (w_call (vs := [_]) Y call138 Y rfl (check_spec _ _ _ _ _) (by repeat (first | exact Pull.nil _ | (apply Pull.cons; (focus (repeat (first | exact One.here _ _ | apply One.there))))))) ?_ ?hpan_4
    case hpan_4 =>
     rintro _ _ ⟨_, ⟨hk1, rfl, rfl⟩, rfl⟩ env
     refine Zt <| nx_block_panic ?_
     refine Zt <| nx_block_panic ?_
     refine nx_panic (H' := _) (by
           have hk32 := of_decide_eq_false hk1
           exact ⟨load_bad3 hinv hf (by omega) (by omega) (by omega) hd (fun h => by omega), rfl, rfl⟩)
    rintro _ _ ⟨_, ⟨hk1, rfl, rfl⟩, rfl⟩
    have hk32 := of_decide_eq_true hk1
    refine Z0 <| Zx <| at_draw (n := 10) (0 :: 0 :: 3 :: 0 :: 0 :: 0 :: 32 :: 120 :: 255 :: 511 :: []) 516 (by kernel_rfl) (by kernel_rfl) rfl ?_
    refine Zi 1 0 rfl (p_move Y) <| Zi 3 1 rfl (p_move Y) <| Zi 11 3 rfl (p_move Y) <| Zi 27 4 rfl (p_move Y) <| Zi 59 5 rfl (p_move Y) ?_
    first | (refine lin_v (D' := 123) 6 (p_add_nat (n := 32) Y Y ?_) ?_; (focus (omega))) | (refine lin_v (D' := 123) 6 (p_add Y Y (IntWalk.i64_in _ ?_)) ?_; (focus (omega)))
    (refine lin_v (D' := 251) 7 (p_slice_str underlying9 Y Y Y ?_ ?_) ?_; (focus (omega)); (focus (omega)))
    refine Zz (l := [2]) ?_
    refine Zy 3 255 [] [] [] rfl Y rfl rfl rfl rfl (Zw [_, _] Y call57 Y rfl (add5 tp sz v rs sr h r _ _ _ dv br hrow hh hda.2.2 (by omega) (by omega))) ?hk_6 no_pan ?hl_6
    case hk_6 =>
     rintro _ _ ⟨_, ⟨rfl, v2, sr2, hrow2, rfl⟩, rfl⟩
     refine ⟨keep_nil, ?_⟩
     refine Zi 511 8 rfl (p_eql_str Y Y) <| Zz (l := [9]) ?_
     refine Zy 511 1023 [] [] [] rfl Y rfl rfl rfl rfl (Zw [_] Y call138 Y rfl (check_spec _ _ _ _ _)) ?hk_7 ?hpan_7 ?hl_7
     case hpan_7 =>
      rintro _ _ ⟨_, ⟨hk1, rfl, rfl⟩, rfl⟩ env
      refine nx_block_panic ?_
      refine Zt <| nx_block_panic ?_
      refine nx_panic (H' := _) (by
            have hne := of_decide_eq_false hk1
            exact ⟨load_bad3 hinv hf (by omega) (by omega) (by omega) hd (fun h => hne ((extract_dec s _ sz (k + 32) (by omega)).2 h.2)), rfl, rfl⟩)
     case hk_7 =>
      rintro _ _ ⟨_, ⟨hk1, rfl, rfl⟩, rfl⟩
      refine ⟨keep_nil, ?_⟩
      have heq := (extract_dec s (recS h r) sz (k + 32) (by omega)).1 (of_decide_eq_true hk1)
      have hnext := load_next hinv hf (by omega) (by omega) (by omega) hd ⟨by omega, heq⟩
      have hlen := congrArg List.length heq
      rw [List.length_take, List.length_drop] at hlen
      refine lin_nil ?_
      refine Zn [0, 1] ?_
      refine nx_block_normal <| Zn [0, 1] ?_
      refine nx_againB (e' := []) (m := _) (H' := _) (by exact ⟨f - 1, _, _, _, _, _, rfl, ⟨by omega, by omega, chain_len h r, by rw [List.length_append, List.length_singleton]; omega, hrow2, hnext⟩, rfl, rfl⟩)
     case hl_7 =>
      exact each_nil
    case hl_6 =>
     exact each_nil
   ·
    have hd := (hRc.resolve_left (fun h => he h.1)).2.1
    refine op_skip Y rfl <| op_skip Y rfl <| op_skip Y rfl <| op_skip Y rfl <| op_skip Y rfl <| Zv (p_pick_f Y Y) ?_
    refine ops_eff Y (fits_of rfl) rfl (w_call (vs := [_]) Y call138 Y rfl (check_spec _ _ _ _ _) (by repeat (first | exact Pull.nil _ | (apply Pull.cons; (focus (repeat (first | exact One.here _ _ | apply One.there))))))) ?_ ?hpan_10
    case hpan_10 =>
     rintro _ _ ⟨_, ⟨hk1, rfl, rfl⟩, rfl⟩ env
     refine Zt <| nx_block_panic ?_
     refine Zt <| nx_block_panic ?_
     refine nx_panic (H' := _) (by exact ⟨load_bad2 hinv hf (by omega) (by omega) (by omega) hd, rfl, rfl⟩)
    rintro _ _ ⟨_, ⟨hk1, rfl, rfl⟩, rfl⟩
    cases hk1
  ·
   have hend := load_end hinv (.inr (by omega))
   refine at_exit <| Zt <| Zt <| nx_block_exit ?_
   refine nx_end0 rfl results92 (by exact ⟨rs, h, sz, v, sr, hend, hh, hz, hn, hrow, rfl, rfl⟩)
 ·
  have hend := load_end hinv (.inl (by omega))
  refine op_skip Y rfl <| op_skip Y rfl <| op_skip Y rfl <| op_skip Y rfl <| op_skip Y rfl <| op_skip Y rfl <| op_skip Y rfl <| Zv (p_pick_f Y Y) <| Z0 <| Zn [0, 1, 23] ?_
  refine Zx <| at_else Y <| at_exit <| Zt <| Zt <| nx_block_exit ?_
  refine nx_end0 rfl results92 (by exact ⟨rs, h, sz, v, sr, hend, hh, hz, hn, hrow, rfl, rfl⟩)

end Go.Proofs.YthbadolcncojbaaGreatDoor
