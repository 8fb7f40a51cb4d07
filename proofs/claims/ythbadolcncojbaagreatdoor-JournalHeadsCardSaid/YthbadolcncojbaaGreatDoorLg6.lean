/- The program's layer 3: put. -/
import Derived.Test.YthbadolcncojbaaGreatDoorEz
import Derived.Test.YthbadolcncojbaaGreatDoorLg5
namespace Go.Proofs.YthbadolcncojbaaGreatDoor
open Go.Proofs.Tryz
open Go Go.RowKit Gw
set_option linter.unusedVariables false
set_option linter.unusedSimpArgs false
set_option maxRecDepth 100000
attribute [local irreducible] Gw.At Gw.Nx Gw.Ops
def putAll (ls : List Int) : List UInt8 := ls.flatMap encI
theorem putAll_len : ∀ (ls : List Int), (∀ n ∈ ls, -4611686018427387903 ≤ n ∧ n ≤ 4611686018427387903) → (putAll ls).length ≤ ls.length * 9
  | [], _ => by simp [putAll]
  | n :: ls, h => by
    have h1 := putAll_len ls (fun m hm => h m (by simp [hm]))
    have h2 := encI_len n (h n (by simp)).1 (h n (by simp)).2
    unfold putAll at *
    rw [List.flatMap_cons, List.length_append, List.length_cons]; omega
theorem putAll_snoc (ls : List Int) (n : Int) : putAll (ls ++ [n]) = putAll ls ++ encI n := by simp [putAll]

theorem rw_put (g off cap : Nat) (cur : Array Value) (T : TypeId) (z : Nat × Nat) (ls : List Int) (hin : IntsAt cur off ls) (hn : ls.length ≤ 1073741824) (hr : ∀ n ∈ ls, -4611686018427387903 ≤ n ∧ n ≤ 4611686018427387903) :
    DoesR Tryz.prog 52 #[.slice (some ⟨g, off, none⟩) ls.length cap] [[(g, .cells cur T z)]] (.string (str (putAll ls))) := by
 have hml : maxLen = 9223372036854775807 := rfl
 refine spec_enter func52 rfl ntmps52 rfl ?_
 intro u R
 refine Zb [0] ?_
 refine Zq <| Zg <| Za Y <| Z0 <| Zx <| Zq <| Zg <| Za Y <| Z0 <| Zx <| Zq <| Zq <| Zg <| Zm Y <| Zv (p_len_slice underlying76 Y) <| Zm Y <| Z0 <| Zx <| at_block <| Zb [3, 10, 8, 9] ?_
 refine at_loopB (e0 := [(3, _), (10, _)]) (H0 := _) (n := _) (fun m e H => ∃ (i : Nat), m = ls.length - i ∧ (i ≤ ls.length) ∧ e = [(3, .string (str (putAll (ls.take i)))), (10, .int .i64 (i : Int))] ∧ H = []) (by exact ⟨0, rfl, Nat.zero_le _, rfl, rfl⟩) (by repeat (first | exact Pull.nil _ | (apply Pull.cons; (focus (repeat (first | exact One.here _ _ | apply One.there)))))) ?_
 rintro _ _ _ ⟨i, rfl, hi, rfl, rfl⟩
 refine Zq <| Zg ?_
 first | refine op_v (p_lss_nat Y Y) ?_ | refine op_v (p_lss Y Y) ?_
 refine Z0 <| Zx <| Zq ?_
 first | refine at_if Y (fun hlt => ?_) (fun hlt => ?_) | refine at_if_bool Y (fun hlt => ?_) (fun hlt => ?_)
 ·
  obtain ⟨x, hx⟩ : ∃ x, ls[i]? = some x := ⟨_, List.getElem?_eq_getElem hlt⟩
  have hxr := hr x (List.mem_of_getElem? hx)
  have htk : ls.take (i + 1) = ls.take i ++ [x] := by rw [List.take_add_one, hx]; rfl
  have hpl := putAll_len (ls.take i) (fun m hm => hr m (List.mem_of_mem_take hm))
  have htl : (ls.take i).length ≤ i := List.length_take_le ..
  have hel := encI_len x hxr.1 hxr.2
  refine at_skip <| Zx <| Zq <| at_block <| Zq <| Zg ?_
  first | (refine op_v (p_indexAddr_nat0 underlying76 sizeOf3 Y Y ?_) ?_; (focus (omega))) | (refine op_v (p_indexAddr_nat1 underlying76 sizeOf3 Y Y ?_) ?_; (focus (omega)))
  refine Zl isAgg3 Y (hv := by exact hin i x hx) ?_
  refine Za Y <| Z0 <| Zx <| Zq <| Zg <| Zm Y <| Zr [_] Y call107 Y rfl (putInt_spec x hxr.1 hxr.2) ?_
  rintro _ _ ⟨rfl, rfl⟩
  refine Zm Y <| Zd Y rfl <| Zd Y rfl <| Za Y <| Za Y <| Z0 <| Zx <| Zg <| Zm Y <| Zm Y ?_
  (refine op_v (p_add_str Y Y ?_) ?_; (focus (rw [str_size, str_size]; omega)))
  refine Za Y <| Z0 <| Zn [3, 8, 9, 10] ?_
  refine nx_block_normal <| Zx <| Zg ?_
  first | (refine op_v (p_add_nat (n := 1) Y Y ?_) ?_; (focus (omega))) | (refine op_v (p_add Y Y (IntWalk.i64_in _ ?_)) ?_; (focus (omega)))
  refine Zm Y <| Z0 <| Zn [3, 10, 8, 9] ?_
  refine nx_againB (e' := [(3, _), (10, _)]) (m := _) (H' := _) (by exact ⟨i + 1, rfl, by omega, by rw [htk, putAll_snoc, ← str_app], rfl⟩)
 ·
  refine at_exit <| Zt <| Zt <| nx_block_exit <| Zx <| Zq <| Zg <| Zm Y <| Za Y <| Z0 <| Zx <| at_ret ?_
  refine nx_end1 rfl results52 Y (by exact ⟨by rw [List.take_of_length_le (by omega)], rfl⟩)

theorem lt_isd (s : List UInt8) : DoesR Tryz.prog 49 #[.string (str s)] [] (.bool (decide (s.length = 32))) := by
 have hss := str_size s
 refine spec_enter func49 rfl ntmps49 rfl ?_
 intro u R
 refine Zb [0] ?_
 refine Zq <| Zg <| Za Y <| Z0 <| Zx <| Zq <| Zg <| Zm Y <| Zv (p_len_str underlying9 Y) ?_
 first | refine op_v (p_eql_nat (n := 32) Y Y) ?_ | refine op_v (p_eql Y Y) ?_
 refine Za Y <| Z0 <| Zx <| at_ret ?_
 refine nx_end1 rfl results49 Y (by exact ⟨by rw [hss], rfl⟩)

theorem lt_valid (p : Int) (a b : List UInt8) : DoesR Tryz.prog 112 #[.agg #[.int .i64 p, .string (str a), .string (str b)]] [] (.bool (decide ((0 ≤ p ∧ p ≤ 10000) ∧ a.length = 32 ∧ b.length = 32))) := by
 refine spec_enter func112 rfl ntmps112 rfl ?_
 intro u R
 refine Zb [0] ?_
 refine Zq <| Zg <| Ze (w_box Y (cs := #[_, _, _]) rfl) ?_
 rintro _ _ ⟨b1, rfl, rfl⟩
 refine Za Y <| Z0 <| Zx <| Zq <| Zg <| Zh 0 underlying46 rfl rfl sizeOf3 Y <| Zl isAgg3 Y ?_
 first | refine op_v (p_geq_nat (n := 0) Y Y) ?_ | refine op_v (p_geq Y Y) ?_
 refine Zm Y ?_
 first | refine ops_split (t := 6) Y rfl (fun h1 => ?_) (fun h1 => ?_) | refine ops_split_bool (t := 6) Y rfl (fun h1 => ?_) (fun h1 => ?_)
 ·
  refine op_wg Y (p_fieldAddr0 (off := 0) underlying46 rfl rfl sizeOf3 Y) rfl rfl ?_
  refine op_rg Y (by repeat (first | exact Has.here _ | apply Has.there)) (p_load isAgg3 Y (by rfl)) rfl rfl ?_
  first | refine op_wg Y (p_leq_nat (n := 10000) Y Y) rfl rfl ?_ | refine op_wg Y (p_leq Y Y) rfl rfl ?_
  refine Zv (p_pick_t Y Y) <| Zm Y ?_
  first | refine ops_split (t := 11) Y rfl (fun h2 => ?_) (fun h2 => ?_) | refine ops_split_bool (t := 11) Y rfl (fun h2 => ?_) (fun h2 => ?_)
  ·
   refine op_wg Y (p_fieldAddr0 (off := 1) underlying46 rfl rfl sizeOf9 Y) rfl rfl ?_
   refine op_rg Y (by repeat (first | exact Has.here _ | apply Has.there)) (p_load isAgg9 Y (by rfl)) rfl rfl ?_
   refine Zr [_] Y call49 Y rfl (lt_isd a) ?_
   rintro _ _ ⟨rfl, rfl⟩
   refine Zv (p_pick_t Y Y) <| Zm Y ?_
   first | refine ops_split (t := 16) Y rfl (fun h3 => ?_) (fun h3 => ?_) | refine ops_split_bool (t := 16) Y rfl (fun h3 => ?_) (fun h3 => ?_)
   ·
    refine op_wg Y (p_fieldAddr0 (off := 2) underlying46 rfl rfl sizeOf9 Y) rfl rfl ?_
    refine op_rg Y (by repeat (first | exact Has.here _ | apply Has.there)) (p_load isAgg9 Y (by rfl)) rfl rfl ?_
    refine Zr [_] Y call49 Y rfl (lt_isd b) ?_
    rintro _ _ ⟨rfl, rfl⟩
    refine Zv (p_pick_t Y Y) <| Za Y <| Z0 <| Zn [2] ?_
    refine Zx <| at_ret ?_
    refine nx_end1 rfl results112 Y (by exact ⟨by first | (simp_all; done) | rw [decide_eq_false (fun h9 => by have h91 := h9.1; omega)], rfl⟩)
   ·
    refine op_skip Y rfl <| op_skip Y rfl <| op_skip Y rfl <| Zv (p_pick_f Y Y) <| Za Y <| Z0 <| Zn [2] ?_
    refine Zx <| at_ret ?_
    refine nx_end1 rfl results112 Y (by exact ⟨by first | (simp_all; done) | rw [decide_eq_false (fun h9 => by have h91 := h9.1; omega)], rfl⟩)
  ·
   refine op_skip Y rfl <| op_skip Y rfl <| op_skip Y rfl <| Zv (p_pick_f Y Y) <| Zm Y <| op_skip Y rfl <| op_skip Y rfl <| op_skip Y rfl <| Zv (p_pick_f Y Y) <| Za Y <| Z0 <| Zn [2] ?_
   refine Zx <| at_ret ?_
   refine nx_end1 rfl results112 Y (by exact ⟨by first | (simp_all; done) | rw [decide_eq_false (fun h9 => by have h91 := h9.1; omega)], rfl⟩)
 ·
  refine op_skip Y rfl <| op_skip Y rfl <| op_skip Y rfl <| Zv (p_pick_f Y Y) <| Zm Y <| op_skip Y rfl <| op_skip Y rfl <| op_skip Y rfl <| Zv (p_pick_f Y Y) <| Zm Y <| op_skip Y rfl <| op_skip Y rfl <| op_skip Y rfl <| Zv (p_pick_f Y Y) <| Za Y <| Z0 <| Zn [2] ?_
  refine Zx <| at_ret ?_
  refine nx_end1 rfl results112 Y (by exact ⟨by first | (simp_all; done) | rw [decide_eq_false (fun h9 => by have h91 := h9.1; omega)], rfl⟩)

/-- A head of the log. -/
structure HeadM where
  p : Int
  ch : List UInt8
  st : List UInt8
def HeadsIn (M : List Chunk) (v : Value) (hs : List HeadM) : Prop := ∃ p cap, v = .slice p hs.length cap ∧ hs.length ≤ maxLen ∧ ∀ (i : Nat) (h : HeadM), hs[i]? = some h → ∃ g off cur T zz, p = some ⟨g, off, none⟩ ∧ (g, Obj.cells cur T zz) ∈ M ∧ off + i * 3 + 3 ≤ cur.size ∧ cur.extract (off + i * 3) (off + i * 3 + 3) = #[.int .i64 h.p, .string (str h.ch), .string (str h.st)]

theorem lt_head (xp : Nat) (v0 : Value) (q : Option Addr) (cap : Nat) (hs : List HeadM) (M : List Chunk) (hO : HeadsIn M (.slice q hs.length cap) hs) (i : Nat) (x : HeadM) (hx : hs[i]? = some x) : DoesR Tryz.prog 15 #[.pointer (some ⟨xp, 0, none⟩), .int .i64 (i : Int)] [[(xp, .cells #[v0, .slice q hs.length cap] 117 (0, 0))], M] (.tuple #[.agg #[.int .i64 x.p, .string (str x.ch), .string (str x.st)], .bool true]) := by
 have hml : maxLen = 9223372036854775807 := rfl
 obtain ⟨p9, cap9, e9, hol, hg⟩ := hO
 injection e9 with e91 e92 e93
 subst e91 e93
 have hlt := (List.getElem?_eq_some_iff.1 hx).1
 obtain ⟨g, off, cur, T, zz, rfl, hm, hsz, hex⟩ := hg i x hx
 refine spec_enter func15 rfl ntmps15 rfl ?_
 intro u R
 refine Zb [0, 1] ?_
 refine Zq <| Zg <| Ze (w_alloc zeroValue46 (cs := #[_, _, _]) rfl) ?_
 rintro _ _ ⟨b1, rfl, rfl⟩
 refine Za Y <| Z0 <| Zx <| Zq <| Zq <| Zg <| Zm Y ?_
 first | refine op_v (p_eql_nil_nil underlying33 Y Y) ?_ | refine op_v (p_eql_ptr_nil underlying33 Y Y) ?_
 refine Zm Y ?_
 refine ops_split_bool (t := 8) Y rfl (fun h1 => ?_) (fun h1 => ?_)
 ·
  cases h1
 ·
  refine Zf Y Y ?_
  first | refine op_wg Y (p_lss_nat (n := 0) Y Y) rfl rfl ?_ | refine op_wg Y (p_lss Y Y) rfl rfl ?_
  refine Zv (p_pick_f Y Y) <| Zm Y ?_
  first | refine ops_split (t := 12) Y rfl (fun h2 => ?_) (fun h2 => ?_) | refine ops_split_bool (t := 12) Y rfl (fun h2 => ?_) (fun h2 => ?_)
  ·
   exfalso; omega
  ·
   refine Zf Y Y <| Zf Y Y <| op_wg Y (p_nilChk Y rfl) rfl rfl ?_
   refine op_wg Y (p_fieldAddr0 (off := 1) underlying117 rfl rfl sizeOf115 Y) rfl rfl ?_
   refine op_rg Y (by repeat (first | exact Has.here _ | apply Has.there)) (p_load isAgg115 Y (by rfl)) rfl rfl ?_
   refine op_wg Y (p_len_slice underlying115 Y) rfl rfl ?_
   first | refine op_wg Y (p_geq_nat Y Y) rfl rfl ?_ | refine op_wg Y (p_geq Y Y) rfl rfl ?_
   refine Zv (p_pick_f Y Y) <| Z0 <| Zn [0, 1, 4, 20] ?_
   refine Zx ?_
   first | refine at_if Y (fun h3 => ?_) (fun h3 => ?_) | refine at_if_bool Y (fun h3 => ?_) (fun h3 => ?_)
   ·
    exfalso; omega
   ·
    refine at_skip <| Zx <| Zq <| Zg <| Zm Y <| Zp Y rfl <| Zh 1 underlying117 rfl rfl sizeOf115 Y <| Zl isAgg115 Y ?_
    refine Zm Y ?_
    (refine op_v (p_indexAddr_nat underlying115 sizeOf46 Y Y ?_) ?_; (focus (first | omega | decide | (simp; done))))
    refine op_rm (cs := [(g, .cells cur T zz)]) (by simp [hm]) (p_load_agg (cs := #[.int .i64 x.p, .string (str x.ch), .string (str x.st)]) isAgg46 sizeOf46 Y (by omega) hex) rfl rfl ?_
    refine Ze (w_store_agg sizeOf46 Y Y (by first | (simp [Value.oneCell']; done) | (simp [Value.oneCell', Value.cells]; done)) (by repeat (first | exact Upd.here _ | apply Upd.there)) (by rfl) (by first | rfl | (simp; done)) (by first | omega | decide | (simp; done)) (by exact free_zero _)) ?_
    rintro _ _ ⟨rfl, rfl⟩
    refine Za Y <| Z0 <| Zx <| at_ret ?_
    refine nx_endct rfl results15 Y (by repeat (first | exact Has.here _ | apply Has.there)) (loadVar_agg isAgg46 sizeOf46 (by first | decide | exact Nat.le_refl _ | (simp; done) | (simp; omega)) (rfl)) Y (by exact ⟨rfl, rfl⟩)

end Go.Proofs.YthbadolcncojbaaGreatDoor
