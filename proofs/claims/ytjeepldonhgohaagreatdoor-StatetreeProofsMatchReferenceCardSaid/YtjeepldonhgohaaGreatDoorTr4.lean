/- digest.Verify. -/
import Derived.Test.YtjeepldonhgohaaGreatDoorEz
import Derived.Test.YtjeepldonhgohaaGreatDoorTr3
import Derived.Test.YtjeepldonhgohaaGreatDoorEx18

namespace Go.Proofs.YtjeepldonhgohaaGreatDoor
open Go.Proofs.Tryz
open Go Go.RowKit Gw
set_option linter.unusedVariables false
set_option linter.unusedSimpArgs false
set_option maxRecDepth 100000
attribute [local irreducible] Gw.At Gw.Nx Gw.Ops
def oddS (s : Bs) : Bool := !decide (s.length = 32)
theorem any_takeG {α : Type} (p : α → Bool) (ls : List α) (i : Nat) (x : α) (hx : ls[i]? = some x) : (ls.take (i + 1)).any p = ((ls.take i).any p || p x) := by rw [take_snoc hx, List.any_append]; simp
theorem any_atG {α : Type} (p : α → Bool) (ls : List α) (i : Nat) (x : α) (hx : ls[i]? = some x) (h : p x = true) : ls.any p = true := List.any_eq_true.2 ⟨x, List.mem_of_getElem? hx, h⟩
/-- A step from a part to the whole. -/
def joinT (x : Bs × Bool) (o : Bs) : Bs := if x.2 then nodeS x.1 o else nodeS o x.1
theorem join_t {x : Bs} {f : Bool} {o : Bs} (h : f = true) : joinT (x, f) o = nodeS x o := if_pos h
theorem join_f {x : Bs} {f : Bool} {o : Bs} (h : f = false) : joinT (x, f) o = nodeS o x := if_neg (by simp [h])
def sideC (l : List (Bs × Bool)) : List Value := l.flatMap (fun x => [strV x.1, .bool x.2])
theorem sideC_snoc (l : List (Bs × Bool)) (x : Bs × Bool) : sideC (l ++ [x]) = sideC l ++ [strV x.1, .bool x.2] := by unfold sideC; rw [List.flatMap_append]; rfl
/-- What a proof, read from its end, leads to. -/
def valR (s : Bs) : Nat → Nat → List Bs → Option Bs
  | n, _, [] => if n ≤ 1 then some (leafS s) else none
  | n, i, x :: rp => if n ≤ 1 then none else if i < leftN n then (valR s (leftN n) i rp).map (fun v => nodeS v x) else (valR s (n - leftN n) (i - leftN n) rp).map (fun v => nodeS x v)
def verT (root : Bs) (n i : Nat) (s : Bs) (pf : List Bs) : Bool := !(pf.any oddS) && decide (valR s n i pf.reverse = some root)
theorem val_out {s : Bs} {n i : Nat} (h : 2 ≤ n) : valR s n i [] = none := if_neg (by omega)
theorem val_end {s : Bs} {n i : Nat} (h : n ≤ 1) (rp : List Bs) : valR s n i rp = if rp = [] then some (leafS s) else none := by
  cases rp with
  | nil => exact if_pos h
  | cons x rp => exact if_pos h
theorem val_first {s x : Bs} {n i : Nat} {rp : List Bs} (h : 2 ≤ n) (hi : i < leftN n) : valR s n i (x :: rp) = (valR s (leftN n) i rp).map (joinT (x, false)) := by
  show (if n ≤ 1 then _ else _) = _
  rw [if_neg (by omega), if_pos hi]; rfl
theorem val_second {s x : Bs} {n i : Nat} {rp : List Bs} (h : 2 ≤ n) (hi : ¬ i < leftN n) : valR s n i (x :: rp) = (valR s (n - leftN n) (i - leftN n) rp).map (joinT (x, true)) := by
  show (if n ≤ 1 then _ else _) = _
  rw [if_neg (by omega), if_neg hi]; rfl
theorem rev_take {l : List Bs} {k : Nat} {x : Bs} (h : l[k]? = some x) : (l.take (k + 1)).reverse = x :: (l.take k).reverse := by rw [take_snoc h, List.reverse_append]; rfl
theorem way_snoc (w : List (Bs × Bool)) (x : Bs × Bool) (o : Option Bs) : (o.map (joinT x)).map (fun v => w.foldr joinT v) = o.map (fun v => (w ++ [x]).foldr joinT v) := by
  cases o with
  | none => rfl
  | some v => simp
def SidesU (M : List Chunk) (v : Value) (ls : List (Bs × Bool)) : Prop := ∃ p cap, v = .slice p ls.length cap ∧ (ls.length ≤ maxLen ∧ ls.length ≤ cap) ∧ ∀ (i : Nat) (x : Bs × Bool), ls[i]? = some x → ∃ g off cur T zz, p = some ⟨g, off, none⟩ ∧ (g, Obj.cells cur T zz) ∈ M ∧ off + i * 2 + 2 ≤ cur.size ∧ cur.extract (off + i * 2) (off + i * 2 + 2) = #[strV x.1, .bool x.2]
theorem sidesU_row {e : TypeId} {v : Value} {ls : List (Bs × Bool)} {s : List Chunk} (h : RowS 2 e v ls.length (sideC ls) s) (hn : ls.length ≤ maxLen) : SidesU s v ls := by
  obtain ⟨b, cap, rfl⟩ := h.form
  refine ⟨b, cap, rfl, ⟨hn, rowS_le h⟩, fun i x hx => ?_⟩
  obtain ⟨g, cap', cur, z, hv, rfl, hsz, hex⟩ := rowS_ext h i (List.getElem?_eq_some_iff.1 hx).1
  injection hv with hv1 hv2 hv3
  refine ⟨g, 0, cur, e, z, hv1, by simp, by omega, ?_⟩
  unfold sideC at hex
  rw [flat_at _ 2 (fun _=>rfl) ls i x hx] at hex
  rw [Nat.zero_add]
  exact Array.toList_inj.1 hex
theorem foldj_bwd (xs : List (Bs × Bool)) (q : Bs) : (bwd xs).foldl (fun o (x : Nat × (Bs × Bool)) => joinT x.2 o) q = xs.foldr joinT q := by
  have h : (bwd xs).foldl (fun o (x : Nat × (Bs × Bool)) => joinT x.2 o) q = ((bwd xs).map Prod.snd).foldl (fun o x => joinT x o) q := by rw [List.foldl_map]
  rw [h, bwd_snd, List.foldl_reverse]
theorem leaf_len (s : Bs) : (leafS s).length = 32 := sha_len _
theorem str_dec (a b : Bs) : decide (str a = str b) = (!false && decide (some a = some b)) := by
  have h : (str a = str b) ↔ a = b := ⟨fun h => by rw [← str_list a, ← str_list b, h], fun h => by rw [h]⟩
  simp [h]
theorem joinT_len (x : Bs × Bool) (o : Bs) : (joinT x o).length = 32 := by unfold joinT; split <;> exact sha_len _
theorem foldj_len (xs : List (Nat × (Bs × Bool))) (q : Bs) (hq : q.length = 32) : (xs.foldl (fun o (x : Nat × (Bs × Bool)) => joinT x.2 o) q).length = 32 := by
  rcases List.eq_nil_or_concat xs with rfl | ⟨ys, y, rfl⟩
  · exact hq
  · rw [List.concat_eq_append, List.foldl_append]; exact joinT_len _ _

theorem isd_spec (s : Bs) : DoesR Tryz.prog 125 #[.string (str s)] [] (.bool (decide (s.length = 32))) := by
 refine spec_enter func125 rfl ntmps125 rfl ?_
 intro u R
 refine Zb [0] ?_
 refine Zq <| Zg <| Za Y <| Z0 <| Zx <| Zq <| Zg <| Zm Y <| Zv (p_len_str underlying9 Y) <| Zv (p_eql_nat (n := 32) Y Y) <| Za Y <| Z0 <| Zx <| at_ret ?_
 refine nx_end1 rfl results125 Y (by exact ⟨by rw [str_size], rfl⟩)

theorem odd_spec (s : Bs) : DoesR Tryz.prog 124 #[.string (str s)] [] (.bool (oddS s)) := by
 refine spec_enter func124 rfl ntmps124 rfl ?_
 intro u R
 refine Zb [0] ?_
 refine Zq <| Zg <| Za Y <| Z0 <| Zx <| Zq <| Zg <| Zm Y <| Zr [_] Y call125 Y rfl (isd_spec s) ?_
 rintro _ _ ⟨rfl, rfl⟩
 refine Zv (p_not_dec Y) <| Za Y <| Z0 <| Zx <| at_ret ?_
 refine nx_end1 rfl results124 Y (by exact ⟨by unfold oddS; rw [decide_not], rfl⟩)

theorem index_strs {M : List Chunk} {v : Value} {ls : List Bs} (hv : StrsU M v ls) (hn : ls.length ≤ 1000000000) : Does Tryz.prog 143 #[v, .func (.func 124) #[] #[]] [M] (fun r H' => ∃ k : Int, r = .int .i64 k ∧ decide (0 ≤ k) = ls.any oddS ∧ H' = [M]) := by
 have hml : maxLen = 9223372036854775807 := rfl
 obtain ⟨p, cap, rfl, hl, hg⟩ := hv
 refine spec_enter func143 rfl ntmps143 rfl ?_
 intro u R
 refine Zb [0, 1] ?_
 refine Zq <| Zg <| Za Y <| Z0 <| Zx <| Zq <| Zq <| Zg <| Zm Y <| Zv (p_len_slice underlying35 Y) <| Zm Y <| Z0 <| Zx <| at_block <| Zb [8, 0, 1, 7] ?_
 refine at_loopB (e0 := [(8, _)]) (H0 := _) (n := _) (fun m e H => ∃ (i : Nat), m = ls.length - i ∧ (i ≤ ls.length ∧ (ls.take i).any oddS = false) ∧ e = [(8, .int .i64 (i : Int))] ∧ H = []) (by exact ⟨0, rfl, ⟨Nat.zero_le _, rfl⟩, rfl, rfl⟩) (by repeat (first | exact Pull.nil _ | (apply Pull.cons; (focus (repeat (first | exact One.here _ _ | apply One.there)))))) ?_
 rintro _ _ _ ⟨i, rfl, ⟨hi9, hany⟩, rfl, rfl⟩
 refine Zq <| Zg <| Zv (p_lss_nat Y Y) <| Z0 <| Zx <| Zq ?_
 refine at_if Y (fun hlt => ?_) (fun hlt => ?_)
 ·
  obtain ⟨x, hx⟩ : ∃ x, ls[i]? = some x := ⟨_, List.getElem?_eq_getElem hlt⟩
  obtain ⟨g, off, cur, T, zz, rfl, hm9, hex9⟩ := hg i x hx
  refine at_skip <| Zx <| Zq <| at_block <| Zq <| Zg <| Zm Y <| Za Y <| Z0 <| Zx <| Zq <| Zg <| Zm Y <| Zm Y <| Zm Y ?_
  (refine op_v (p_indexAddr_nat1 underlying35 sizeOf9 Y Y ?_) ?_; (focus (omega)))
  refine op_rm (cs := [(g, .cells cur T zz)]) (by simp [hm9]) (p_load isAgg9 Y (by exact hex9)) rfl rfl ?_
  refine Zr [_] Y call124 Y rfl (odd_spec x) ?_
  rintro _ _ ⟨rfl, rfl⟩
  refine Z0 <| Zx ?_
  refine at_if_bool Y (fun hlx => ?_) (fun hlx => ?_)
  ·
   refine Zq <| Zg <| Zm Y <| Za Y <| Z0 <| Zx <| at_ret <| nx_block_ret <| Zt <| Zt <| nx_block_ret <| Zt ?_
   refine nx_end1 rfl results143 Y (by exact ⟨(i : Int), rfl, by rw [any_atG _ ls i x hx hlx]; exact decide_eq_true (by omega), rfl⟩)
  ·
   refine at_skip <| nx_block_normal <| Zx <| Zg <| Ya (n := 1) Y Y <| Zm Y <| Z0 <| Zn [8, 0, 1, 7] ?_
   refine nx_againB (e' := [(8, _)]) (m := _) (H' := _) (by exact ⟨i + 1, rfl, ⟨by omega, by rw [any_takeG _ ls i x hx, hany]; exact hlx⟩, rfl, rfl⟩)
 ·
  have ei : i = ls.length := by omega
  subst ei
  rw [List.take_length] at hany
  refine at_exit <| Zt <| Zt <| nx_block_exit <| Zx <| Zq <| Zg <| Za Y <| Z0 <| Zx <| at_ret ?_
  refine nx_end1 rfl results143 Y (by exact ⟨-1, rfl, by rw [hany]; rfl, rfl⟩)

theorem contains_strs {M : List Chunk} {v : Value} {ls : List Bs} (hv : StrsU M v ls) (hn : ls.length ≤ 1000000000) : DoesR Tryz.prog 126 #[v, .func (.func 124) #[] #[]] [M] (.bool (ls.any oddS)) := by
 refine spec_enter func126 rfl ntmps126 rfl ?_
 intro u R
 refine Zb [0, 1] ?_
 refine Zq <| Zg <| Za Y <| Z0 <| Zx <| Zq <| Zg <| Zm Y <| Zm Y <| Zc [_, _] Y call143 Y rfl (index_strs hv hn) ?_
 rintro _ _ ⟨_, ⟨k, rfl, hk, rfl⟩, rfl⟩
 refine Zv (p_geq Y Y) <| Za Y <| Z0 <| Zx <| at_ret ?_
 refine nx_end1 rfl results126 Y (by exact ⟨by rw [← hk], rfl⟩)

theorem all_spec {M : List Chunk} {v : Value} {ls : List Bs} (hv : StrsU M v ls) (hn : ls.length ≤ 1000000000) : DoesR Tryz.prog 96 #[v] [M] (.bool (!(ls.any oddS))) := by
 refine spec_enter func96 rfl ntmps96 rfl ?_
 intro u R
 refine Zb [0] ?_
 refine Zq <| Zg <| Za Y <| Z0 <| Zx <| Zq <| Zg <| Za Y <| Z0 <| Zx <| Zq <| Zg <| Zm Y <| Zm Y <| Zr [_, _] Y call126 Y rfl (contains_strs hv hn) ?_
 rintro _ _ ⟨rfl, rfl⟩
 refine Zv (p_not Y) <| Za Y <| Z0 <| Zx <| at_ret ?_
 refine nx_end1 rfl results96 Y (by exact ⟨rfl, rfl⟩)

theorem take_none (p : Option Addr) (cap : Nat) : DoesR Tryz.prog 97 #[.slice p 0 cap] [] (.tuple #[.string (str []), .slice none 0 0, .bool false]) := by
 refine spec_enter func97 rfl ntmps97 rfl ?_
 intro u R
 refine Zb [0] ?_
 refine Zq <| Zg <| Za Y <| Za Y <| Za Y <| Z0 <| Zx <| Zq <| Zq <| Zg <| Zm Y <| Zv (p_len_slice underlying35 Y) <| Zv (p_eql_nat (n := 0) Y Y) <| Z0 <| Zx ?_
 refine at_if Y (fun h1 => ?_) (fun h1 => ?_)
 ·
  refine Zq <| Zg <| Za Y <| Za Y <| Za Y <| Z0 <| Zx <| at_ret <| Zt ?_
  refine nx_end3 rfl results97 Y Y Y (by exact ⟨rfl, rfl⟩)
 ·
  exfalso; omega

theorem take_some {M : List Chunk} {p : Option Addr} {cap : Nat} {ls : List Bs} (hv : StrsU M (.slice p ls.length cap) ls) (k : Nat) (x : Bs) (hk : ls.length = k + 1) (hx : ls[k]? = some x) : DoesR Tryz.prog 97 #[.slice p ls.length cap] [M] (.tuple #[.string (str x), .slice p k cap, .bool true]) := by
 have hml : maxLen = 9223372036854775807 := rfl
 obtain ⟨p2, cap2, e, hl, hg⟩ := hv
 injection e with e1 e2 e3
 subst e1 e3
 rw [hk] at hl ⊢
 obtain ⟨g, off, cur, T, zz, rfl, hm9, hex9⟩ := hg k x hx
 refine spec_enter func97 rfl ntmps97 rfl ?_
 intro u R
 refine Zb [0] ?_
 refine Zq <| Zg <| Za Y <| Za Y <| Za Y <| Z0 <| Zx <| Zq <| Zq <| Zg <| Zm Y <| Zv (p_len_slice underlying35 Y) <| Zv (p_eql_nat (n := 0) Y Y) <| Z0 <| Zx ?_
 refine at_if Y (fun h1 => ?_) (fun h1 => ?_)
 ·
  exfalso; omega
 ·
  refine at_skip <| Zx <| Zq <| Zg <| Zm Y <| Zv (p_len_slice underlying35 Y) <| Yb (n := 1) Y Y <| Za Y <| Z0 <| Zx <| Zq <| at_draw (n := 10) (0 :: 0 :: 3 :: 7 :: 0 :: 0 :: 48 :: 15 :: 255 :: 511 :: []) 0 (by kernel_rfl) (by kernel_rfl) rfl ?_
  refine Zi 1 0 rfl (p_move Y) <| Zi 3 1 rfl (p_move Y) ?_
  (refine lin_v (D' := 7) 2 (p_indexAddr_nat1 underlying35 sizeOf9 Y Y ?_) ?_; (focus (omega)))
  refine lin_rm (b := g) (x := .cells cur T zz) (D' := 15) 3 rfl rfl rfl (by simp [hm9]) (p_load isAgg9 Y (by exact hex9)) ?_
  refine Zi 31 4 rfl (p_move Y) <| Zi 63 5 rfl (p_move Y) ?_
  (refine lin_v (D' := 127) 6 (p_slice_slice_to underlying35 sizeOf9 Y Y ?_) ?_; (focus (omega)))
  refine Zi 255 7 rfl (p_assign Y) <| Zi 511 8 rfl (p_assign Y) <| Zi 1023 9 rfl (p_assign Y) <| lin_nil ?_
  refine Zn [2, 3, 4] ?_
  refine Zx <| at_ret ?_
  refine nx_end3 rfl results97 Y Y Y (by exact ⟨rfl, rfl⟩)

theorem doesR_frame {P : Program} {f : FuncId} {args : Array Value} {v : Value} {M : List Chunk} (h : DoesR P f args [] v) : DoesR P f args [M] v := fun u R w hs =>
  Calls.mono (h u ([M] ++ R) w hs) fun e w' he => by
    rcases he with ⟨v', H', rfl, ⟨rfl, rfl⟩, h2⟩ | ⟨ch, H', rfl, h1, h2⟩
    · exact .inl ⟨_, [M], rfl, ⟨rfl, rfl⟩, h2⟩
    · exact h1.elim
def lastS (pf : List Bs) (k : Nat) : Bs := if k = 0 then [] else pf.getD (k - 1) []
def restV (p : Option Addr) (k cap : Nat) : Value := if k = 0 then .slice none 0 0 else .slice p (k - 1) cap
theorem take_any {M : List Chunk} {p : Option Addr} {cap : Nat} {pf : List Bs} (hv : StrsU M (.slice p pf.length cap) pf) (k : Nat) (hk : k ≤ pf.length) : DoesR Tryz.prog 97 #[.slice p k cap] [M] (.tuple #[.string (str (lastS pf k)), restV p k cap, .bool (decide (0 < k))]) := by
  rcases k with _ | k
  · exact doesR_frame (take_none p cap)
  · have hx : (pf.take (k + 1))[k]? = some (pf.getD k []) := by
      rw [List.getElem?_take, if_pos (by omega), List.getD_eq_getElem?_getD, List.getElem?_eq_getElem (by omega)]; rfl
    have hl : (pf.take (k + 1)).length = k + 1 := by rw [List.length_take]; omega
    have h := hv.take (k + 1) hk
    have h2 := take_some (ls := pf.take (k + 1)) (p := p) (cap := cap) (by rw [hl]; exact h) k _ hl hx
    rw [hl] at h2
    exact h2

theorem join_spec2 (x : Bs) (f : Bool) (o : Bs) (hx : x.length ≤ 1000000000) (ho : o.length ≤ 1000000000) (Tg : TypeId) (zg : Nat × Nat) : DoesR Tryz.prog 99 #[.agg #[.string (str x), .bool f], .string (str o)] [[(0, .cells (kTab.map u32v).toArray Tg zg)]] (.string (str (joinT (x, f) o))) := by
 refine spec_enter func99 rfl ntmps99 rfl ?_
 intro u R
 refine Zb [0, 1] ?_
 refine Zq <| Zg <| Ze (w_box Y (cs := #[_, _]) rfl) ?_
 rintro _ _ ⟨b1, rfl, rfl⟩
 refine Za Y <| Z0 <| Zx <| Zq <| Zq <| Zg <| Zh 1 underlying142 rfl rfl sizeOf4 Y <| Zl isAgg4 Y ?_
 refine Z0 <| Zx ?_
 refine at_if_bool Y (fun hf => ?_) (fun hf => ?_)
 ·
  refine Zq <| Zg <| Zh 0 underlying142 rfl rfl sizeOf9 Y <| Zl isAgg9 Y ?_
  refine Zm Y <| Zr [_, _] Y call59 Y rfl (node_spec x o hx ho Tg zg) ?_
  rintro _ _ ⟨rfl, rfl⟩
  refine Za Y <| Z0 <| Zx <| at_ret <| Zt ?_
  refine nx_end1 rfl results99 Y (by exact ⟨by rw [join_t hf], rfl⟩)
 ·
  refine at_skip <| Zx <| Zq <| Zg <| Zm Y <| Zh 0 underlying142 rfl rfl sizeOf9 Y <| Zl isAgg9 Y ?_
  refine Zr [_, _] Y call59 Y rfl (node_spec o x ho hx Tg zg) ?_
  rintro _ _ ⟨rfl, rfl⟩
  refine Za Y <| Z0 <| Zx <| at_ret ?_
  refine nx_end1 rfl results99 Y (by exact ⟨by rw [join_f hf], rfl⟩)

theorem backside_spec (p : Option Addr) (n c : Nat) : Does Tryz.prog 98 #[.slice p n c] [] (fun r H' => ∃ b, r = .func (.func 127) #[] #[.pointer (some ⟨b, 0, none⟩)] ∧ H' = [[(b, .cells #[.slice p n c] 138 (0, 0))]]) := by
 refine spec_enter func98 rfl ntmps98 rfl ?_
 intro u R
 refine Zb [0] ?_
 refine Zq <| Zg <| Ze (w_box Y (cs := #[_]) rfl) ?_
 rintro _ _ ⟨b, rfl, rfl⟩
 refine Za Y <| Z0 <| Zx <| Zq <| Zg <| Zv (p_makeFunc (vs := []) (us := [_]) Y Y) ?_
 refine Za Y <| Z0 <| Zx <| at_ret ?_
 refine nx_end1 rfl results98 Y (by exact ⟨_, rfl, rfl⟩)

theorem backside_iter {M : List Chunk} {v : Value} {ls : List (Bs × Bool)} (hv : SidesU M v ls) (b : Nat) (hn : ls.length ≤ 1000000000000) :
    IterSpecA Tryz.prog 127 #[.pointer (some ⟨b, 0, none⟩)] [[(b, .cells #[v] 138 (0, 0))]] (fun s => ∀ c ∈ M, c ∈ s) (fun x => #[.int .i64 ((x.1 : Nat) : Int), .agg #[strV x.2.1, .bool x.2.2]]) (bwd ls) := by
 have hml : maxLen = 9223372036854775807 := rfl
 obtain ⟨p, cap, rfl, hl, hg⟩ := hv
 intro l J hA hy s hJ
 refine spec_enter func127 rfl ntmps127 rfl ?_
 intro u R
 refine Zb [0, 1] ?_
 refine Zq <| Zg <| Zl isAgg138 Y ?_
 refine Zv (p_len_slice underlying138 Y) ?_
 (refine op_v (p_sub Y Y (IntWalk.i64_in _ ?_)) ?_; (focus (omega)))
 refine Za Y <| Z0 <| Zx <| at_block <| Zb [3, 0, 1] ?_
 refine at_loopB (e0 := [(3, _)]) (H0 := _) (n := _) (fun m e H => ∃ (k : Nat) (s : List Chunk), m = 0 + k ∧ (k ≤ ls.length ∧ J ((bwd ls).take (ls.length - k)) s) ∧ e = [(3, .int .i64 ((k : Int) - 1))] ∧ H = [[(b, .cells #[.slice p ls.length cap] 138 (0, 0))], s]) (by exact ⟨ls.length, s, rfl, ⟨Nat.le_refl _, by rw [Nat.sub_self, List.take_zero]; exact hJ⟩, rfl, rfl⟩) (by repeat (first | exact Pull.nil _ | (apply Pull.cons; (focus (repeat (first | exact One.here _ _ | apply One.there)))))) ?_
 rintro _ _ _ ⟨k, s, rfl, ⟨hk, hJ⟩, rfl, rfl⟩
 refine Zq <| Zq <| Zg <| Zm Y <| Zv (p_geq Y Y) <| Z0 <| Zx ?_
 refine at_if Y (fun hlt => ?_) (fun hlt => ?_)
 ·
  obtain ⟨m, rfl⟩ : ∃ m, k = m + 1 := ⟨k - 1, by omega⟩
  rw [show (((m + 1 : Nat) : Int) - 1) = ((m : Nat) : Int) by omega]
  obtain ⟨z9, hz9⟩ : ∃ z9, ls[m]? = some z9 := ⟨_, List.getElem?_eq_getElem (by omega)⟩
  have hb9 := bwd_at hz9
  obtain ⟨g, o, cur, T, zz, rfl, hm, hex8⟩ := hg m z9 hz9
  (obtain ⟨hsz9, hex9⟩ := hex8)
  have hyk := hy _ _ _ s (split_at hb9) hJ
  refine at_skip <| Zx <| Zq <| at_block <| Zq <| Zg <| Zm Y <| Zm Y <| Zl isAgg138 Y ?_
  refine Zm Y ?_
  (refine op_v (p_indexAddr_nat underlying138 sizeOf142 Y Y ?_) ?_; (focus (omega)))
  refine op_rm (cs := [(g, .cells cur T zz)]) (by simp [hA _ s hJ _ hm]) (p_load_agg (cs := #[strV z9.1, .bool z9.2]) isAgg142 sizeOf142 Y (by omega) (by exact hex9)) rfl rfl ?_
  refine Ze (w_yield (vs := [_, _]) Y Y (hyk) (by repeat (first | exact Pull.nil _ | (apply Pull.cons; (focus (repeat (first | exact One.here _ _ | apply One.there))))))) ?_
  rintro _ _ ⟨_, ⟨s', rfl, rfl, hJ'⟩, rfl⟩
  refine Zv (p_not Y) <| Z0 <| Zx ?_
  refine at_if_bool Y (fun hb => ?_) (fun hb => ?_)
  ·
   cases hb
  ·
   refine at_skip <| nx_block_normal <| Zx <| Zg <| Zm Y ?_
   (refine op_v (p_sub Y Y (IntWalk.i64_in _ ?_)) ?_; (focus (omega)))
   refine Za Y <| Z0 <| Zn [3, 0, 1] ?_
   refine nx_againB (e' := [(3, _)]) (m := _) (H' := _) (by exact ⟨m, s', rfl, ⟨by omega, by rw [show ls.length - m = ls.length - (m + 1) + 1 by omega, take_snoc hb9]; exact hJ'⟩, rfl, rfl⟩)
 ·
  have hk0 : k = 0 := by omega
  subst hk0
  rw [Nat.sub_zero, List.take_of_length_le (by rw [bwd_len]; exact Nat.le_refl _)] at hJ
  refine at_exit <| Zt <| Zt <| nx_block_exit ?_
  refine nx_end0 rfl results127 (by exact ⟨s, rfl, hJ⟩)

theorem verify_spec {M : List Chunk} {v : Value} {pf : List Bs} (hv : StrsU M v pf) (hn : pf.length ≤ 1000000) (root s : Bs) (hs : s.length ≤ 140737488354000) (n i : Nat) (hi : i < n) (hb : n ≤ 1000000) (Tg : TypeId) (zg : Nat × Nat) :
    DoesR Tryz.prog 63 #[.string (str root), .int .i64 (n : Int), .int .i64 (i : Int), .string (str s), v] [[(0, .cells (kTab.map u32v).toArray Tg zg)], M] (.bool (verT root n i s pf)) := by
 have hml : maxLen = 9223372036854775807 := rfl
 obtain ⟨p, cap, rfl, hl, hg⟩ := id hv
 refine spec_enterM func63 rfl ntmps63 rfl ?_
 intro u R
 refine Zb [0, 1, 2, 3, 4] ?_
 refine Zq <| Zg <| Za Y <| Z0 <| Zx <| Zq <| Zq <| Zg <| Zm Y <| Zv (p_lss_nat (n := 0) Y Y) <| Zm Y ?_
 refine ops_split (t := 21) Y rfl (fun h1 => ?_) (fun h1 => ?_)
 ·
  exfalso; omega
 ·
  refine Zf Y Y <| Zf Y Y <| Yg (p_geq_nat Y Y) <| Zv (p_pick_f Y Y) <| Zm Y ?_
  refine ops_split (t := 26) Y rfl (fun h2 => ?_) (fun h2 => ?_)
  ·
   exfalso; omega
  ·
   refine Zf Y Y <| Zr [_] Y call96 Y rfl (all_spec hv (by omega)) ?_
   rintro _ _ ⟨rfl, rfl⟩
   refine Yg (p_not Y) <| Zv (p_pick_f Y Y) <| Z0 <| Zn [0, 1, 2, 3, 4, 30] ?_
   refine Zx ?_
   refine at_if_bool Y (fun ha => ?_) (fun ha => ?_)
   ·
    have ha2 : pf.any oddS = true := by simpa using ha
    refine Zq <| Zg <| Za Y <| Z0 <| Zx <| at_ret <| Zt ?_
    refine nx_endM0 rfl (res1 results63 Y) (by exact ⟨by unfold verT; rw [ha2]; rfl, rfl⟩)
   ·
    have ha2 : pf.any oddS = false := by simpa using ha
    have h32 : ∀ x ∈ pf, x.length = 32 := fun x hx => by have h := List.any_eq_false.1 ha2 x hx; simpa [oddS] using h
    refine at_skip <| Zx <| Zq <| Zg <| Za Y <| Z0 <| Zx <| Zq <| at_block <| at_nil ?_
    refine Zb [1, 2, 4, 11, 0, 3] ?_
    refine at_loopB (e0 := [(1, _), (2, _), (4, _), (11, _)]) (H0 := _) (n := _) (fun m e H => ∃ (n2 i2 k : Nat) (way : List (Bs × Bool)) (vw : Value) (sw : List Chunk), m = 0 + n2 ∧ (k ≤ pf.length ∧ i2 < n2 ∧ n2 ≤ n ∧ valR s n i pf.reverse = (valR s n2 i2 (pf.take k).reverse).map (fun v => way.foldr joinT v) ∧ RowS 2 142 vw way.length (sideC way) sw ∧ way.length + k = pf.length ∧ (∀ x ∈ way, x.1.length = 32)) ∧ e = [(1, .int .i64 (n2 : Int)), (2, .int .i64 (i2 : Int)), (4, .slice p k cap), (11, vw)] ∧ H = [sw]) (by exact ⟨n, i, pf.length, [], .slice none 0 0, [], rfl, ⟨Nat.le_refl _, hi, Nat.le_refl _, by rw [List.take_length]; simp, rowS_nil 2 _, by simp, by simp⟩, rfl, rfl⟩) (by repeat (first | exact Pull.nil _ | (apply Pull.cons; (focus (repeat (first | exact One.here _ _ | apply One.there)))))) ?_
    rintro _ _ _ ⟨n2, i2, k, way, vw, sw, rfl, ⟨hk, hi2, hn2, hva, hrw, hwk, hw32⟩, rfl, rfl⟩
    obtain ⟨qw, cw, rfl⟩ := hrw.form
    refine Zq <| Zq <| Zg <| Zm Y <| Zv (p_gtr_nat (n := 1) Y Y) <| Z0 <| Zx ?_
    refine at_if Y (fun hn9 => ?_) (fun hn9 => ?_)
    ·
     have h9 : 2 ≤ n2 := by omega
     have hk1 := left_lt h9
     have hk2 := left_pos n2
     have hk3 := left_ge h9
     refine at_skip <| Zx <| at_block <| Zq <| Zg <| Zm Y <| Zr [_] Y call97 Y rfl (take_any hv k hk) ?_
     rintro _ _ ⟨rfl, rfl⟩
     refine Zm Y <| Zd Y rfl <| Zd Y rfl <| Zd Y rfl <| Za Y <| Za Y <| Za Y <| Z0 <| Zx <| Zq <| Zq <| Zg <| Zm Y <| Zv (p_not_dec Y) <| Z0 <| Zn [0, 1, 2, 3, 11, 12, 13, 40] ?_
     refine Zx ?_
     refine at_if Y (fun ht => ?_) (fun ht => ?_)
     ·
      have hk0 : k = 0 := by omega
      subst hk0
      rw [List.take_zero, List.reverse_nil, val_out h9] at hva
      refine Zq <| Zg <| Za Y <| Z0 <| Zx <| at_ret <| Zt <| nx_block_ret <| Zt <| nx_block_ret <| Zt ?_
      refine nx_endM0 rfl (res1 results63 Y) (by exact ⟨by unfold verT; rw [hva, ha2]; rfl, rfl⟩)
     ·
      obtain ⟨k, rfl⟩ : ∃ m, k = m + 1 := ⟨k - 1, by omega⟩
      obtain ⟨x9, hx9⟩ : ∃ x, pf[k]? = some x := ⟨_, List.getElem?_eq_getElem (by omega)⟩
      have hls : lastS pf (k + 1) = x9 := by show pf.getD k [] = x9; rw [List.getD_eq_getElem?_getD, hx9]; rfl
      have hx32 := h32 x9 (List.mem_of_getElem? hx9)
      have hw33 : ∀ f : Bool, ∀ y ∈ way ++ [(x9, f)], y.1.length = 32 := fun f y hy => by rcases List.mem_append.1 hy with hy | hy; exact hw32 y hy; rw [List.mem_singleton] at hy; rw [hy]; exact hx32
      rw [hls]
      refine at_skip <| Zx <| Zq <| Zg <| Zm Y <| Za Y <| Z0 <| Zx <| Zq <| Zg <| Zm Y <| Zr [_] Y call84 Y rfl (left_spec n2 h9 (by omega)) ?_
      rintro _ _ ⟨rfl, rfl⟩
      refine Za Y <| Z0 <| Zx <| Zq <| Zg <| Zm Y <| Zm Y <| Zm Y <| Zm Y <| Zv (p_geq_nat Y Y) <| Zv (p_build (vs := [(0, _), (1, _)]) (cs := #[_, _]) Y (run_build_struct (pl := #[(0, 1), (1, 1)]) zeroValue142 underlying142 (fun _ => by kernel_rfl) rfl)) ?_
      refine Ze (w_buildSlice (vs := [_]) (cs := [_, _]) underlying138 sizeOf142 zeroValue142 Y rfl rfl rfl rfl rfl) ?_
      rintro _ _ ⟨b1, rfl, rfl⟩
      refine Ze (w_appendS (by_ := 24) (sz := 2) (news := [_, _]) underlying138 (rfl : Tryz.prog.info? 142 = some Tryz.t142) rfl rfl rfl rfl Y hrw Y (by repeat (first | exact One.here _ _ | apply One.there)) (by repeat (first | exact Has.here _ | apply Has.there)) (by rfl) rfl (by simp [Value.oneCell', Value.cells]) (by decide) (by omega) (by omega)) ?_
      rintro _ _ ⟨sw5, hrw5, rfl⟩
      obtain ⟨gw5, cw5, rfl⟩ := hrw5.form
      refine Za Y <| Z0 <| Zn [0, 1, 2, 3, 4, 11, 15] ?_
      refine Zx <| Zq <| Zg <| Zm Y <| Zm Y <| Zv (p_geq_nat Y Y) <| Z0 <| Zx ?_
      refine at_if Y (fun hge => ?_) (fun hge => ?_)
      ·
       have hgd : decide (leftN n2 ≤ i2) = true := decide_eq_true hge
       refine Zg <| Zm Y <| Zm Y <| Yb Y Y <| Zm Y <| Zm Y <| Yb Y Y <| Za Y <| Za Y <| Z0 <| nx_block_normal <| Zn [1, 2, 4, 11, 0, 3] ?_
       refine nx_againB (e' := [(1, _), (2, _), (4, _), (11, _)]) (m := _) (H' := _) (by exact ⟨n2 - leftN n2, i2 - leftN n2, k, way ++ [(x9, true)], _, _, rfl, ⟨by omega, by omega, by omega, by rw [hva, rev_take hx9, val_second h9 (by omega), way_snoc], rowS_eq hrw5 (by simp) (by rw [sideC_snoc]; exact congrArg (fun b => sideC way ++ [strV x9, .bool b]) hgd), by rw [List.length_append]; simp; omega, hw33 true⟩, rfl, rfl⟩)
      ·
       have hgd : decide (leftN n2 ≤ i2) = false := decide_eq_false hge
       refine Zg <| Zm Y <| Za Y <| Z0 <| nx_block_normal <| Zn [1, 2, 4, 11, 0, 3] ?_
       refine nx_againB (e' := [(1, _), (2, _), (4, _), (11, _)]) (m := _) (H' := _) (by exact ⟨leftN n2, i2, k, way ++ [(x9, false)], _, _, rfl, ⟨by omega, by omega, by omega, by rw [hva, rev_take hx9, val_first h9 (by omega), way_snoc], rowS_eq hrw5 (by simp) (by rw [sideC_snoc]; exact congrArg (fun b => sideC way ++ [strV x9, .bool b]) hgd), by rw [List.length_append]; simp; omega, hw33 false⟩, rfl, rfl⟩)
    ·
     refine at_exit <| Zt <| Zt <| nx_block_exit <| Zx <| Zq <| Zg <| Zm Y <| Zr [_] Y call58 Y rfl (leaf_spec s hs Tg zg) ?_
     rintro _ _ ⟨rfl, rfl⟩
     refine Ze (w_alloc zeroValue9 (cs := #[_]) rfl) ?_
     rintro _ _ ⟨ob, rfl, rfl⟩
     refine Ze (Zs sizeOf9 Y Y rfl (hc := by exact (rfl : _ = (#[strV (leafS s)] : Array Value)))) ?_
     rintro _ _ ⟨rfl, rfl⟩
     refine Z0 <| Zx <| Zq <| Zq <| Zg <| Zm Y <| Zc [_] Y call98 Y rfl (backside_spec _ _ _) ?_
     rintro _ _ ⟨_, ⟨bb, rfl, rfl⟩, rfl⟩
     refine Z0 <| Zx <| at_block <| Zb [0, 4, 16, 65] ?_
     refine at_rangeAllX (H0 := _) (R := _) (I := (fun pre H => H = [[(ob, .cells #[strV (pre.foldl (fun o (x : Nat × (Bs × Bool)) => joinT x.2 o) (leafS s))] 9 (0, 0))], sw, [(0, .cells (kTab.map u32v).toArray Tg zg)]])) (E := fun x e Hn => ∃ bx, e = [(18, .pointer (some ⟨bx, 0, none⟩)), (67, .agg #[strV x.2.1, .bool x.2.2]), (66, .int .i64 ((x.1 : Nat) : Int))] ∧ Hn = [[(bx, .cells #[strV x.2.1, .bool x.2.2] 142 (0, 0))]]) rfl Y call127 (backside_iter (ls := way) (sidesU_row hrw (by omega)) bb (by omega)) (fun pre H1 c d h => by subst h; intro x hx; simp [hx]) Y rfl (by repeat (first | exact Pull.nil _ | (apply Pull.cons; (focus (repeat (first | exact One.here _ _ | apply One.there)))))) (rfl) ?ha_7 ?hbd_7 ?hk_7
     case ha_7 =>
      intro _ x _ _
      refine Zg <| Ze (w_alloc zeroValue142 (cs := #[_, _]) rfl) ?_
      rintro _ _ ⟨bx, rfl, rfl⟩
      refine Ze (w_store_agg sizeOf142 Y Y (by simp [strV, Value.oneCell']) (by repeat (first | exact Upd.here _ | apply Upd.there)) (by exact (rfl : _ = (#[strV x.2.1, .bool x.2.2] : Array Value))) (by first | rfl | (simp; done)) (by first | decide | exact Nat.le_refl _ | (simp; done) | (simp; omega)) (by exact free_zero _)) ?_
      rintro _ _ ⟨rfl, rfl⟩
      refine Z0 <| nx_isX (e := [(18, _), (67, _), (66, _)]) (Hn := [[(_, _)]]) ?_
      exact ⟨_, rfl, rfl⟩
     case hbd_7 =>
      intro l pre x post u e9 Hn9 H1 R1 hxs hI hE9
      obtain ⟨bx, rfl, rfl⟩ := hE9
      subst hI
      refine at_block <| Zg <| Zo (by repeat (first | exact Has.here _ | apply Has.there)) (p_load_agg (cs := #[_, _]) isAgg142 sizeOf142 Y (by first | decide | exact Nat.le_refl _ | (simp; done) | (simp; omega)) (by rfl)) ?_
      refine Zl isAgg9 Y ?_
      refine Zr [_, _] Y call99 Y rfl (join_spec2 x.2.1 x.2.2 _ (by rw [hw32 _ (bwd_mem (mem_split hxs))]; omega) (by rw [foldj_len _ _ (leaf_len s)]; omega) Tg zg) ?_
      rintro _ _ ⟨rfl, rfl⟩
      refine Ze (Zs sizeOf9 Y Y rfl) ?_
      rintro _ _ ⟨rfl, rfl⟩
      refine Z0 <| nx_block_normal ?_
      refine nx_round (H' := _) rfl (by rw [List.foldl_append])
     case hk_7 =>
      intro D1 H2 hI2
      subst hI2
      refine Zn [0, 4, 16] ?_
      refine nx_block_normal <| Zx <| Zq <| Zg <| Zm Y <| Zv (p_len_slice underlying35 Y) <| Zv (p_eql_nat (n := 0) Y Y) <| Zm Y ?_
      refine ops_split (t := 74) Y rfl (fun hz => ?_) (fun hz => ?_)
      ·
       have hn1 : n2 ≤ 1 := by omega
       subst hz
       rw [val_end hn1, if_pos (by simp)] at hva
       refine Yl isAgg9 Y ?_
       refine Zf Y Y <| Yg (p_eql_str Y Y) <| Zv (p_pick_t Y Y) <| Za Y <| Z0 <| Zx <| at_ret ?_
       refine nx_endM1 rfl (res1 results63 Y) (by repeat (first | exact One.here _ _ | apply One.there)) (by exact ⟨by unfold verT; rw [ha2, hva, foldj_bwd]; exact congrArg Value.bool (str_dec _ _), rfl⟩)
      ·
       have hn1 : n2 ≤ 1 := by omega
       rw [val_end hn1, if_neg (by intro e; have e2 : (pf.take k).reverse.length = 0 := (by rw [e]; rfl); rw [List.length_reverse, List.length_take] at e2; omega)] at hva
       refine op_skip Y rfl <| op_skip Y rfl <| op_skip Y rfl <| Zv (p_pick_f Y Y) <| Za Y <| Z0 <| Zx <| at_ret ?_
       refine nx_endM1 rfl (res1 results63 Y) (by repeat (first | exact One.here _ _ | apply One.there)) (by exact ⟨by unfold verT; rw [ha2, hva]; rfl, rfl⟩)

end Go.Proofs.YtjeepldonhgohaaGreatDoor
