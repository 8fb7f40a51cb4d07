/- The reference of layer 4: Apply. -/
import Derived.Test.YtkgmgmkbgnkdnaaGreatEz
import Derived.Test.YtkgmgmkbgnkdnaaGreatLg8
namespace Go.Proofs.YtkgmgmkbgnkdnaaGreat
open Go.Proofs.Tryz
open Go Go.RowKit Gw
set_option linter.unusedVariables false
set_option linter.unusedSimpArgs false
set_option maxRecDepth 100000
attribute [local irreducible] Gw.At Gw.Nx Gw.Ops
theorem rowS_eq {sz : Nat} {e : TypeId} {v : Value} {n n' : Nat} {xs xs' : List Value} {s : List Chunk} (h : RowS sz e v n xs s) (hn : n = n') (hx : xs = xs') : RowS sz e v n' xs' s := by subst hn hx; exact h
theorem rowS_le {sz : Nat} {e : TypeId} {b : Option Addr} {n c : Nat} {xs : List Value} {s : List Chunk} (h : RowS sz e (.slice b n c) n xs s) : n ≤ c := by
  obtain ⟨_, ⟨hv, h0, _⟩ | ⟨_, _, _, _, hv, _, h2, _⟩⟩ := h
  · omega
  · injection hv with _ _ hv3; omega
theorem subS_none (sz : Nat) (b : Option Addr) (c : Nat) : SubVS sz (.slice b 0 c) 0 [] [] := ⟨by simp, .inl ⟨rfl, b, c, rfl⟩⟩
theorem subS_new (sz g k c : Nat) (e : TypeId) (z : Nat × Nat) (xs : List Value) (h : xs.length = k * sz) : SubVS sz (.slice (some ⟨g, 0, none⟩) k c) k xs [(g, .cells xs.toArray e z)] :=
  ⟨h, .inr ⟨g, 0, c, xs.toArray, e, z, rfl, rfl, by unfold CellsIn; rw [List.drop_zero]; simp⟩⟩
theorem newC_t {c : Chg} (h : c.has = true) : newC c = [⟨c.t, c.k, c.n⟩] := if_pos h
theorem newC_f {c : Chg} (h : c.has = false) : newC c = [] := if_neg (by rw [h]; decide)
theorem sz_tt {rs : List RowM} {cs : List Chg} {i : Nat} {x : Chg} (hx : cs[i]? = some x) (h1 : x.had = true) (h2 : x.has = true) : sizeL rs (cs.take (i + 1)) = sizeL rs (cs.take i) - 1 + 1 := by rw [sizeL_next rs cs i x hx]; unfold sizeC; rw [if_pos h2, if_pos h1]; omega
theorem sz_tf {rs : List RowM} {cs : List Chg} {i : Nat} {x : Chg} (hx : cs[i]? = some x) (h1 : x.had = true) (h2 : x.has = false) : sizeL rs (cs.take (i + 1)) = sizeL rs (cs.take i) - 1 := by rw [sizeL_next rs cs i x hx]; unfold sizeC; rw [if_neg (by rw [h2]; decide), if_pos h1]; omega
theorem sz_ft {rs : List RowM} {cs : List Chg} {i : Nat} {x : Chg} (hx : cs[i]? = some x) (h1 : x.had = false) (h2 : x.has = true) : sizeL rs (cs.take (i + 1)) = sizeL rs (cs.take i) + 1 := by rw [sizeL_next rs cs i x hx]; unfold sizeC; rw [if_pos h2, if_neg (by rw [h1]; decide)]; omega
theorem sz_ff {rs : List RowM} {cs : List Chg} {i : Nat} {x : Chg} (hx : cs[i]? = some x) (h1 : x.had = false) (h2 : x.has = false) : sizeL rs (cs.take (i + 1)) = sizeL rs (cs.take i) := by rw [sizeL_next rs cs i x hx]; unfold sizeC; rw [if_neg (by rw [h2]; decide), if_neg (by rw [h1]; decide)]; omega

theorem r4_apply (sp : Nat) (p rp : Int) (v : Value) (rs : List RowM) (sv M : List Chunk) (q : Option Addr) (capc : Nat) (cs : List Chg) (hrow : RowS 5 62 v rs.length (rowCells rs) sv) (hO : ChgsIn M (.slice q cs.length capc) cs) (hs : SortedR rs) (hn : rs.length ≤ 2000) (hp : 0 ≤ p ∧ p ≤ 10000) :
    Does Tryz.prog 20 #[.pointer (some ⟨sp, 0, none⟩), .agg #[.int .i64 rp, .slice q cs.length capc]] [[(sp, .cells #[v, .int .i64 p] 66 (0, 0))], sv, M] (fun r H' => (AppOk rs p rp cs ∧ ∃ v' sv', r = .int .i64 0 ∧ RowS 5 62 v' (putAllR rs cs).length (rowCells (putAllR rs cs)) sv' ∧ H' = [[(sp, .cells #[v', .int .i64 rp] 66 (0, 0))], sv', M]) ∨ (¬ AppOk rs p rp cs ∧ r = .int .i64 40 ∧ H' = [[(sp, .cells #[v, .int .i64 p] 66 (0, 0))], sv, M])) := by
 have hml : maxLen = 9223372036854775807 := rfl
 obtain ⟨qv, capv, rfl⟩ := hrow.form
 have hRI := rowsIn_of hrow (by omega)
 obtain ⟨p9, cap9, e9, hol, hg⟩ := id hO
 injection e9 with e91 e92 e93
 subst e91 e93
 refine spec_enter func20 rfl ntmps20 rfl ?_
 intro u R
 refine Zb [0, 1] ?_
 refine Zq <| Zg <| Ze (w_box Y (cs := #[_, _]) rfl) ?_
 rintro _ _ ⟨rb, rfl, rfl⟩
 refine Za Y <| Z0 <| Zx <| Zq <| Zg <| Zo (by repeat (first | exact Has.here _ | apply Has.there)) (p_load_agg (cs := #[_, _]) isAgg36 sizeOf36 Y (by first | decide | exact Nat.le_refl _ | (simp; done) | (simp; omega)) (by rfl)) ?_
 refine Zr [_] Y call37 Y rfl (r3_validr rp q capc cs M hO) ?_
 rintro _ _ ⟨rfl, rfl⟩
 refine Za Y <| Z0 <| Zx <| Zq <| Zq <| at_draw (n := 12) (0 :: 1 :: 3 :: 7 :: 15 :: 7 :: 39 :: 103 :: 231 :: 487 :: 1023 :: 2047 :: []) 0 (by kernel_rfl) (by kernel_rfl) rfl ?_
 refine Zi 1 0 rfl (p_move Y) <| Zi 3 1 rfl (p_not_dec Y) <| Zi 7 2 rfl (p_move Y) ?_
 refine lin_split (t := 23) Y (fun hv => ?_) (fun hv => ?_)
 ·
  first | rw [decide_eq_true hv] | rw [hv] | skip
  refine Yk 15 3 rfl <| Yk 31 4 rfl <| Yk 63 5 rfl <| Yk 127 6 rfl <| Yk 255 7 rfl <| Yk 511 8 rfl <| Yk 1023 9 rfl <| Yk 2047 10 rfl <| Zi 4095 11 rfl (p_pick_t Y Y) <| lin_nil ?_
  refine Zn [0, 3, 32] ?_
  refine Zx <| at_then Y <| Zq <| Zg <| Za Y <| Z0 <| Zx <| at_ret <| Zt ?_
  refine nx_end1 rfl results20 Y (by exact .inr ⟨fun h => hv h.ok, rfl, rfl⟩)
 ·
  first | rw [decide_eq_false hv] | rw [hv] | skip
  refine lin_wg (D' := 15) 3 Y rfl rfl rfl (p_fieldAddr0 (off := 0) underlying36 rfl rfl sizeOf3 Y) ?_
  refine lin_rg (D' := 31) 4 Y rfl rfl rfl (by repeat (first | exact Has.here _ | apply Has.there)) (p_load isAgg3 Y (by rfl)) ?_
  refine lin_wg (D' := 63) 5 Y rfl rfl rfl (p_move Y) ?_
  refine lin_wg (D' := 127) 6 Y rfl rfl rfl (p_nilChk Y rfl) ?_
  refine lin_wg (D' := 255) 7 Y rfl rfl rfl (p_fieldAddr0 (off := 1) underlying66 rfl rfl sizeOf3 Y) ?_
  refine lin_rg (D' := 511) 8 Y rfl rfl rfl (by repeat (first | exact Has.here _ | apply Has.there)) (p_load isAgg3 Y (by rfl)) ?_
  (refine lin_wg (D' := 1023) 9 Y rfl rfl rfl (p_add Y Y (IntWalk.i64_in _ ?_)) ?_; (focus (omega)))
  refine lin_wg (D' := 2047) 10 Y rfl rfl rfl (p_neq Y Y) ?_
  refine Zi 4095 11 rfl (p_pick_f Y Y) <| lin_nil ?_
  refine Zn [0, 3, 32] ?_
  refine Zx ?_
  refine at_if Y (fun hpos => ?_) (fun hpos => ?_)
  ·
   refine Zq <| Zg <| Za Y <| Z0 <| Zx <| at_ret <| Zt ?_
   refine nx_end1 rfl results20 Y (by exact .inr ⟨fun h => hpos h.pos, rfl, rfl⟩)
  ·
   refine at_skip <| Zx <| Zq ?_
   have hok := Classical.not_not.1 hv
   have hpo := Classical.not_not.1 hpos
   have hcl := hok.len
   have hasc := asc_of hok.ord
   refine Zg <| Zm Y <| Zp Y rfl <| Zh 0 underlying66 rfl rfl sizeOf47 Y <| Zl isAgg47 Y ?_
   refine Zv (p_len_slice underlying47 Y) <| Za Y <| Z0 <| Zx <| Zq <| Zq <| Zg <| Za Y <| Z0 <| Zx <| at_block <| Zb [6, 7, 0, 3] ?_
   refine at_loopB (e0 := [(6, _), (7, _)]) (H0 := _) (n := _) (fun m e H => ∃ (i : Nat), m = cs.length - i ∧ (i ≤ cs.length ∧ (∀ c ∈ cs.take i, fitC rs c)) ∧ e = [(6, .int .i64 (sizeL rs (cs.take i))), (7, .int .i64 (i : Int))] ∧ H = []) (by exact ⟨0, rfl, ⟨Nat.zero_le _, by simp⟩, rfl, rfl⟩) (by repeat (first | exact Pull.nil _ | (apply Pull.cons; (focus (repeat (first | exact One.here _ _ | apply One.there)))))) ?_
   rintro _ _ _ ⟨i, rfl, ⟨hi, hfit⟩, rfl, rfl⟩
   have hsl := sizeL_le rs cs i
   refine Zq <| Zq <| Zg <| Zm Y <| Zh 1 underlying36 rfl rfl sizeOf34 Y <| Zl isAgg34 Y ?_
   refine Zv (p_len_slice underlying34 Y) <| Zv (p_lss_nat Y Y) <| Z0 <| Zx ?_
   refine at_if Y (fun hlt => ?_) (fun hlt => ?_)
   ·
    refine at_skip <| Zx <| Zq <| at_block <| Zq ?_
    obtain ⟨x, hx⟩ : ∃ x, cs[i]? = some x := ⟨_, List.getElem?_eq_getElem hlt⟩
    obtain ⟨g, off, cur, T, zz, rfl, hm, hsz, hex⟩ := hg i x hx
    refine Zg <| Zh 1 underlying36 rfl rfl sizeOf34 Y <| Zl isAgg34 Y ?_
    refine Zm Y ?_
    (refine op_v (p_indexAddr_nat underlying34 sizeOf40 Y Y ?_) ?_; (focus (omega)))
    refine op_rm (cs := [(g, .cells cur T zz)]) (by simp [hm]) (p_load_agg (cs := #[.int .i64 x.t, .int .i64 x.k, .bool x.had, .int .i64 x.o.a, .int .i64 x.o.b, .int .i64 x.o.c, .bool x.has, .int .i64 x.n.a, .int .i64 x.n.b, .int .i64 x.n.c]) isAgg40 sizeOf40 Y (by omega) hex) rfl rfl ?_
    refine Ze (w_alloc zeroValue40 (cs := #[_, _, _, _, _, _, _, _, _, _]) rfl) ?_
    rintro _ _ ⟨cb, rfl, rfl⟩
    refine Ze (w_store_agg sizeOf40 Y Y (by (simp [Value.oneCell']; done)) (by repeat (first | exact Upd.here _ | apply Upd.there)) (by exact (rfl : _ = (#[.int .i64 x.t, .int .i64 x.k, .bool x.had, .int .i64 x.o.a, .int .i64 x.o.b, .int .i64 x.o.c, .bool x.has, .int .i64 x.n.a, .int .i64 x.n.b, .int .i64 x.n.c] : Array Value))) (by first | rfl | (simp; done)) (by exact Nat.le_refl _) (by exact free_zero _)) ?_
    rintro _ _ ⟨rfl, rfl⟩
    refine Z0 <| Zx <| Zq <| Zg <| Zm Y <| Zh 0 underlying40 rfl rfl sizeOf3 Y <| Zl isAgg3 Y ?_
    refine Zh 1 underlying40 rfl rfl sizeOf3 Y <| Zl isAgg3 Y ?_
    refine Zr [_, _, _] Y call19 Y rfl (r4_get sp qv capv p x.t x.k rs sv hRI (by omega) hs) ?_
    rintro _ _ ⟨rfl, rfl⟩
    obtain ⟨gr, hgr⟩ : ∃ gr, gr = getL rs x.t x.k := ⟨_, rfl⟩
    rw [← hgr]
    refine Zm Y <| Zd Y rfl <| Zd Y rfl <| Ze (w_alloc zeroValue62 (cs := #[_, _, _, _, _]) rfl) ?_
    rintro _ _ ⟨xb, rfl, rfl⟩
    refine Ze (w_store_agg sizeOf62 Y Y (by (simp [Value.oneCell']; done)) (by repeat (first | exact Upd.here _ | apply Upd.there)) (by exact (rfl : _ = (#[.int .i64 gr.1.t, .int .i64 gr.1.k, .int .i64 gr.1.v.a, .int .i64 gr.1.v.b, .int .i64 gr.1.v.c] : Array Value))) (by first | rfl | (simp; done)) (by exact Nat.le_refl _) (by exact free_zero _)) ?_
    rintro _ _ ⟨rfl, rfl⟩
    refine Za Y <| Z0 <| Zn [0, 3, 6, 7, 8, 9, 10] ?_
    refine Zx <| Zq <| Zq <| Zg <| Zm Y <| Zh 2 underlying40 rfl rfl sizeOf4 Y <| Zl isAgg4 Y ?_
    refine Zv (p_neq_bool underlying4 Y Y) <| Zm Y ?_
    refine ops_split (t := 63) Y rfl (fun hd1 => ?_) (fun hd1 => ?_)
    ·
     refine op_skip Y rfl <| op_skip Y rfl <| op_skip Y rfl <| op_skip Y rfl <| op_skip Y rfl <| op_skip Y rfl <| op_skip Y rfl <| op_skip Y rfl <| Zv (p_pick_t Y Y) <| Z0 <| Zn [0, 3, 6, 7, 8, 72] ?_
     refine Zx <| at_then Y <| Zq <| Zg <| Za Y <| Z0 <| Zx <| at_ret <| Zt <| nx_block_ret <| Zt <| Zt <| nx_block_ret <| Zt ?_
     refine nx_end1 rfl results20 Y (by exact .inr ⟨fun h => by have h9 := (h.fit x (List.mem_of_getElem? hx)).1; rw [← hgr] at h9; exact hd1 h9, rfl, rfl⟩)
    ·
     refine Zf Y Y <| Zf Y Y ?_
     refine ops_split_bool (t := 65) Y rfl (fun hd2 => ?_) (fun hd2 => ?_)
     ·
      refine Yf 2 underlying62 rfl rfl sizeOf38 Y <| op_rg Y (by repeat (first | exact Has.here _ | apply Has.there)) (p_load_agg (cs := #[_, _, _]) isAgg38 sizeOf38 Y (by exact Nat.le_refl _) (by rfl)) rfl rfl ?_
      refine Yf 3 underlying40 rfl rfl sizeOf38 Y <| op_rg Y (by repeat (first | exact Has.here _ | apply Has.there)) (p_load_agg (cs := #[_, _, _]) isAgg38 sizeOf38 Y (by (simp; done)) (by rfl)) rfl rfl ?_
      refine Yg (p_neq_arr3 (by kernel_rfl) underlying38 underlying3 isAgg3 sizeOf3 Y Y) ?_
      refine Yg (p_pick_t Y Y) <| Zv (p_pick_f Y Y) <| Z0 <| Zn [0, 3, 6, 7, 8, 72] ?_
      refine Zx ?_
      refine at_if Y (fun hd3 => ?_) (fun hd3 => ?_)
      ·
       refine Zq <| Zg <| Za Y <| Z0 <| Zx <| at_ret <| Zt <| nx_block_ret <| Zt <| Zt <| nx_block_ret <| Zt ?_
       refine nx_end1 rfl results20 Y (by exact .inr ⟨fun h => by have h9 := (h.fit x (List.mem_of_getElem? hx)).2; rw [← hgr] at h9; exact hd3 (h9 hd2), rfl, rfl⟩)
      ·
       refine at_skip <| Zx <| Zq <| Zq ?_
       have hfx : fitC rs x := by
         unfold fitC
         rw [← hgr]
         refine ⟨by simpa using hd1, fun h => ?_⟩
         exact Classical.not_not.1 hd3
       refine Zg <| Zh 2 underlying40 rfl rfl sizeOf4 Y <| Zl isAgg4 Y ?_
       refine Z0 <| Zx ?_
       refine at_if_bool Y (fun hh1 => ?_) (fun hh1 => ?_)
       ·
        refine Zg <| Zm Y ?_
        (refine op_v (p_sub Y Y (IntWalk.i64_in _ ?_)) ?_; (focus (omega)))
        refine Za Y <| Z0 <| Zx <| Zq <| Zg <| Zh 6 underlying40 rfl rfl sizeOf4 Y <| Zl isAgg4 Y ?_
        refine Z0 <| Zx ?_
        refine at_if_bool Y (fun hh2 => ?_) (fun hh2 => ?_)
        ·
         refine Zg <| Zm Y <| Yi Y Y <| Za Y <| Z0 <| nx_block_normal <| Zx <| Zg <| Zm Y <| Ya (n := 1) Y Y <| Za Y <| Z0 <| Zn [6, 7, 0, 3] ?_
         refine nx_againB (e' := [(6, _), (7, _)]) (m := _) (H' := _) (by exact ⟨i + 1, rfl, ⟨by omega, fit_more hfit hx hfx⟩, by rw [sz_tt hx hh1 hh2], rfl⟩)
        ·
         refine at_skip <| nx_block_normal <| Zx <| Zg <| Zm Y <| Ya (n := 1) Y Y <| Za Y <| Z0 <| Zn [6, 7, 0, 3] ?_
         refine nx_againB (e' := [(6, _), (7, _)]) (m := _) (H' := _) (by exact ⟨i + 1, rfl, ⟨by omega, fit_more hfit hx hfx⟩, by rw [sz_tf hx hh1 hh2], rfl⟩)
       ·
        refine at_skip <| Zx <| Zq <| Zg <| Zh 6 underlying40 rfl rfl sizeOf4 Y <| Zl isAgg4 Y ?_
        refine Z0 <| Zx ?_
        refine at_if_bool Y (fun hh2 => ?_) (fun hh2 => ?_)
        ·
         refine Zg <| Zm Y <| Yi Y Y <| Za Y <| Z0 <| nx_block_normal <| Zx <| Zg <| Zm Y <| Ya (n := 1) Y Y <| Za Y <| Z0 <| Zn [6, 7, 0, 3] ?_
         refine nx_againB (e' := [(6, _), (7, _)]) (m := _) (H' := _) (by exact ⟨i + 1, rfl, ⟨by omega, fit_more hfit hx hfx⟩, by rw [sz_ft hx hh1 hh2], rfl⟩)
        ·
         refine at_skip <| nx_block_normal <| Zx <| Zg <| Zm Y <| Ya (n := 1) Y Y <| Za Y <| Z0 <| Zn [6, 7, 0, 3] ?_
         refine nx_againB (e' := [(6, _), (7, _)]) (m := _) (H' := _) (by exact ⟨i + 1, rfl, ⟨by omega, fit_more hfit hx hfx⟩, by rw [sz_ff hx hh1 hh2], rfl⟩)
     ·
      refine op_skip Y rfl <| op_skip Y rfl <| op_skip Y rfl <| op_skip Y rfl <| op_skip Y rfl <| Yg (p_pick_f Y Y) <| Zv (p_pick_f Y Y) <| Z0 <| Zn [0, 3, 6, 7, 8, 72] ?_
      refine Zx <| at_else Y <| at_skip <| Zx <| Zq <| Zq ?_
      have hfx : fitC rs x := by
        unfold fitC
        rw [← hgr]
        refine ⟨by simpa using hd1, fun h => ?_⟩
        (rw [h] at hd2; cases hd2)
      refine Zg <| Zh 2 underlying40 rfl rfl sizeOf4 Y <| Zl isAgg4 Y ?_
      refine Z0 <| Zx ?_
      refine at_if_bool Y (fun hh1 => ?_) (fun hh1 => ?_)
      ·
       refine Zg <| Zm Y ?_
       (refine op_v (p_sub Y Y (IntWalk.i64_in _ ?_)) ?_; (focus (omega)))
       refine Za Y <| Z0 <| Zx <| Zq <| Zg <| Zh 6 underlying40 rfl rfl sizeOf4 Y <| Zl isAgg4 Y ?_
       refine Z0 <| Zx ?_
       refine at_if_bool Y (fun hh2 => ?_) (fun hh2 => ?_)
       ·
        refine Zg <| Zm Y <| Yi Y Y <| Za Y <| Z0 <| nx_block_normal <| Zx <| Zg <| Zm Y <| Ya (n := 1) Y Y <| Za Y <| Z0 <| Zn [6, 7, 0, 3] ?_
        refine nx_againB (e' := [(6, _), (7, _)]) (m := _) (H' := _) (by exact ⟨i + 1, rfl, ⟨by omega, fit_more hfit hx hfx⟩, by rw [sz_tt hx hh1 hh2], rfl⟩)
       ·
        refine at_skip <| nx_block_normal <| Zx <| Zg <| Zm Y <| Ya (n := 1) Y Y <| Za Y <| Z0 <| Zn [6, 7, 0, 3] ?_
        refine nx_againB (e' := [(6, _), (7, _)]) (m := _) (H' := _) (by exact ⟨i + 1, rfl, ⟨by omega, fit_more hfit hx hfx⟩, by rw [sz_tf hx hh1 hh2], rfl⟩)
      ·
       refine at_skip <| Zx <| Zq <| Zg <| Zh 6 underlying40 rfl rfl sizeOf4 Y <| Zl isAgg4 Y ?_
       refine Z0 <| Zx ?_
       refine at_if_bool Y (fun hh2 => ?_) (fun hh2 => ?_)
       ·
        refine Zg <| Zm Y <| Yi Y Y <| Za Y <| Z0 <| nx_block_normal <| Zx <| Zg <| Zm Y <| Ya (n := 1) Y Y <| Za Y <| Z0 <| Zn [6, 7, 0, 3] ?_
        refine nx_againB (e' := [(6, _), (7, _)]) (m := _) (H' := _) (by exact ⟨i + 1, rfl, ⟨by omega, fit_more hfit hx hfx⟩, by rw [sz_ft hx hh1 hh2], rfl⟩)
       ·
        refine at_skip <| nx_block_normal <| Zx <| Zg <| Zm Y <| Ya (n := 1) Y Y <| Za Y <| Z0 <| Zn [6, 7, 0, 3] ?_
        refine nx_againB (e' := [(6, _), (7, _)]) (m := _) (H' := _) (by exact ⟨i + 1, rfl, ⟨by omega, fit_more hfit hx hfx⟩, by rw [sz_ff hx hh1 hh2], rfl⟩)
   ·
    have ei : i = cs.length := by omega
    subst ei
    rw [List.take_length] at hfit hsl ⊢
    refine at_exit <| Zt <| Zt <| nx_block_exit <| Zx <| Zq <| Zq <| Zg <| Zm Y <| Zv (p_gtr Y Y) <| Z0 <| Zx ?_
    refine at_if Y (fun hbig => ?_) (fun hbig => ?_)
    ·
     refine Zq <| Zg <| Za Y <| Z0 <| Zx <| at_ret <| Zt ?_
     refine nx_end1 rfl results20 Y (by exact .inr ⟨fun h => by have h9 := h.size; omega, rfl, rfl⟩)
    ·
     refine at_skip <| Zx <| Zq <| Zq <| Zg <| Za Y <| Z0 <| Zx <| at_block <| Zb [11, 0, 3] ?_
     refine at_loopB (e0 := [(11, _)]) (H0 := _) (n := _) (fun m e H => ∃ (i : Nat) (w : Value) (sw : List Chunk), m = cs.length - i ∧ (i ≤ cs.length ∧ RowS 5 62 w (putAllR rs (cs.take i)).length (rowCells (putAllR rs (cs.take i))) sw) ∧ e = [(11, .int .i64 (i : Int))] ∧ H = [[(sp, .cells #[w, .int .i64 p] 66 (0, 0))], sw]) (by exact ⟨0, _, sv, rfl, ⟨Nat.zero_le _, hrow⟩, rfl, rfl⟩) (by repeat (first | exact Pull.nil _ | (apply Pull.cons; (focus (repeat (first | exact One.here _ _ | apply One.there)))))) ?_
     rintro _ _ _ ⟨i, w, sw, rfl, ⟨hi, hrw⟩, rfl, rfl⟩
     obtain ⟨hsq, hfq⟩ := fold_inv hs hasc hfit i hi
     have hlq := len_putAll hs hasc hfit i hi
     have hsl := sizeL_le rs cs i
     obtain ⟨qs, hqs⟩ : ∃ qs, qs = putAllR rs (cs.take i) := ⟨_, rfl⟩
     rw [← hqs] at hrw hsq hlq hfq
     obtain ⟨qw, capw, rfl⟩ := hrw.form
     have hcw := rowS_le hrw
     have hRW := rowsIn_of hrw (by omega)
     refine Zq <| Zq <| Zg <| Zm Y <| Zh 1 underlying36 rfl rfl sizeOf34 Y <| Zl isAgg34 Y ?_
     refine Zv (p_len_slice underlying34 Y) <| Zv (p_lss_nat Y Y) <| Z0 <| Zx ?_
     refine at_if Y (fun hlt => ?_) (fun hlt => ?_)
     ·
      refine at_skip <| Zx <| Zq <| at_block <| Zq ?_
      obtain ⟨x, hx⟩ : ∃ x, cs[i]? = some x := ⟨_, List.getElem?_eq_getElem hlt⟩
      obtain ⟨g, off, cur, T, zz, rfl, hm, hsz, hex⟩ := hg i x hx
      have hfx := hfq i x (Nat.le_refl _) hx
      have hpl := placeL_le qs x.t x.k
      have hput : putL qs x = qs.take (placeL qs x.t x.k) ++ newC x ++ (qs.drop (placeL qs x.t x.k)).drop (if x.had then 1 else 0) := rfl
      obtain ⟨k, hk⟩ : ∃ k, k = placeL qs x.t x.k := ⟨_, rfl⟩
      have hkt : x.had = true → k < qs.length := fun h => by
        obtain ⟨r, _, _, h9, _⟩ := get_some (by rw [hfx.1, h] : (getL qs x.t x.k).2 = true)
        rw [← hk] at h9
        exact (List.getElem?_eq_some_iff.1 h9).1
      rw [← hk] at hpl hput
      refine Zg <| Zh 1 underlying36 rfl rfl sizeOf34 Y <| Zl isAgg34 Y ?_
      refine Zm Y ?_
      (refine op_v (p_indexAddr_nat underlying34 sizeOf40 Y Y ?_) ?_; (focus (omega)))
      refine op_rm (cs := [(g, .cells cur T zz)]) (by simp [hm]) (p_load_agg (cs := #[.int .i64 x.t, .int .i64 x.k, .bool x.had, .int .i64 x.o.a, .int .i64 x.o.b, .int .i64 x.o.c, .bool x.has, .int .i64 x.n.a, .int .i64 x.n.b, .int .i64 x.n.c]) isAgg40 sizeOf40 Y (by omega) hex) rfl rfl ?_
      refine Ze (w_alloc zeroValue40 (cs := #[_, _, _, _, _, _, _, _, _, _]) rfl) ?_
      rintro _ _ ⟨cb, rfl, rfl⟩
      refine Ze (w_store_agg sizeOf40 Y Y (by (simp [Value.oneCell']; done)) (by repeat (first | exact Upd.here _ | apply Upd.there)) (by exact (rfl : _ = (#[.int .i64 x.t, .int .i64 x.k, .bool x.had, .int .i64 x.o.a, .int .i64 x.o.b, .int .i64 x.o.c, .bool x.has, .int .i64 x.n.a, .int .i64 x.n.b, .int .i64 x.n.c] : Array Value))) (by first | rfl | (simp; done)) (by exact Nat.le_refl _) (by exact free_zero _)) ?_
      rintro _ _ ⟨rfl, rfl⟩
      refine Z0 <| Zx <| Zq <| Zg <| Zm Y <| Zh 0 underlying40 rfl rfl sizeOf3 Y <| Zl isAgg3 Y ?_
      refine Zh 1 underlying40 rfl rfl sizeOf3 Y <| Zl isAgg3 Y ?_
      refine Zr [_, _, _] Y call36 Y rfl (r4_place sp qw capw p x.t x.k qs sw hRW (by omega) hsq) ?_
      rintro _ _ ⟨rfl, rfl⟩
      rw [← hk]
      refine Za Y <| Z0 <| Zn [0, 3, 11, 12, 13] ?_
      refine Zx <| Zq <| Zg <| Zm Y <| Zp Y rfl <| Zh 0 underlying66 rfl rfl sizeOf47 Y <| Zl isAgg47 Y ?_
      refine Zm Y ?_
      (refine op_v (p_slice_slice_from underlying47 sizeOf62 Y Y ?_) ?_; (focus (omega)))
      refine Za Y <| Z0 <| Zx <| Zq <| Zq <| Zg <| Zh 2 underlying40 rfl rfl sizeOf4 Y <| Zl isAgg4 Y ?_
      refine Z0 <| Zx ?_
      refine at_if_bool Y (fun hh1 => ?_) (fun hh1 => ?_)
      ·
       have hkl := hkt hh1
       refine Zg <| Zm Y ?_
       (refine op_v (p_slice_slice_from (l := 1) underlying47 sizeOf62 Y Y ?_) ?_; (focus (omega)))
       refine Za Y <| Z0 <| Zx <| Zq <| Zg <| Za Y <| Z0 <| Zn [0, 3, 11, 12, 13, 14, 15] ?_
       refine Zx <| Zq <| Zg <| Zo (by repeat (first | exact Has.here _ | apply Has.there)) (p_load_agg (cs := #[_, _, _, _, _, _, _, _, _, _]) isAgg40 sizeOf40 Y (by exact Nat.le_refl _) (by rfl)) ?_
       refine Zr [_] Y call38 Y rfl (r3_after x) ?_
       rintro _ _ ⟨rfl, rfl⟩
       refine Zm Y <| Zd Y rfl <| Zd Y rfl <| Ze (w_alloc zeroValue62 (cs := #[_, _, _, _, _]) rfl) ?_
       rintro _ _ ⟨xb, rfl, rfl⟩
       refine Ze (w_store_agg sizeOf62 Y Y (by (simp [Value.oneCell']; done)) (by repeat (first | exact Upd.here _ | apply Upd.there)) (by exact (rfl : _ = (#[.int .i64 x.after.t, .int .i64 x.after.k, .int .i64 x.after.v.a, .int .i64 x.after.v.b, .int .i64 x.after.v.c] : Array Value))) (by first | rfl | (simp; done)) (by exact Nat.le_refl _) (by exact free_zero _)) ?_
       rintro _ _ ⟨rfl, rfl⟩
       refine Za Y <| Z0 <| Zx <| Zq <| Zq <| Zg <| Zm Y <| Z0 <| Zx ?_
       refine at_if_bool Y (fun hh2 => ?_) (fun hh2 => ?_)
       ·
        refine Zg <| Zo (by repeat (first | exact Has.here _ | apply Has.there)) (p_load_agg (cs := #[_, _, _, _, _]) isAgg62 sizeOf62 Y (by exact Nat.le_refl _) (by rfl)) ?_
        refine Ze (w_buildSlice (vs := [_]) (cs := [_, _, _, _, _]) underlying47 sizeOf62 zeroValue62 Y rfl rfl rfl rfl rfl) ?_
        rintro _ _ ⟨gb, rfl, rfl⟩
        refine Za Y <| Z0 <| Zx <| Zq <| Zg <| Za Y <| Z0 <| Zn [0, 3, 11, 13, 14, 15, 18] ?_
        refine Zx <| Zq <| at_nil ?_
        refine Zg <| Zm Y <| Zm Y <| Zp Y rfl <| Zh 0 underlying66 rfl rfl sizeOf47 Y <| Zl isAgg47 Y ?_
        refine Zm Y ?_
        (refine op_v (p_slice_slice_to underlying47 sizeOf62 Y Y ?_) ?_; (focus (omega)))
        refine Ze (w_append_subS (by_ := 40) (sz := 5) underlying47 (rfl : Tryz.prog.info? 62 = some Tryz.t62) rfl rfl rfl rfl Y (rowS_nil 5 _) Y (subS_take hrw k _ hpl) (by repeat (first | exact One.here _ _ | apply One.there)) (by repeat (first | exact One.here _ _ | apply One.there)) (by exact fun u hu => rowCells_one qs u (List.mem_of_mem_take hu)) (by omega) (by omega)) ?_
        rintro _ _ ⟨sa, hra, rfl⟩
        obtain ⟨ga, ca, rfl⟩ := hra.form
        refine Zm Y ?_
        refine Ze (w_append_subS (by_ := 40) (sz := 5) underlying47 (rfl : Tryz.prog.info? 62 = some Tryz.t62) rfl rfl rfl rfl Y (hra) Y (subS_new 5 gb 1 1 62 (0, 0) (rowCells [x.after]) rfl) (by repeat (first | exact One.here _ _ | apply One.there)) (by repeat (first | exact One.here _ _ | apply One.there)) (by exact rowCells_one _) (by omega) (by omega)) ?_
        rintro _ _ ⟨sb, hrb, rfl⟩
        obtain ⟨gb, cb, rfl⟩ := hrb.form
        refine Zm Y ?_
        refine Ze (w_append_subS (by_ := 40) (sz := 5) underlying47 (rfl : Tryz.prog.info? 62 = some Tryz.t62) rfl rfl rfl rfl Y (hrb) Y (subS_cut (subS_from hrw k (qs.length - k) (capw - k) (by omega)) 1 (qs.length - k - 1) _ (by omega) (by omega)) (by repeat (first | exact One.here _ _ | apply One.there)) (by repeat (first | exact One.here _ _ | apply One.there)) (by exact fun u hu => rowCells_one qs u (List.mem_of_mem_drop (List.mem_of_mem_drop hu))) (by omega) (by omega)) ?_
        rintro _ _ ⟨sc, hrc, rfl⟩
        have hnew := rowS_eq hrc (n' := (putL qs x).length) (xs' := rowCells (putL qs x)) (by rw [hput, newC_t hh2, if_pos hh1, List.length_append, List.length_append, List.length_take, List.length_drop, List.length_drop]; simp only [List.length_cons, List.length_nil]; omega) (by rw [hput, newC_t hh2, if_pos hh1, rowCells_app, rowCells_app, ← rowCells_take, ← rowCells_drop (qs.drop k) 1, ← rowCells_drop]; rw [after_t hh2]; rfl)
        obtain ⟨gc, cc, rfl⟩ := hrc.form
        refine Za Y <| Z0 <| Zn [0, 3, 11, 18] ?_
        refine Zx <| Zg <| Zm Y <| Zm Y <| Zp Y rfl <| Zh 0 underlying66 rfl rfl sizeOf47 Y <| Ze (Zs sizeOf47 Y Y rfl) ?_
        rintro _ _ ⟨rfl, rfl⟩
        refine Z0 <| nx_block_normal <| Zx <| Zg <| Zm Y <| Ya (n := 1) Y Y <| Za Y <| Z0 <| Zn [11, 0, 3] ?_
        refine nx_againB (e' := [(11, _)]) (m := _) (H' := _) (by exact ⟨i + 1, _, _, rfl, ⟨by omega, by rw [putAllR_next rs cs i x hx, ← hqs]; exact hnew⟩, rfl, rfl⟩)
       ·
        refine at_nil ?_
        refine at_skip <| Zx <| Zq <| Zg <| Za Y <| Z0 <| Zx <| Zq <| at_nil ?_
        refine Zg <| Zm Y <| Zm Y <| Zp Y rfl <| Zh 0 underlying66 rfl rfl sizeOf47 Y <| Zl isAgg47 Y ?_
        refine Zm Y ?_
        (refine op_v (p_slice_slice_to underlying47 sizeOf62 Y Y ?_) ?_; (focus (omega)))
        refine Ze (w_append_subS (by_ := 40) (sz := 5) underlying47 (rfl : Tryz.prog.info? 62 = some Tryz.t62) rfl rfl rfl rfl Y (rowS_nil 5 _) Y (subS_take hrw k _ hpl) (by repeat (first | exact One.here _ _ | apply One.there)) (by repeat (first | exact One.here _ _ | apply One.there)) (by exact fun u hu => rowCells_one qs u (List.mem_of_mem_take hu)) (by omega) (by omega)) ?_
        rintro _ _ ⟨sa, hra, rfl⟩
        obtain ⟨ga, ca, rfl⟩ := hra.form
        refine Zm Y ?_
        refine Ze (w_append_subS (by_ := 40) (sz := 5) underlying47 (rfl : Tryz.prog.info? 62 = some Tryz.t62) rfl rfl rfl rfl Y (hra) Y (subS_none 5 none 0) (by repeat (first | exact One.here _ _ | apply One.there)) (by repeat (first | exact One.here _ _ | apply One.there)) (by simp) (by omega) (by omega)) ?_
        rintro _ _ ⟨sb, hrb, rfl⟩
        obtain ⟨gb, cb, rfl⟩ := hrb.form
        refine Zm Y ?_
        refine Ze (w_append_subS (by_ := 40) (sz := 5) underlying47 (rfl : Tryz.prog.info? 62 = some Tryz.t62) rfl rfl rfl rfl Y (hrb) Y (subS_cut (subS_from hrw k (qs.length - k) (capw - k) (by omega)) 1 (qs.length - k - 1) _ (by omega) (by omega)) (by repeat (first | exact One.here _ _ | apply One.there)) (by repeat (first | exact One.here _ _ | apply One.there)) (by exact fun u hu => rowCells_one qs u (List.mem_of_mem_drop (List.mem_of_mem_drop hu))) (by omega) (by omega)) ?_
        rintro _ _ ⟨sc, hrc, rfl⟩
        have hnew := rowS_eq hrc (n' := (putL qs x).length) (xs' := rowCells (putL qs x)) (by rw [hput, newC_f hh2, if_pos hh1, List.length_append, List.length_append, List.length_take, List.length_drop, List.length_drop]; simp only [List.length_cons, List.length_nil]; omega) (by rw [hput, newC_f hh2, if_pos hh1, rowCells_app, rowCells_app, ← rowCells_take, ← rowCells_drop (qs.drop k) 1, ← rowCells_drop]; rfl)
        obtain ⟨gc, cc, rfl⟩ := hrc.form
        refine Za Y <| Z0 <| Zn [0, 3, 11, 18] ?_
        refine Zx <| Zg <| Zm Y <| Zm Y <| Zp Y rfl <| Zh 0 underlying66 rfl rfl sizeOf47 Y <| Ze (Zs sizeOf47 Y Y rfl) ?_
        rintro _ _ ⟨rfl, rfl⟩
        refine Z0 <| nx_block_normal <| Zx <| Zg <| Zm Y <| Ya (n := 1) Y Y <| Za Y <| Z0 <| Zn [11, 0, 3] ?_
        refine nx_againB (e' := [(11, _)]) (m := _) (H' := _) (by exact ⟨i + 1, _, _, rfl, ⟨by omega, by rw [putAllR_next rs cs i x hx, ← hqs]; exact hnew⟩, rfl, rfl⟩)
      ·
       refine at_skip <| Zx <| Zq <| Zg <| Za Y <| Z0 <| Zx <| Zq <| Zg <| Zo (by repeat (first | exact Has.here _ | apply Has.there)) (p_load_agg (cs := #[_, _, _, _, _, _, _, _, _, _]) isAgg40 sizeOf40 Y (by exact Nat.le_refl _) (by rfl)) ?_
       refine Zr [_] Y call38 Y rfl (r3_after x) ?_
       rintro _ _ ⟨rfl, rfl⟩
       refine Zm Y <| Zd Y rfl <| Zd Y rfl <| Ze (w_alloc zeroValue62 (cs := #[_, _, _, _, _]) rfl) ?_
       rintro _ _ ⟨xb, rfl, rfl⟩
       refine Ze (w_store_agg sizeOf62 Y Y (by (simp [Value.oneCell']; done)) (by repeat (first | exact Upd.here _ | apply Upd.there)) (by exact (rfl : _ = (#[.int .i64 x.after.t, .int .i64 x.after.k, .int .i64 x.after.v.a, .int .i64 x.after.v.b, .int .i64 x.after.v.c] : Array Value))) (by first | rfl | (simp; done)) (by exact Nat.le_refl _) (by exact free_zero _)) ?_
       rintro _ _ ⟨rfl, rfl⟩
       refine Za Y <| Z0 <| Zn [0, 3, 11, 13, 14, 15, 16, 17] ?_
       refine Zx <| Zq <| Zq <| Zg <| Zm Y <| Z0 <| Zx ?_
       refine at_if_bool Y (fun hh2 => ?_) (fun hh2 => ?_)
       ·
        refine Zg <| Zo (by repeat (first | exact Has.here _ | apply Has.there)) (p_load_agg (cs := #[_, _, _, _, _]) isAgg62 sizeOf62 Y (by exact Nat.le_refl _) (by rfl)) ?_
        refine Ze (w_buildSlice (vs := [_]) (cs := [_, _, _, _, _]) underlying47 sizeOf62 zeroValue62 Y rfl rfl rfl rfl rfl) ?_
        rintro _ _ ⟨gb, rfl, rfl⟩
        refine Za Y <| Z0 <| Zx <| Zq <| Zg <| Za Y <| Z0 <| Zx <| Zq <| at_nil ?_
        refine Zg <| Zm Y <| Zm Y <| Zp Y rfl <| Zh 0 underlying66 rfl rfl sizeOf47 Y <| Zl isAgg47 Y ?_
        refine Zm Y ?_
        (refine op_v (p_slice_slice_to underlying47 sizeOf62 Y Y ?_) ?_; (focus (omega)))
        refine Ze (w_append_subS (by_ := 40) (sz := 5) underlying47 (rfl : Tryz.prog.info? 62 = some Tryz.t62) rfl rfl rfl rfl Y (rowS_nil 5 _) Y (subS_take hrw k _ hpl) (by repeat (first | exact One.here _ _ | apply One.there)) (by repeat (first | exact One.here _ _ | apply One.there)) (by exact fun u hu => rowCells_one qs u (List.mem_of_mem_take hu)) (by omega) (by omega)) ?_
        rintro _ _ ⟨sa, hra, rfl⟩
        obtain ⟨ga, ca, rfl⟩ := hra.form
        refine Zm Y ?_
        refine Ze (w_append_subS (by_ := 40) (sz := 5) underlying47 (rfl : Tryz.prog.info? 62 = some Tryz.t62) rfl rfl rfl rfl Y (hra) Y (subS_new 5 gb 1 1 62 (0, 0) (rowCells [x.after]) rfl) (by repeat (first | exact One.here _ _ | apply One.there)) (by repeat (first | exact One.here _ _ | apply One.there)) (by exact rowCells_one _) (by omega) (by omega)) ?_
        rintro _ _ ⟨sb, hrb, rfl⟩
        obtain ⟨gb, cb, rfl⟩ := hrb.form
        refine Zm Y ?_
        refine Ze (w_append_subS (by_ := 40) (sz := 5) underlying47 (rfl : Tryz.prog.info? 62 = some Tryz.t62) rfl rfl rfl rfl Y (hrb) Y (subS_from hrw k (qs.length - k) _ (by omega)) (by repeat (first | exact One.here _ _ | apply One.there)) (by repeat (first | exact One.here _ _ | apply One.there)) (by exact fun u hu => rowCells_one qs u (List.mem_of_mem_drop hu)) (by omega) (by omega)) ?_
        rintro _ _ ⟨sc, hrc, rfl⟩
        have hnew := rowS_eq hrc (n' := (putL qs x).length) (xs' := rowCells (putL qs x)) (by rw [hput, newC_t hh2, if_neg (by rw [hh1]; decide), List.length_append, List.length_append, List.length_take, List.length_drop, List.length_drop]; simp only [List.length_cons, List.length_nil]; omega) (by rw [hput, newC_t hh2, if_neg (by rw [hh1]; decide), rowCells_app, rowCells_app, ← rowCells_take, ← rowCells_drop (qs.drop k) 0, ← rowCells_drop, Nat.zero_mul, List.drop_zero]; rw [after_t hh2]; rfl)
        obtain ⟨gc, cc, rfl⟩ := hrc.form
        refine Za Y <| Z0 <| Zn [0, 3, 11, 18] ?_
        refine Zx <| Zg <| Zm Y <| Zm Y <| Zp Y rfl <| Zh 0 underlying66 rfl rfl sizeOf47 Y <| Ze (Zs sizeOf47 Y Y rfl) ?_
        rintro _ _ ⟨rfl, rfl⟩
        refine Z0 <| nx_block_normal <| Zx <| Zg <| Zm Y <| Ya (n := 1) Y Y <| Za Y <| Z0 <| Zn [11, 0, 3] ?_
        refine nx_againB (e' := [(11, _)]) (m := _) (H' := _) (by exact ⟨i + 1, _, _, rfl, ⟨by omega, by rw [putAllR_next rs cs i x hx, ← hqs]; exact hnew⟩, rfl, rfl⟩)
       ·
        refine at_nil ?_
        refine at_skip <| Zx <| Zq <| Zg <| Za Y <| Z0 <| Zx <| Zq <| at_nil ?_
        refine Zg <| Zm Y <| Zm Y <| Zp Y rfl <| Zh 0 underlying66 rfl rfl sizeOf47 Y <| Zl isAgg47 Y ?_
        refine Zm Y ?_
        (refine op_v (p_slice_slice_to underlying47 sizeOf62 Y Y ?_) ?_; (focus (omega)))
        refine Ze (w_append_subS (by_ := 40) (sz := 5) underlying47 (rfl : Tryz.prog.info? 62 = some Tryz.t62) rfl rfl rfl rfl Y (rowS_nil 5 _) Y (subS_take hrw k _ hpl) (by repeat (first | exact One.here _ _ | apply One.there)) (by repeat (first | exact One.here _ _ | apply One.there)) (by exact fun u hu => rowCells_one qs u (List.mem_of_mem_take hu)) (by omega) (by omega)) ?_
        rintro _ _ ⟨sa, hra, rfl⟩
        obtain ⟨ga, ca, rfl⟩ := hra.form
        refine Zm Y ?_
        refine Ze (w_append_subS (by_ := 40) (sz := 5) underlying47 (rfl : Tryz.prog.info? 62 = some Tryz.t62) rfl rfl rfl rfl Y (hra) Y (subS_none 5 none 0) (by repeat (first | exact One.here _ _ | apply One.there)) (by repeat (first | exact One.here _ _ | apply One.there)) (by simp) (by omega) (by omega)) ?_
        rintro _ _ ⟨sb, hrb, rfl⟩
        obtain ⟨gb, cb, rfl⟩ := hrb.form
        refine Zm Y ?_
        refine Ze (w_append_subS (by_ := 40) (sz := 5) underlying47 (rfl : Tryz.prog.info? 62 = some Tryz.t62) rfl rfl rfl rfl Y (hrb) Y (subS_from hrw k (qs.length - k) _ (by omega)) (by repeat (first | exact One.here _ _ | apply One.there)) (by repeat (first | exact One.here _ _ | apply One.there)) (by exact fun u hu => rowCells_one qs u (List.mem_of_mem_drop hu)) (by omega) (by omega)) ?_
        rintro _ _ ⟨sc, hrc, rfl⟩
        have hnew := rowS_eq hrc (n' := (putL qs x).length) (xs' := rowCells (putL qs x)) (by rw [hput, newC_f hh2, if_neg (by rw [hh1]; decide), List.length_append, List.length_append, List.length_take, List.length_drop, List.length_drop]; simp only [List.length_cons, List.length_nil]; omega) (by rw [hput, newC_f hh2, if_neg (by rw [hh1]; decide), rowCells_app, rowCells_app, ← rowCells_take, ← rowCells_drop (qs.drop k) 0, ← rowCells_drop, Nat.zero_mul, List.drop_zero]; rfl)
        obtain ⟨gc, cc, rfl⟩ := hrc.form
        refine Za Y <| Z0 <| Zn [0, 3, 11, 18] ?_
        refine Zx <| Zg <| Zm Y <| Zm Y <| Zp Y rfl <| Zh 0 underlying66 rfl rfl sizeOf47 Y <| Ze (Zs sizeOf47 Y Y rfl) ?_
        rintro _ _ ⟨rfl, rfl⟩
        refine Z0 <| nx_block_normal <| Zx <| Zg <| Zm Y <| Ya (n := 1) Y Y <| Za Y <| Z0 <| Zn [11, 0, 3] ?_
        refine nx_againB (e' := [(11, _)]) (m := _) (H' := _) (by exact ⟨i + 1, _, _, rfl, ⟨by omega, by rw [putAllR_next rs cs i x hx, ← hqs]; exact hnew⟩, rfl, rfl⟩)
     ·
      have ei : i = cs.length := by omega
      subst ei
      rw [List.take_length] at hqs
      refine at_exit <| Zt <| Zt <| nx_block_exit <| Zx <| Zq <| Zg <| Zm Y <| Zh 0 underlying36 rfl rfl sizeOf3 Y <| Zl isAgg3 Y ?_
      refine Zp Y rfl <| Zh 1 underlying66 rfl rfl sizeOf3 Y <| Ze (Zs sizeOf3 Y Y rfl) ?_
      rintro _ _ ⟨rfl, rfl⟩
      refine Z0 <| Zx <| Zq <| Zg <| Za Y <| Z0 <| Zx <| at_ret ?_
      refine nx_end1 rfl results20 Y (by exact .inl ⟨⟨hok, hpo, hfit, by omega⟩, _, sw, rfl, by rw [← hqs]; exact hrw, rfl⟩)

end Go.Proofs.YtkgmgmkbgnkdnaaGreat
