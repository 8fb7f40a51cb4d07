/- Contracts: Root; Prove refused; the functions of the law of chapter 10. -/
import Derived.Test.YtcbjoojdfelgaaaGreatDoorEz
import Derived.Test.YtcbjoojdfelgaaaGreatDoorTr11
namespace Go.Proofs.YtcbjoojdfelgaaaGreatDoor
open Go.Proofs.Tryz
open Go Go.RowKit Gw
set_option linter.unusedVariables false
set_option linter.unusedSimpArgs false
set_option maxRecDepth 100000
attribute [local irreducible] Gw.At Gw.Nx Gw.Ops
def pickN (c : Int) (n : Nat) : Nat := ((if c < 0 then -(c + 1) else c).tmod n).toNat
theorem pickN_lt (c : Int) (n : Nat) (hn : 0 < n) : pickN c n < n := by
  unfold pickN
  have h1 : 0 ≤ (if c < 0 then -(c + 1) else c) := by split <;> omega
  have h2 := Int.tmod_lt_of_pos (if c < 0 then -(c + 1) else c) (b := (n : Int)) (by omega)
  have h3 := Int.tmod_nonneg (n : Int) h1
  omega
theorem pickN_eq (c : Int) (n : Nat) : (if c < 0 then -(c + 1) else c).tmod n = (pickN c n : Int) := by
  unfold pickN
  have h1 : 0 ≤ (if c < 0 then -(c + 1) else c) := by split <;> omega
  have h3 := Int.tmod_nonneg (n : Int) h1
  omega
theorem put_mem {rs : List RowM} {c : Chg} {x : RowM} (h : x ∈ putL rs c) : x ∈ rs ∨ (c.has = true ∧ x = ⟨c.t, c.k, c.n⟩) := by
  unfold putL at h
  rcases List.mem_append.1 h with h | h
  · rcases List.mem_append.1 h with h | h
    · exact .inl (List.mem_of_mem_take h)
    · exact .inr (newC_mem.1 h)
  · exact .inl (List.mem_of_mem_drop (List.mem_of_mem_drop h))
theorem chg_row {c : Chg} (h : c.ok) (hh : c.has = true) : RowM.ok ⟨c.t, c.k, c.n⟩ := by
  obtain ⟨_, h2, _⟩ := h
  rw [after_t hh] at h2
  exact Classical.not_not.1 fun h9 => h2 (.inr ⟨hh, h9⟩)
theorem putAll_ok : ∀ (cs : List Chg) (rs : List RowM), (∀ r ∈ rs, r.ok) → (∀ c ∈ cs, c.ok) → ∀ r ∈ putAllR rs cs, r.ok
  | [], rs, h, _ => h
  | c :: cs, rs, h, hc => by
    have h1 : ∀ r ∈ putL rs c, r.ok := fun r hr => by
      rcases put_mem hr with hr | ⟨hh, rfl⟩
      · exact h r hr
      · exact chg_row (hc c (by simp)) hh
    exact putAll_ok cs (putL rs c) h1 (fun c hc9 => hc c (by simp [hc9]))
theorem LogOk.rowsOk {l : List RecM} (h : LogOk l) : ∀ i, i ≤ l.length → ∀ r ∈ rowsOf (l.take i), r.ok
  | 0, _ => by intro r hr; simp [rowsOf] at hr
  | i + 1, hi => by
    obtain ⟨r, hr⟩ : ∃ r, l[i]? = some r := ⟨_, List.getElem?_eq_getElem (by omega)⟩
    rw [take_snoc hr, rowsOf_snoc]
    refine putAll_ok _ _ (LogOk.rowsOk h i (by omega)) fun c hc => ?_
    obtain ⟨j, hj⟩ := List.getElem?_of_mem hc
    exact (h i r hr).1.ok.all j c hj
theorem six_take {M : List Chunk} {p : Option Addr} {n cap : Nat} {xs : List (List Int)} (h : SixIn M (.slice p n cap) xs) (k : Nat) (hk : k ≤ n) : SixIn M (.slice p k cap) (xs.take k) := by
  obtain ⟨p9, cap9, e, hl, hg⟩ := h
  injection e with e1 e2 e3
  subst e1 e2 e3
  have e4 : (xs.take k).length = k := by rw [List.length_take]; exact Nat.min_eq_left hk
  refine ⟨p, cap, by rw [e4], by omega, fun i z hz => hg i z ?_⟩
  rw [List.getElem?_take] at hz
  split at hz
  · exact hz
  · cases hz
theorem root_st (v : Value) (p : Int) (rs : List RowM) (s : List Chunk) (hv : StIs v p rs s) (hs : SortedR rs) (hn : rs.length ≤ 2000) (hok : ∀ r ∈ rs, r.ok) (Tg : TypeId) (zg : Nat × Nat) : DoesR Tryz.prog 10 #[v] [[(0, .cells (kTab.map u32v).toArray Tg zg)], s] (.string (str (rootS rs))) := by
 have hml : maxLen = 9223372036854775807 := rfl
 obtain ⟨sp9, mb9, es9, ck9, lm9, rfl, hst9⟩ := id hv
 refine spec_enter func10 rfl ntmps10 rfl ?_
 intro u R
 refine Zb [0] ?_
 refine Zq <| Zg <| Za Y <| Z0 <| Zx <| Zq <| Zq <| Zg <| Zm Y ?_
 first | refine op_v (p_eql_nil_nil underlying24 Y Y) ?_ | refine op_v (p_eql_ptr_nil underlying24 Y Y) ?_
 refine Z0 <| Zx ?_
 refine at_if_bool Y (fun h1 => ?_) (fun h1 => ?_)
 ·
  cases h1
 ·
  refine at_skip <| Zx <| Zq <| Zg <| Zm Y <| Zc [_] Y call32 Y rfl (summ_spec _ p rs s hv hs hn hok Tg zg) ?_
  rintro _ _ ⟨_, ⟨so, hso, rfl⟩, rfl⟩
  have hsu := strsU_row (rowS_eq hso (sumL_len rs).symm rfl) (by rw [sumL_len]; omega)
  refine Zr [_] Y call31 Y rfl (root_spec hsu (by rw [sumL_len]; omega) (fun s h => by obtain ⟨x, _, rfl⟩ := List.mem_map.1 h; have := summ_len hs hn x; omega) Tg zg) ?_
  rintro _ _ ⟨rfl, rfl⟩
  refine Za Y <| Z0 <| Zx <| at_ret ?_
  refine nx_end1 rfl results10 Y (by exact ⟨rfl, rfl⟩)

theorem root_none  : DoesR Tryz.prog 10 #[.pointer none] [] (.string (str [])) := by
 refine spec_enter func10 rfl ntmps10 rfl ?_
 intro u R
 refine Zb [0] ?_
 refine Zq <| Zg <| Za Y <| Z0 <| Zx <| Zq <| Zq <| Zg <| Zm Y ?_
 first | refine op_v (p_eql_nil_nil underlying24 Y Y) ?_ | refine op_v (p_eql_ptr_nil underlying24 Y Y) ?_
 refine Z0 <| Zx ?_
 refine at_if_bool Y (fun h1 => ?_) (fun h1 => ?_)
 ·
  refine Zq <| Zg <| Za Y <| Z0 <| Zx <| at_ret <| Zt ?_
  refine nx_end1 rfl results10 Y (by exact ⟨rfl, rfl⟩)
 ·
  cases h1

theorem prove_none (t c lo hi : Int) : DoesR Tryz.prog 17 #[.pointer none, .int .i64 t, .int .i64 c, .int .i64 lo, .int .i64 hi] [] (.tuple #[.agg #[.int .i64 0, .int .i64 0, .int .i64 0, .int .i64 0, .int .i64 0, .int .i64 0, .slice none 0 0, .slice none 0 0, .slice none 0 0], .int .i64 1]) := by
 refine spec_enter func17 rfl ntmps17 rfl ?_
 intro u R
 refine Zb [0, 1, 2, 3, 4] ?_
 refine Zq <| Zg <| Ze (w_box Y (cs := #[_]) rfl) ?_
 rintro _ _ ⟨b1, rfl, rfl⟩
 refine Ze (w_box Y (cs := #[_]) rfl) ?_
 rintro _ _ ⟨b2, rfl, rfl⟩
 refine Ze (w_box Y (cs := #[_]) rfl) ?_
 rintro _ _ ⟨b3, rfl, rfl⟩
 refine Ze (w_alloc zeroValue53 (cs := #[_, _, _, _, _, _, _, _, _]) rfl) ?_
 rintro _ _ ⟨b4, rfl, rfl⟩
 refine Za Y <| Z0 <| Zx <| Zq <| at_block <| Zq <| Zg <| Zm Y ?_
 first | refine op_v (p_eql_nil_nil underlying24 Y Y) ?_ | refine op_v (p_eql_ptr_nil underlying24 Y Y) ?_
 refine Za Y <| Z0 <| Zx ?_
 refine at_if_bool Y (fun h1 => ?_) (fun h1 => ?_)
 ·
  refine Zq <| Zg <| Zv (p_build (vs := []) (cs := #[_, _, _, _, _, _, _, _, _]) Y (run_build_struct (pl := #[(0, 1), (1, 1), (2, 1), (3, 1), (4, 1), (5, 1), (6, 1), (7, 1), (8, 1)]) zeroValue53 underlying53 (fun _ => by kernel_rfl) rfl)) ?_
  refine Ze (w_store_agg sizeOf53 Y Y (by first | (simp [Value.oneCell']; done) | (simp [Value.oneCell', Value.cells]; done)) (by repeat (first | exact Upd.here _ | apply Upd.there)) (by rfl) (by first | rfl | (simp; done)) (by first | decide | exact Nat.le_refl _ | (simp; done) | (simp; omega)) (by exact free_zero _)) ?_
  rintro _ _ ⟨rfl, rfl⟩
  refine Za Y <| Z0 <| Zx <| at_ret <| nx_block_ret <| Zt ?_
  refine nx_endct rfl results17 Y (by repeat (first | exact Has.here _ | apply Has.there)) (loadVar_agg isAgg53 sizeOf53 (by first | decide | exact Nat.le_refl _ | (simp; done) | (simp; omega)) (rfl)) Y (by exact ⟨rfl, rfl⟩)
 ·
  cases h1

theorem prove_less (q : Addr) (t c : Nat) (ht : t ≤ 3) (hc : c ≤ 3) (lo hi : Int) (hlh : hi < lo) : DoesR Tryz.prog 17 #[.pointer (some q), .int .i64 (t : Int), .int .i64 (c : Int), .int .i64 lo, .int .i64 hi] [] (.tuple #[.agg #[.int .i64 0, .int .i64 0, .int .i64 0, .int .i64 0, .int .i64 0, .int .i64 0, .slice none 0 0, .slice none 0 0, .slice none 0 0], .int .i64 2]) := by
 refine spec_enter func17 rfl ntmps17 rfl ?_
 intro u R
 refine Zb [0, 1, 2, 3, 4] ?_
 refine Zq <| Zg <| Ze (w_box Y (cs := #[_]) rfl) ?_
 rintro _ _ ⟨b1, rfl, rfl⟩
 refine Ze (w_box Y (cs := #[_]) rfl) ?_
 rintro _ _ ⟨b2, rfl, rfl⟩
 refine Ze (w_box Y (cs := #[_]) rfl) ?_
 rintro _ _ ⟨b3, rfl, rfl⟩
 refine Ze (w_alloc zeroValue53 (cs := #[_, _, _, _, _, _, _, _, _]) rfl) ?_
 rintro _ _ ⟨b4, rfl, rfl⟩
 refine Za Y <| Z0 <| Zx <| Zq <| at_block <| Zq <| Zg <| Zm Y ?_
 first | refine op_v (p_eql_nil_nil underlying24 Y Y) ?_ | refine op_v (p_eql_ptr_nil underlying24 Y Y) ?_
 refine Za Y <| Z0 <| Zx ?_
 refine at_if_bool Y (fun h1 => ?_) (fun h1 => ?_)
 ·
  cases h1
 ·
  refine Zq <| Zg <| Zm Y <| Zl isAgg3 Y ?_
  refine Zr [_, _] Y call43 Y rfl (exists_spec (t : Int) (c : Int)) ?_
  rintro _ _ ⟨rfl, rfl⟩
  rw [decide_eq_true (show ((0 ≤ (t : Int) ∧ (t : Int) < 4) ∧ 0 ≤ (c : Int) ∧ (c : Int) < 4) by omega)]
  first | refine op_v (p_not_dec Y) ?_ | refine op_v (p_not Y) ?_
  refine Zm Y ?_
  refine ops_split_bool (t := 29) Y rfl (fun h2 => ?_) (fun h2 => ?_)
  ·
   cases h2
  ·
   refine op_rg Y (by repeat (first | exact Has.here _ | apply Has.there)) (p_load isAgg3 Y (by rfl)) rfl rfl ?_
   refine op_rg Y (by repeat (first | exact Has.here _ | apply Has.there)) (p_load isAgg3 Y (by rfl)) rfl rfl ?_
   first | refine op_wg Y (p_gtr_nat Y Y) rfl rfl ?_ | refine op_wg Y (p_gtr Y Y) rfl rfl ?_
   refine Zv (p_pick_f Y Y) <| Za Y <| Z0 <| Zn [0, 1, 7, 8, 9, 10, 24] ?_
   refine Zx ?_
   first | refine at_if Y (fun h3 => ?_) (fun h3 => ?_) | refine at_if_bool Y (fun h3 => ?_) (fun h3 => ?_)
   ·
    refine Zq <| Zg <| Zv (p_build (vs := []) (cs := #[_, _, _, _, _, _, _, _, _]) Y (run_build_struct (pl := #[(0, 1), (1, 1), (2, 1), (3, 1), (4, 1), (5, 1), (6, 1), (7, 1), (8, 1)]) zeroValue53 underlying53 (fun _ => by kernel_rfl) rfl)) ?_
    refine Ze (w_store_agg sizeOf53 Y Y (by first | (simp [Value.oneCell']; done) | (simp [Value.oneCell', Value.cells]; done)) (by repeat (first | exact Upd.here _ | apply Upd.there)) (by rfl) (by first | rfl | (simp; done)) (by first | decide | exact Nat.le_refl _ | (simp; done) | (simp; omega)) (by exact free_zero _)) ?_
    rintro _ _ ⟨rfl, rfl⟩
    refine Za Y <| Z0 <| Zx <| at_ret <| nx_block_ret <| Zt ?_
    refine nx_endct rfl results17 Y (by repeat (first | exact Has.here _ | apply Has.there)) (loadVar_agg isAgg53 sizeOf53 (by first | decide | exact Nat.le_refl _ | (simp; done) | (simp; omega)) (rfl)) Y (by exact ⟨rfl, rfl⟩)
   ·
    exfalso; omega

theorem pick10 (c : Int) (n : Nat) (hn : 0 < n) (hn2 : n ≤ 1000000) (h1 : -9223372036854775808 ≤ c) (h2 : c ≤ 9223372036854775807) : DoesR Tryz.prog 19 #[.int .i64 c, .int .i64 (n : Int)] [] (.int .i64 (pickN c n : Int)) := by
 refine spec_enter func19 rfl ntmps19 rfl ?_
 intro u R
 refine Zb [0, 1] ?_
 refine Zq <| Zg <| Za Y <| Z0 <| Zx <| Zq <| Zq <| Zg <| Zm Y ?_
 first | refine op_v (p_lss_nat (n := 0) Y Y) ?_ | refine op_v (p_lss Y Y) ?_
 refine Z0 <| Zx ?_
 first | refine at_if Y (fun hc1 => ?_) (fun hc1 => ?_) | refine at_if_bool Y (fun hc1 => ?_) (fun hc1 => ?_)
 ·
  refine Zg <| Zm Y ?_
  first | (refine op_v (p_add_nat (n := 1) Y Y ?_) ?_; (focus (omega))) | (refine op_v (p_add Y Y (IntWalk.i64_in _ ?_)) ?_; (focus (omega)))
  (refine op_v (p_neg Y (IntWalk.i64_in _ ?_)) ?_; (focus (omega)))
  refine Za Y <| Z0 <| Zx <| Zq <| Zg <| Zm Y <| Zm Y ?_
  first | (refine op_v (p_rem_nat Y Y ?_) ?_; (focus (omega))) | (refine op_v (p_rem Y Y ?_ rfl) ?_; (focus (omega)))
  refine Za Y <| Z0 <| Zx <| at_ret ?_
  refine nx_end1 rfl results19 Y (by exact ⟨by rw [← pickN_eq]; simp [*], rfl⟩)
 ·
  refine at_skip <| Zx <| Zq <| Zg <| Zm Y <| Zm Y ?_
  first | (refine op_v (p_rem_nat Y Y ?_) ?_; (focus (omega))) | (refine op_v (p_rem Y Y ?_ rfl) ?_; (focus (omega)))
  refine Za Y <| Z0 <| Zx <| at_ret ?_
  refine nx_end1 rfl results19 Y (by exact ⟨by rw [← pickN_eq]; simp [*], rfl⟩)

theorem asked_spec (a b c d : Int) (ha1 : -9223372036854775808 ≤ a) (ha2 : a ≤ 9223372036854775807) (hb1 : -9223372036854775808 ≤ b) (hb2 : b ≤ 9223372036854775807) (hc1 : -9223372036854775808 ≤ c) (hc2 : c ≤ 9223372036854775807) (hd1 : -9223372036854775808 ≤ d) (hd2 : d ≤ 9223372036854775807) : DoesR Tryz.prog 16 #[.agg #[.int .i64 a, .int .i64 b, .int .i64 c, .int .i64 d]] [] (.agg #[.int .i64 (pickN a 4 : Int), .int .i64 (pickN b 4 : Int), .int .i64 ((pickN c 40 : Int) - 20), .int .i64 ((pickN c 40 : Int) - 20 + (pickN d 20 : Int))]) := by
 have hp1 := pickN_lt a 4 (by decide)
 have hp2 := pickN_lt b 4 (by decide)
 have hp3 := pickN_lt c 40 (by decide)
 have hp4 := pickN_lt d 20 (by decide)
 refine spec_enter func16 rfl ntmps16 rfl ?_
 intro u R
 refine Zb [0] ?_
 refine Zq <| Zg <| Ze (w_box Y (cs := #[_, _, _, _]) rfl) ?_
 rintro _ _ ⟨b1, rfl, rfl⟩
 refine Ze (w_alloc zeroValue49 (cs := #[_, _, _, _]) rfl) ?_
 rintro _ _ ⟨b2, rfl, rfl⟩
 refine Z0 <| Zx <| Zq <| Zg ?_
 first | (refine op_v (p_indexAddr_arr0 (j := 2) underlying49 sizeOf3 Y Y ?_) ?_; (focus (first | omega | decide | (simp; done)))) | (refine op_v (p_indexAddr_arr (j := 2) underlying49 sizeOf3 Y Y ?_) ?_; (focus (first | omega | decide | (simp; done))))
 refine Zl isAgg3 Y ?_
 refine Zr [_, _] Y call19 Y rfl (pick10 c 40 (by decide) (by decide) hc1 hc2) ?_
 rintro _ _ ⟨rfl, rfl⟩
 refine op_w (p_sub Y Y (IntWalk.i64_in _ (by omega))) rfl rfl ?_
 refine Za Y <| Z0 <| Zx <| Zq <| at_draw (n := 14) (0 :: 1 :: 3 :: 0 :: 8 :: 31 :: 0 :: 0 :: 0 :: 256 :: 831 :: 1983 :: 4095 :: 8191 :: []) 9252 (by kernel_rfl) (by kernel_rfl) rfl ?_
 first | (refine lin_v (D' := 1) 0 (p_indexAddr_arr0 (j := 0) underlying49 sizeOf3 Y Y ?_) ?_; (focus (first | omega | decide | (simp; done)))) | (refine lin_v (D' := 1) 0 (p_indexAddr_arr (j := 0) underlying49 sizeOf3 Y Y ?_) ?_; (focus (first | omega | decide | (simp; done))))
 refine Zj 3 1 rfl isAgg3 Y ?_
 first | (refine lin_v (D' := 11) 3 (p_indexAddr_arr0 (j := 1) underlying49 sizeOf3 Y Y ?_) ?_; (focus (first | omega | decide | (simp; done)))) | (refine lin_v (D' := 11) 3 (p_indexAddr_arr (j := 1) underlying49 sizeOf3 Y Y ?_) ?_; (focus (first | omega | decide | (simp; done))))
 refine Zj 27 4 rfl isAgg3 Y ?_
 refine Zi 91 6 rfl (p_move Y) <| Zi 219 7 rfl (p_move Y) ?_
 first | (refine lin_v (D' := 475) 8 (p_indexAddr_arr0 (j := 3) underlying49 sizeOf3 Y Y ?_) ?_; (focus (first | omega | decide | (simp; done)))) | (refine lin_v (D' := 475) 8 (p_indexAddr_arr (j := 3) underlying49 sizeOf3 Y Y ?_) ?_; (focus (first | omega | decide | (simp; done))))
 refine Zj 987 9 rfl isAgg3 Y ?_
 refine Zz (l := [2]) ?_
 refine Zy 3 991 [9, 4, 1] [true, true, false] [(9, (_, _)), (4, (_, _))] rfl Y rfl rfl rfl rfl (Zu [_, _] Y call19 Y rfl (pick10 a 4 (by decide) (by decide) ha1 ha2)) ?hk_1 (fun _ _ h => h.elim) ?hl_1
 case hk_1 =>
  rintro _ _ ⟨rfl, rfl⟩
  refine ⟨Zk (Zk (keep_nil)), ?_⟩
  refine Zz (l := [5]) ?_
  refine Zy 31 1023 [9, 4] [true, false] [(9, (_, _))] rfl Y rfl rfl rfl rfl (Zu [_, _] Y call19 Y rfl (pick10 b 4 (by decide) (by decide) hb1 hb2)) ?hk_2 (fun _ _ h => h.elim) ?hl_2
  case hk_2 =>
   rintro _ _ ⟨rfl, rfl⟩
   refine ⟨Zk (keep_nil), ?_⟩
   refine Zz (l := [10]) ?_
   refine Zy 831 2047 [9] [false] [] rfl Y rfl rfl rfl rfl (Zu [_, _] Y call19 Y rfl (pick10 d 20 (by decide) (by decide) hd1 hd2)) ?hk_3 (fun _ _ h => h.elim) ?hl_3
   case hk_3 =>
    rintro _ _ ⟨rfl, rfl⟩
    refine ⟨keep_nil, ?_⟩
    first | (refine lin_v (D' := 4095) 11 (p_add_nat Y Y ?_) ?_; (focus (first | omega | (simp; omega)))) | (refine lin_v (D' := 4095) 11 (p_add Y Y (IntWalk.i64_in _ ?_)) ?_; (focus (first | omega | (simp; omega))))
    refine Zi 8191 12 rfl (p_build (vs := [(0, .int .i64 (pickN a 4 : Int)), (1, .int .i64 (pickN b 4 : Int)), (2, .int .i64 ((pickN c 40 : Int) - 20)), (3, .int .i64 ((pickN c 40 : Int) - 20 + (pickN d 20 : Int)))]) (cs := #[.int .i64 (pickN a 4 : Int), .int .i64 (pickN b 4 : Int), .int .i64 ((pickN c 40 : Int) - 20), .int .i64 ((pickN c 40 : Int) - 20 + (pickN d 20 : Int))]) Y (run_build_array zeroValue49 underlying49 sizeOf3 (by kernel_rfl))) ?_
    refine Zz (l := [13]) ?_
    refine Zy 8191 16383 [] [] [] rfl Y rfl rfl rfl rfl (w_store_agg sizeOf49 Y Y (by first | (simp [Value.oneCell']; done) | (simp [Value.oneCell', Value.cells]; done)) (by repeat (first | exact Upd.here _ | apply Upd.there)) (by exact (rfl : _ = (#[.int .i64 (pickN a 4 : Int), .int .i64 (pickN b 4 : Int), .int .i64 ((pickN c 40 : Int) - 20), .int .i64 ((pickN c 40 : Int) - 20 + (pickN d 20 : Int))] : Array Value))) (by first | rfl | (simp; done)) (by first | omega | decide | (simp; done)) (by exact free_zero _)) ?hk_4 (fun _ _ h => h.elim) ?hl_4
    case hk_4 =>
     rintro _ _ ⟨rfl, rfl⟩
     refine ⟨keep_nil, ?_⟩
     refine lin_nil ?_
     refine Zn [2] ?_
     refine Zx <| at_ret ?_
     refine nx_endc1 rfl results16 Y (by repeat (first | exact Has.here _ | apply Has.there)) (loadVar_agg isAgg49 sizeOf49 (by first | decide | exact Nat.le_refl _ | (simp; done) | (simp; omega)) (rfl)) (by exact ⟨rfl, rfl⟩)
    case hl_4 =>
     exact each_nil
   case hl_3 =>
    exact each_nil
  case hl_2 =>
   exact each_nil
 case hl_1 =>
  exact each_nil

theorem state_spec {M : List Chunk} {v : Value} {xs : List (List Int)} (hX : SixIn M v xs) : Does Tryz.prog 8 #[v] [M] (fun r H' => ∃ sp mb es ck lm rp w sv sl l, LogOk l ∧ r = .tuple #[.pointer (some ⟨sp, 0, none⟩), .pointer (some ⟨rp, 0, none⟩)] ∧ MapM K2 es ck lm ∧ MapR lm (rowsOf l) ∧ RowS 5 60 w (rowsOf l).length (rowCells (rowsOf l)) sv ∧
      H' = [[(sp, .cells #[.map (some mb), .int .i64 (l.length : Int)] 92 (0, 0))], [(mb, .map es ck)], [(rp, .cells #[w, .int .i64 (l.length : Int)] 31 (0, 0))], sv, sl, M]) := by
 have hml : maxLen = 9223372036854775807 := rfl
 obtain ⟨py, capy, rfl, hyl, hgy⟩ := id hX
 have hX2 := six_take hX (min xs.length 20) (Nat.min_le_left _ _)
 have hyk : (xs.take (min xs.length 20)).length ≤ 20 := by rw [List.length_take]; omega
 refine spec_enter func8 rfl ntmps8 rfl ?_
 intro u R
 refine Zb [0] ?_
 refine Zq <| Zg <| Za Y <| Za Y <| Z0 <| Zx <| Zq <| Zg <| Zm Y <| Zm Y <| Zv (p_len_slice underlying22 Y) ?_
 first | refine op_v (p_min_nat (n := 20) Y Y) ?_ | refine op_v (p_min_int Y Y) ?_
 (refine op_v (p_slice_slice_to underlying22 sizeOf80 Y Y ?_) ?_; (focus (first | omega | (simp; omega))))
 refine Zc [_] Y call13 Y rfl (r4_log hX2 (by omega)) ?_
 rintro _ _ ⟨_, ⟨l, sl, hlog, hll, hRI, rfl⟩, rfl⟩
 obtain ⟨pl, capl, rfl, hlc, hgl⟩ := id hRI
 refine Za Y <| Z0 <| Zx <| Zq <| Zg <| Zm Y <| Zm Y <| Zv (p_len_slice underlying36 Y) <| Zc [_, _] Y call14 Y rfl (st_at pl capl l sl hRI hlog (by omega) l.length (Nat.le_refl _)) ?_
 rintro _ _ ⟨_, ⟨sp, mb, es, ck, lm, rfl, hm, hR, rfl⟩, rfl⟩
 refine Zm Y <| Zd Y rfl <| Zd Y rfl <| Za Y <| Za Y <| Z0 <| Zn [4, 5] ?_
 refine Zx <| Zq <| Zg <| Zm Y <| Zm Y <| Zv (p_len_slice underlying36 Y) <| Zc [_, _] Y call30 Y rfl (r4_at pl capl l sl hRI hlog (by omega) l.length (Nat.le_refl _)) ?_
 rintro _ _ ⟨_, ⟨rp, w, sv, rfl, hrw, rfl⟩, rfl⟩
 refine Zm Y <| Zd Y rfl <| Zd Y rfl <| Za Y <| Za Y <| Z0 <| Zx <| Zq <| Zg <| Zm Y <| Zm Y <| Za Y <| Za Y <| Z0 <| Zn [2, 3] ?_
 refine Zx <| at_ret ?_
 refine nx_end2 rfl results8 Y Y (by rw [List.take_length] at hR hrw; exact ⟨sp, mb, es, ck, lm, rp, w, sv, sl, l, hlog, rfl, hm, hR, hrw, rfl⟩)

end Go.Proofs.YtcbjoojdfelgaaaGreatDoor
