/- eval: folds, measures, joins. -/
import Derived.Test.YtkgmgmkbgnkdnaaGreatEz
import Derived.Test.YtkgmgmkbgnkdnaaGreatQe4
namespace Go.Proofs.YtkgmgmkbgnkdnaaGreat
open Go.Proofs.Tryz
open Go Go.RowKit Gw
set_option linter.unusedVariables false
set_option linter.unusedSimpArgs false
set_option maxRecDepth 100000
attribute [local irreducible] Gw.At Gw.Nx Gw.Ops
def ivQ (n : Int) : Value := .int .i64 n
theorem rowS_make (e : TypeId) (g c : Nat) (z : Value) (h : c ≤ maxLen) : RowS 1 e (.slice (some ⟨g, 0, none⟩) 0 c) 0 [] [(g, .cells (List.replicate c z).toArray e (0, 0))] := ⟨rfl, .inr ⟨g, c, _, (0, 0), rfl, rfl, Nat.zero_le _, h, by simp, by simp, free_zero _⟩⟩
theorem meas_snoc {q : QM} {rows : List RowM} {i : Nat} {r : RowM} (h : rows[i]? = some r) : measT q (rows.take (i + 1)) = measT q (rows.take i) ++ [valL r q.bq] := by
  unfold measT; rw [take_snoc h, List.map_append]; rfl
theorem meas_len (q : QM) (rows : List RowM) : (measT q rows).length = rows.length := by unfold measT; rw [List.length_map]
theorem meas_at {q : QM} {rows : List RowM} {i : Nat} {r : RowM} (h : rows[i]? = some r) : (measT q rows)[i]? = some (valL r q.bq) := by unfold measT; rw [List.getElem?_map, h]; rfl

theorem foldR_spec {M : List Chunk} {v : Value} {rows : List RowM} (hv : RowsU M v rows) {v0 : Int} {f0 : Bool} (st : Nat → Int × Bool) (h0 : st 0 = (v0, f0)) (fid : Nat) (us : List Value) (hcf : ∀ (args : Array Value) (w : World), (callFunc fid args).run Tryz.prog w = .ok (.enter fid args) w) (hf : ∀ (i : Nat) (r : RowM), rows[i]? = some r → DoesR Tryz.prog fid (.agg #[.slice none 0 0, .int .i64 (st i).1, .bool (st i).2] :: .agg #[.int .i64 r.t, .int .i64 r.k, .int .i64 r.v.a, .int .i64 r.v.b, .int .i64 r.v.c] :: us).toArray [M] (.agg #[.slice none 0 0, .int .i64 (st (i + 1)).1, .bool (st (i + 1)).2])) : DoesR Tryz.prog 59 #[v, .agg #[.slice none 0 0, .int .i64 v0, .bool f0], .func (.func fid) #[] us.toArray] [M] (.agg #[.slice none 0 0, .int .i64 (st rows.length).1, .bool (st rows.length).2]) := by
 have hml : maxLen = 9223372036854775807 := rfl
 obtain ⟨p, cap, rfl, ⟨hl, hlc⟩, hg⟩ := id hv
 refine spec_enter func59 rfl ntmps59 rfl ?_
 intro u R
 refine Zb [0, 1, 2] ?_
 refine Zq <| Zg <| Ze (w_box Y (cs := #[_, _, _]) rfl) ?_
 rintro _ _ ⟨bo, rfl, rfl⟩
 refine Ze (w_alloc zeroValue49 (cs := #[_, _, _]) rfl) ?_
 rintro _ _ ⟨re, rfl, rfl⟩
 refine Z0 <| Zx <| Zq <| Zq <| Zg <| Zm Y <| Zv (p_len_slice underlying47 Y) <| Zm Y <| Z0 <| Zx <| at_block <| Zb [11, 2, 4, 6, 9, 10] ?_
 refine at_loopB (e0 := [(11, _)]) (H0 := _) (n := _) (fun m e H => ∃ (i : Nat), m = rows.length - i ∧ (i ≤ rows.length) ∧ e = [(11, .int .i64 (i : Int))] ∧ H = [[(bo, .cells #[.slice none 0 0, .int .i64 (st i).1, .bool (st i).2] 49 (0, 0))]]) (by exact ⟨0, rfl, Nat.zero_le _, rfl, by rw [h0]⟩) (by repeat (first | exact Pull.nil _ | (apply Pull.cons; (focus (repeat (first | exact One.here _ _ | apply One.there)))))) ?_
 rintro _ _ _ ⟨i, rfl, hi, rfl, rfl⟩
 refine Zq <| Zg ?_
 first | refine op_v (p_lss_nat Y Y) ?_ | refine op_v (p_lss Y Y) ?_
 refine Z0 <| Zx <| Zq ?_
 first | refine at_if Y (fun hlt => ?_) (fun hlt => ?_) | refine at_if_bool Y (fun hlt => ?_) (fun hlt => ?_)
 ·
  obtain ⟨r, hr⟩ : ∃ r, rows[i]? = some r := ⟨_, List.getElem?_eq_getElem hlt⟩
  obtain ⟨g, off, cur, T, zz, rfl, hm9, hsz9, hex9⟩ := hg i r hr
  refine at_skip <| Zx <| Zq <| at_block <| Zq <| Zg ?_
  (refine op_v (p_indexAddr_nat underlying47 sizeOf62 Y Y ?_) ?_; (focus (first | omega | decide | (simp; done))))
  refine op_rm (cs := [(g, .cells cur T zz)]) (by simp [hm9]) (p_load_agg (cs := #[.int .i64 r.t, .int .i64 r.k, .int .i64 r.v.a, .int .i64 r.v.b, .int .i64 r.v.c]) isAgg62 sizeOf62 Y (by omega) hex9) rfl rfl ?_
  refine Ze (w_alloc zeroValue62 (cs := #[_, _, _, _, _]) rfl) ?_
  rintro _ _ ⟨rb, rfl, rfl⟩
  refine Ze (w_store_agg sizeOf62 Y Y (by first | (simp [Value.oneCell']; done) | (simp [Value.oneCell', Value.cells]; done)) (by repeat (first | exact Upd.here _ | apply Upd.there)) (by exact (rfl : _ = (#[.int .i64 r.t, .int .i64 r.k, .int .i64 r.v.a, .int .i64 r.v.b, .int .i64 r.v.c] : Array Value))) (by first | rfl | (simp; done)) (by first | omega | decide | (simp; done)) (by exact free_zero _)) ?_
  rintro _ _ ⟨rfl, rfl⟩
  refine Z0 <| Zx <| Zg <| Zm Y <| Zo (by repeat (first | exact Has.here _ | apply Has.there)) (p_load_agg (cs := #[_, _, _]) isAgg49 sizeOf49 Y (by first | omega | decide | (simp; done)) (by rfl)) ?_
  refine Zo (by repeat (first | exact Has.here _ | apply Has.there)) (p_load_agg (cs := #[_, _, _, _, _]) isAgg62 sizeOf62 Y (by first | omega | decide | (simp; done)) (by rfl)) ?_
  refine Zr [_, _] Y (hcf) Y rfl (hf i r hr) ?_
  rintro _ _ ⟨rfl, rfl⟩
  refine Ze (w_store_agg sizeOf49 Y Y (by first | (simp [Value.oneCell']; done) | (simp [Value.oneCell', Value.cells]; done)) (by repeat (first | exact Upd.here _ | apply Upd.there)) (by exact (rfl : _ = (#[.slice none 0 0, .int .i64 (st (i + 1)).1, .bool (st (i + 1)).2] : Array Value))) (by first | rfl | (simp; done)) (by first | omega | decide | (simp; done)) (by exact free_zero _)) ?_
  rintro _ _ ⟨rfl, rfl⟩
  refine Z0 <| nx_block_normal <| Zx <| Zg ?_
  first | (refine op_v (p_add_nat (n := 1) Y Y ?_) ?_; (focus (omega))) | (refine op_v (p_add Y Y (IntWalk.i64_in _ ?_)) ?_; (focus (omega)))
  refine Zm Y <| Z0 <| Zn [11, 2, 4, 6, 9, 10] ?_
  refine nx_againB (e' := [(11, _)]) (m := _) (H' := _) (by exact ⟨i + 1, rfl, by omega, rfl, rfl⟩)
 ·
  have ei : i = rows.length := by omega
  subst ei
  refine at_exit <| Zt <| Zt <| nx_block_exit <| Zx <| Zq <| Zg <| Zo (by repeat (first | exact Has.here _ | apply Has.there)) (p_load_agg (cs := #[_, _, _]) isAgg49 sizeOf49 Y (by first | omega | decide | (simp; done)) (by rfl)) ?_
  refine Ze (w_store_agg sizeOf49 Y Y (by first | (simp [Value.oneCell']; done) | (simp [Value.oneCell', Value.cells]; done)) (by repeat (first | exact Upd.here _ | apply Upd.there)) (by rfl) (by first | rfl | (simp; done)) (by first | omega | decide | (simp; done)) (by exact free_zero _)) ?_
  rintro _ _ ⟨rfl, rfl⟩
  refine Z0 <| Zx <| at_ret ?_
  refine nx_endc1 rfl results59 Y (by repeat (first | exact Has.here _ | apply Has.there)) (loadVar_agg isAgg49 sizeOf49 (by first | decide | exact Nat.le_refl _ | (simp; done) | (simp; omega)) (rfl)) (by exact ⟨rfl, rfl⟩)

theorem foldI_spec {M : List Chunk} {p : Option Addr} {cap : Nat} {ms : List Int} (hc : CellsM M p (ms.map ivQ)) (hl : ms.length ≤ maxLen) (hlc : ms.length ≤ cap) {v0 : Int} {f0 : Bool} (st : Nat → Int × Bool) (h0 : st 0 = (v0, f0)) (fid : Nat) (us : List Value) (hcf : ∀ (args : Array Value) (w : World), (callFunc fid args).run Tryz.prog w = .ok (.enter fid args) w) (hf : ∀ (i : Nat) (x : Int), ms[i]? = some x → DoesR Tryz.prog fid (.agg #[.slice none 0 0, .int .i64 (st i).1, .bool (st i).2] :: .int .i64 x :: us).toArray [M] (.agg #[.slice none 0 0, .int .i64 (st (i + 1)).1, .bool (st (i + 1)).2])) : DoesR Tryz.prog 61 #[.slice p ms.length cap, .agg #[.slice none 0 0, .int .i64 v0, .bool f0], .func (.func fid) #[] us.toArray] [M] (.agg #[.slice none 0 0, .int .i64 (st ms.length).1, .bool (st ms.length).2]) := by
 have hml : maxLen = 9223372036854775807 := rfl
 refine spec_enter func61 rfl ntmps61 rfl ?_
 intro u R
 refine Zb [0, 1, 2] ?_
 refine Zq <| Zg <| Ze (w_box Y (cs := #[_, _, _]) rfl) ?_
 rintro _ _ ⟨bo, rfl, rfl⟩
 refine Ze (w_alloc zeroValue49 (cs := #[_, _, _]) rfl) ?_
 rintro _ _ ⟨re, rfl, rfl⟩
 refine Z0 <| Zx <| Zq <| Zq <| Zg <| Zm Y <| Zv (p_len_slice underlying114 Y) <| Zm Y <| Z0 <| Zx <| at_block <| Zb [11, 2, 4, 6, 9, 10] ?_
 refine at_loopB (e0 := [(11, _)]) (H0 := _) (n := _) (fun m e H => ∃ (i : Nat), m = ms.length - i ∧ (i ≤ ms.length) ∧ e = [(11, .int .i64 (i : Int))] ∧ H = [[(bo, .cells #[.slice none 0 0, .int .i64 (st i).1, .bool (st i).2] 49 (0, 0))]]) (by exact ⟨0, rfl, Nat.zero_le _, rfl, by rw [h0]⟩) (by repeat (first | exact Pull.nil _ | (apply Pull.cons; (focus (repeat (first | exact One.here _ _ | apply One.there)))))) ?_
 rintro _ _ _ ⟨i, rfl, hi, rfl, rfl⟩
 refine Zq <| Zg ?_
 first | refine op_v (p_lss_nat Y Y) ?_ | refine op_v (p_lss Y Y) ?_
 refine Z0 <| Zx <| Zq ?_
 first | refine at_if Y (fun hlt => ?_) (fun hlt => ?_) | refine at_if_bool Y (fun hlt => ?_) (fun hlt => ?_)
 ·
  obtain ⟨x, hx⟩ : ∃ x, ms[i]? = some x := ⟨_, List.getElem?_eq_getElem hlt⟩
  obtain ⟨g, off, cur, T, zz, rfl, hm9, hex9⟩ := hc i (ivQ x) (by rw [List.getElem?_map, hx]; rfl)
  have hex8 : cur[off + i]? = some (.int .i64 x) := hex9
  refine at_skip <| Zx <| Zq <| at_block <| Zq <| Zg ?_
  first | (refine op_v (p_indexAddr_nat0 underlying114 sizeOf3 Y Y ?_) ?_; (focus (first | omega | decide | (simp; done)))) | (refine op_v (p_indexAddr_nat1 underlying114 sizeOf3 Y Y ?_) ?_; (focus (first | omega | decide | (simp; done))))
  refine op_rm (cs := [(g, .cells cur T zz)]) (by simp [hm9]) (p_load isAgg3 Y (by first | exact hex8 | (rw [Nat.mul_one]; exact hex8) | (rw [Nat.zero_add]; exact hex8))) rfl rfl ?_
  refine Za Y <| Z0 <| Zx <| Zg <| Zm Y <| Zo (by repeat (first | exact Has.here _ | apply Has.there)) (p_load_agg (cs := #[_, _, _]) isAgg49 sizeOf49 Y (by first | omega | decide | (simp; done)) (by rfl)) ?_
  refine Zm Y <| Zr [_, _] Y (hcf) Y rfl (hf i x hx) ?_
  rintro _ _ ⟨rfl, rfl⟩
  refine Ze (w_store_agg sizeOf49 Y Y (by first | (simp [Value.oneCell']; done) | (simp [Value.oneCell', Value.cells]; done)) (by repeat (first | exact Upd.here _ | apply Upd.there)) (by exact (rfl : _ = (#[.slice none 0 0, .int .i64 (st (i + 1)).1, .bool (st (i + 1)).2] : Array Value))) (by first | rfl | (simp; done)) (by first | omega | decide | (simp; done)) (by exact free_zero _)) ?_
  rintro _ _ ⟨rfl, rfl⟩
  refine Z0 <| nx_block_normal <| Zx <| Zg ?_
  first | (refine op_v (p_add_nat (n := 1) Y Y ?_) ?_; (focus (omega))) | (refine op_v (p_add Y Y (IntWalk.i64_in _ ?_)) ?_; (focus (omega)))
  refine Zm Y <| Z0 <| Zn [11, 2, 4, 6, 9, 10] ?_
  refine nx_againB (e' := [(11, _)]) (m := _) (H' := _) (by exact ⟨i + 1, rfl, by omega, rfl, rfl⟩)
 ·
  have ei : i = ms.length := by omega
  subst ei
  refine at_exit <| Zt <| Zt <| nx_block_exit <| Zx <| Zq <| Zg <| Zo (by repeat (first | exact Has.here _ | apply Has.there)) (p_load_agg (cs := #[_, _, _]) isAgg49 sizeOf49 Y (by first | omega | decide | (simp; done)) (by rfl)) ?_
  refine Ze (w_store_agg sizeOf49 Y Y (by first | (simp [Value.oneCell']; done) | (simp [Value.oneCell', Value.cells]; done)) (by repeat (first | exact Upd.here _ | apply Upd.there)) (by rfl) (by first | rfl | (simp; done)) (by first | omega | decide | (simp; done)) (by exact free_zero _)) ?_
  rintro _ _ ⟨rfl, rfl⟩
  refine Z0 <| Zx <| at_ret ?_
  refine nx_endc1 rfl results61 Y (by repeat (first | exact Has.here _ | apply Has.there)) (loadVar_agg isAgg49 sizeOf49 (by first | decide | exact Nat.le_refl _ | (simp; done) | (simp; omega)) (rfl)) (by exact ⟨rfl, rfl⟩)

theorem meas_spec {M : List Chunk} {v : Value} {rows : List RowM} (hv : RowsU M v rows) (q : QM) (hbq : 0 ≤ q.bq ∧ q.bq ≤ 3) (hb : rows.length ≤ 1000000000000) : Does Tryz.prog 62 #[.agg #[.int .i64 q.kd, .int .i64 q.tb, .int .i64 q.cl, .int .i64 q.lo, .int .i64 q.hi, .int .i64 q.bq, .int .i64 q.ot], v] [M] (fun r H' => ∃ s, RowS 1 3 r (measT q rows).length ((measT q rows).map ivQ) s ∧ H' = [s, M]) := by
 have hml : maxLen = 9223372036854775807 := rfl
 obtain ⟨p, cap, rfl, ⟨hl, hlc⟩, hg⟩ := id hv
 refine spec_enter func62 rfl ntmps62 rfl ?_
 intro u R
 refine Zb [0, 1] ?_
 refine Zq <| Zg <| Ze (w_box Y (cs := #[_, _, _, _, _, _, _]) rfl) ?_
 rintro _ _ ⟨bq, rfl, rfl⟩
 refine Za Y <| Z0 <| Zx <| Zq <| Zg <| Zm Y <| Zv (p_len_slice underlying47 Y) ?_
 refine Ze (w_makeSlice (by_ := 8) (l := 0) underlying114 (rfl : Tryz.prog.info? 3 = some Tryz.t3) rfl rfl rfl rfl Y Y ?_ ?_ ?_) ?_
 (focus (omega))
 (focus (omega))
 (focus (omega))
 rintro _ _ ⟨mk, rfl, rfl⟩
 refine Za Y <| Z0 <| Zx <| Zq <| Zq <| Zg <| Zm Y <| Zv (p_len_slice underlying47 Y) <| Zm Y <| Z0 <| Zx <| at_block <| Zb [5, 13, 2, 11, 12] ?_
 refine at_loopB (e0 := [(5, _), (13, _)]) (H0 := _) (n := _) (fun m e H => ∃ (i : Nat) (vo : Value) (so : List Chunk), m = rows.length - i ∧ (i ≤ rows.length ∧ RowS 1 3 vo i ((measT q (rows.take i)).map ivQ) so) ∧ e = [(5, vo), (13, .int .i64 (i : Int))] ∧ H = [so]) (by exact ⟨0, _, _, rfl, ⟨Nat.zero_le _, by rw [List.take_zero]; exact rowS_make _ _ _ (.int .i64 0) (by omega)⟩, rfl, rfl⟩) (by repeat (first | exact Pull.nil _ | (apply Pull.cons; (focus (repeat (first | exact One.here _ _ | apply One.there)))))) ?_
 rintro _ _ _ ⟨i, vo, so, rfl, ⟨hi, hro⟩, rfl, rfl⟩
 obtain ⟨qo, co, rfl⟩ := hro.form
 refine Zq <| Zg ?_
 first | refine op_v (p_lss_nat Y Y) ?_ | refine op_v (p_lss Y Y) ?_
 refine Z0 <| Zx <| Zq ?_
 first | refine at_if Y (fun hlt => ?_) (fun hlt => ?_) | refine at_if_bool Y (fun hlt => ?_) (fun hlt => ?_)
 ·
  obtain ⟨r, hr⟩ : ∃ r, rows[i]? = some r := ⟨_, List.getElem?_eq_getElem hlt⟩
  obtain ⟨g, off, cur, T, zz, rfl, hm9, hsz9, hex9⟩ := hg i r hr
  refine at_skip <| Zx <| Zq <| at_block <| Zq <| Zg ?_
  (refine op_v (p_indexAddr_nat underlying47 sizeOf62 Y Y ?_) ?_; (focus (first | omega | decide | (simp; done))))
  refine op_rm (cs := [(g, .cells cur T zz)]) (by simp [hm9]) (p_load_agg (cs := #[.int .i64 r.t, .int .i64 r.k, .int .i64 r.v.a, .int .i64 r.v.b, .int .i64 r.v.c]) isAgg62 sizeOf62 Y (by omega) hex9) rfl rfl ?_
  refine Ze (w_alloc zeroValue62 (cs := #[_, _, _, _, _]) rfl) ?_
  rintro _ _ ⟨rb, rfl, rfl⟩
  refine Ze (w_store_agg sizeOf62 Y Y (by first | (simp [Value.oneCell']; done) | (simp [Value.oneCell', Value.cells]; done)) (by repeat (first | exact Upd.here _ | apply Upd.there)) (by exact (rfl : _ = (#[.int .i64 r.t, .int .i64 r.k, .int .i64 r.v.a, .int .i64 r.v.b, .int .i64 r.v.c] : Array Value))) (by first | rfl | (simp; done)) (by first | omega | decide | (simp; done)) (by exact free_zero _)) ?_
  rintro _ _ ⟨rfl, rfl⟩
  refine Z0 <| Zx <| Zg <| Zm Y <| Zo (by repeat (first | exact Has.here _ | apply Has.there)) (p_load_agg (cs := #[_, _, _, _, _]) isAgg62 sizeOf62 Y (by first | omega | decide | (simp; done)) (by rfl)) ?_
  refine Zh 5 underlying29 rfl rfl sizeOf3 Y <| Zl isAgg3 Y ?_
  refine Zr [_, _] Y call55 Y rfl (rw_valueI r q.bq hbq) ?_
  rintro _ _ ⟨rfl, rfl⟩
  refine Ze (w_buildSlice (vs := [_]) (cs := [_]) underlying114 sizeOf3 zeroValue3 Y rfl rfl rfl rfl rfl) ?_
  rintro _ _ ⟨gb, rfl, rfl⟩
  refine Ze (w_append_subS (by_ := 8) (sz := 1) underlying114 (rfl : Tryz.prog.info? 3 = some Tryz.t3) rfl rfl rfl rfl Y (hro) Y (subS_new 1 gb 1 1 3 (0, 0) [.int .i64 (valL r q.bq)] rfl) (by repeat (first | exact One.here _ _ | apply One.there)) (by repeat (first | exact One.here _ _ | apply One.there)) (by simp [Value.oneCell']) (by omega) (by omega)) ?_
  rintro _ _ ⟨sa9, hra9, rfl⟩
  obtain ⟨ga9, ca9, rfl⟩ := hra9.form
  refine Za Y <| Z0 <| Zn [2, 5, 11, 12, 13] ?_
  refine nx_block_normal <| Zx <| Zg ?_
  first | (refine op_v (p_add_nat (n := 1) Y Y ?_) ?_; (focus (omega))) | (refine op_v (p_add Y Y (IntWalk.i64_in _ ?_)) ?_; (focus (omega)))
  refine Zm Y <| Z0 <| Zn [5, 13, 2, 11, 12] ?_
  refine nx_againB (e' := [(5, _), (13, _)]) (m := _) (H' := _) (by exact ⟨i + 1, _, _, rfl, ⟨by omega, rowS_eq hra9 rfl (by rw [meas_snoc hr, List.map_append]; rfl)⟩, rfl, rfl⟩)
 ·
  have ei : i = rows.length := by omega
  subst ei
  refine at_exit <| Zt <| Zt <| nx_block_exit <| Zx <| Zq <| Zg <| Zm Y <| Za Y <| Z0 <| Zx <| at_ret ?_
  refine nx_end1 rfl results62 Y (by exact ⟨so, rowS_eq hro (meas_len q rows).symm (by rw [List.take_length]), rfl⟩)

end Go.Proofs.YtkgmgmkbgnkdnaaGreat
