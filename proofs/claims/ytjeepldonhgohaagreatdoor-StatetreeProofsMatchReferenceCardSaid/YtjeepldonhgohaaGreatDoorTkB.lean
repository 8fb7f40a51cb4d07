/- sane of the law of chapter 10. -/
/- What the rows list and what the arguments read as, in chunks. -/
/- Arguments of four integers. -/
/- Arguments of three integers, and of three times three. -/
import Derived.Test.YtjeepldonhgohaaGreatDoorEz
import Derived.Test.YtjeepldonhgohaaGreatDoorTr13
import Derived.ProofKit
import Derived.OpenShut
import Derived.ChangeOld
import Derived.Deep.Slices
import Derived.SliceStrings
import Derived.Lib.LaidTab
import Derived.Test.YtjeepldonhgohaaGreatDoorRows
namespace Go.Proofs.YtjeepldonhgohaaGreatDoor
open Go.Proofs.Tryz
open Go Go.RowKit Gw
set_option linter.unusedVariables false
set_option linter.unusedSimpArgs false
set_option maxRecDepth 100000
attribute [local irreducible] Gw.At Gw.Nx Gw.Ops
theorem verify_t {M : List Chunk} {v : Value} {x : RP} (hv : RPIn M v x) (hroots : ∀ s ∈ x.roots, s.length ≤ 140737488354000) (hpaths : ∀ l ∈ x.paths, l.length ≤ 1000000) {root : Bs} (h : VerP root x) (Tg : TypeId) (zg : Nat × Nat) : DoesR Tryz.prog 23 #[.string (str root), v] [[(0, .cells (kTab.map u32v).toArray Tg zg)], M] (.bool true) := by
  have h1 := verify_proof hv hroots hpaths root Tg zg
  rwa [decide_eq_true h] at h1
theorem verify_f {M : List Chunk} {v : Value} {x : RP} (hv : RPIn M v x) (hroots : ∀ s ∈ x.roots, s.length ≤ 140737488354000) (hpaths : ∀ l ∈ x.paths, l.length ≤ 1000000) {root : Bs} (h : ¬ VerP root x) (Tg : TypeId) (zg : Nat × Nat) : DoesR Tryz.prog 23 #[.string (str root), v] [[(0, .cells (kTab.map u32v).toArray Tg zg)], M] (.bool false) := by
  have h1 := verify_proof hv hroots hpaths root Tg zg
  rwa [decide_eq_false h] at h1
theorem rows_c {M : List Chunk} {v : Value} {x : RP} (hv : RPIn M v x) (h : Comp x) {l : List RowM} (hl : rowsT x = l) : Does Tryz.prog 14 #[v] [M] (fun r H' => ∃ vr sr, r = .tuple #[vr, .bool true] ∧ RowS 5 74 vr l.length (rowCells l) sr ∧ H' = [sr, M]) := by
  have h1 := rows_spec hv
  rw [decide_eq_true h, hl] at h1
  exact h1
theorem rows_n {M : List Chunk} {v : Value} {x : RP} (hv : RPIn M v x) (h : ¬ Comp x) : Does Tryz.prog 14 #[v] [M] (fun r H' => ∃ vr sr, r = .tuple #[vr, .bool false] ∧ RowS 5 74 vr ([] : List RowM).length (rowCells []) sr ∧ H' = [sr, M]) := by
  have h1 := rows_spec hv
  rw [decide_eq_false h, rows_f h] at h1
  exact h1
theorem r4_same2 {M M' : List Chunk} {va vb : Value} {a b : List RowM} (ha : RowsU M va a) (hb : RowsU M' vb b) : DoesR Tryz.prog 17 #[va, vb] [M, M'] (.bool (decide (a = b))) := by
  refine does_re (r4_same (ha.mono (fun c hc => List.mem_append_left M' hc)) (hb.mono (fun c hc => List.mem_append_right M hc))) (by simp) ?_
  rintro r H' ⟨rfl, rfl⟩
  exact ⟨_, ⟨rfl, rfl⟩, by simp⟩
theorem RPIn.mono {M M' : List Chunk} {v : Value} {x : RP} (h : RPIn M v x) (hm : ∀ c ∈ M, c ∈ M') : RPIn M' v x := by
  obtain ⟨vr, vp, vt, e, h1, h2, h3⟩ := h
  exact ⟨vr, vp, vt, e, h1.mono hm, h2.mono hm, h3.mono hm⟩
theorem same_t {M : List Chunk} {v : Value} {x : RP} (hv : RPIn M v x) : DoesR Tryz.prog 18 #[v, v] [M] (.bool true) := by
  have h1 := same_spec hv hv
  rwa [decide_eq_true rfl] at h1
theorem same_f {M M' : List Chunk} {v v' : Value} {x y : RP} (hv : RPIn M v x) (hv' : RPIn M' v' y) (h : x ≠ y) : DoesR Tryz.prog 18 #[v, v'] [M, M'] (.bool false) := by
  have h1 := same_spec (hv.mono (fun c hc => List.mem_append_left M' hc)) (hv'.mono (fun c hc => List.mem_append_right M hc))
  rw [decide_eq_false h] at h1
  refine does_re h1 (by simp) ?_
  rintro r H' ⟨rfl, rfl⟩
  exact ⟨_, ⟨rfl, rfl⟩, by simp⟩
theorem proof_le : ∀ (n : Nat) (l : List Bs) (i : Nat), l.length ≤ n → (proofT l i).length ≤ l.length
  | n, l, i, hn => by
    rcases Nat.lt_or_ge l.length 2 with h | h
    · rw [proof_one (by omega)]; simp
    · have h1 := left_lt h
      have h2 := left_pos l.length
      match n, hn with
      | 0, hn => omega
      | n + 1, hn =>
      by_cases hi : i < leftN l.length
      · have ih := proof_le n (l.take (leftN l.length)) i (by rw [List.length_take]; omega)
        rw [List.length_take] at ih
        rw [proof_first h hi, List.length_append]
        simp only [List.length_singleton]
        omega
      · have ih := proof_le n (l.drop (leftN l.length)) (i - leftN l.length) (by rw [List.length_drop]; omega)
        rw [List.length_drop] at ih
        rw [proof_second h hi, List.length_append]
        simp only [List.length_singleton]
        omega
theorem prove_roots {rs : List RowM} (hs : SortedR rs) (hn : rs.length ≤ 2000) (t c : Nat) (lo hi : Int) : ∀ s ∈ (proveT rs t c lo hi).roots, s.length ≤ 140737488354000 := by
  intro s h
  obtain ⟨x, _, rfl⟩ := List.mem_map.1 h
  have := summ_len hs hn x
  omega
theorem prove_paths {rs : List RowM} (hs : SortedR rs) (hn : rs.length ≤ 2000) (t c : Nat) (lo hi : Int) : ∀ l ∈ (proveT rs t c lo hi).paths, l.length ≤ 1000000 := by
  intro l h
  obtain ⟨x, _, rfl⟩ := List.mem_map.1 h
  have h1 := proof_le _ (encL (ordL rs (t : Int) c)) (fromT (ordL rs (t : Int) c) c lo + x) (Nat.le_refl _)
  have h2 := ordL_len hs (t : Int) c
  rw [encL_len] at h1
  omega
theorem cut_at {g o c sz : Nat} (h : 1 < c) : cutAt (some ⟨g, o, none⟩) 1 c sz = some ⟨g, o + sz, none⟩ := by
  unfold cutAt; rw [if_neg (by omega), Option.map_some, add_addr, Nat.one_mul]
theorem RowsU.drop1 {M : List Chunk} {p : Option Addr} {cap : Nat} {rs : List RowM} (h : RowsU M (.slice p rs.length cap) rs) (hl : 1 < rs.length) : RowsU M (.slice (cutAt p 1 cap 5) (rs.length - 1) (cap - 1)) (rs.drop 1) := by
  obtain ⟨p', cap', e, hl2, hg⟩ := h
  injection e with e1 e2 e3
  subst e1 e3
  obtain ⟨g, off, cur, T, zz, rfl, _⟩ := hg 0 _ (List.getElem?_eq_getElem (by omega))
  rw [cut_at (by omega)]
  refine ⟨_, _, by rw [List.length_drop], by rw [List.length_drop]; omega, fun i x hx => ?_⟩
  rw [List.getElem?_drop] at hx
  obtain ⟨g2, off2, cur2, T2, zz2, e4, hm, hsz, hex⟩ := hg (1 + i) x hx
  injection e4 with e4; injection e4 with e5 e6
  subst e5 e6
  exact ⟨g, off + 5, cur2, T2, zz2, rfl, hm, by omega, by rw [show off + 5 + i * 5 = off + (1 + i) * 5 by omega]; exact hex⟩
theorem PathsU.drop1 {M : List Chunk} {p : Option Addr} {cap : Nat} {ps : List (List Bs)} (h : PathsU M (.slice p ps.length cap) ps) (hl : 1 < ps.length) : PathsU M (.slice (cutAt p 1 cap 1) (ps.length - 1) (cap - 1)) (ps.drop 1) := by
  obtain ⟨p', cap', e, hl2, hg⟩ := h
  injection e with e1 e2 e3
  subst e1 e3
  obtain ⟨_, _, _, g, off, cur, T, zz, rfl, _⟩ := hg 0 _ (List.getElem?_eq_getElem (by omega))
  rw [cut_at (by omega)]
  refine ⟨_, _, by rw [List.length_drop], by rw [List.length_drop]; omega, fun i x hx => ?_⟩
  rw [List.getElem?_drop] at hx
  obtain ⟨q, c, hu, g2, off2, cur2, T2, zz2, e4, hm, hex⟩ := hg (1 + i) x hx
  injection e4 with e4; injection e4 with e5 e6
  subst e5 e6
  exact ⟨q, c, hu, g, off + 1, cur2, T2, zz2, rfl, hm, by rw [show off + 1 + i = off + (1 + i) by omega]; exact hex⟩
theorem chgs0 (gr gc : Nat) (o : Obj) : ChgsIn [(gr, o), (gc, .cells #[.int .i64 0, .int .i64 3, .bool false, .int .i64 0, .int .i64 0, .int .i64 0, .bool true, .int .i64 10, .int .i64 0, .int .i64 0, .int .i64 0, .int .i64 5, .bool false, .int .i64 0, .int .i64 0, .int .i64 0, .bool true, .int .i64 10, .int .i64 21, .int .i64 30] 65 (0, 0))] (.slice (some ⟨gc, 0, none⟩) 2 2) cs0 := by
  refine ⟨_, 2, rfl, by decide, fun i c hc => ⟨gc, 0, #[.int .i64 0, .int .i64 3, .bool false, .int .i64 0, .int .i64 0, .int .i64 0, .bool true, .int .i64 10, .int .i64 0, .int .i64 0, .int .i64 0, .int .i64 5, .bool false, .int .i64 0, .int .i64 0, .int .i64 0, .bool true, .int .i64 10, .int .i64 21, .int .i64 30], 65, (0, 0), rfl, by simp, ?_⟩⟩
  rcases i with _ | _ | i
  · simp [cs0] at hc; subst hc; exact ⟨by decide, rfl⟩
  · simp [cs0] at hc; subst hc; exact ⟨by decide, rfl⟩
  · simp [cs0] at hc
theorem recs0 (gr gc : Nat) : RecsIn [(gr, .cells #[.int .i64 1, .slice (some ⟨gc, 0, none⟩) 2 2] 68 (0, 0)), (gc, .cells #[.int .i64 0, .int .i64 3, .bool false, .int .i64 0, .int .i64 0, .int .i64 0, .bool true, .int .i64 10, .int .i64 0, .int .i64 0, .int .i64 0, .int .i64 5, .bool false, .int .i64 0, .int .i64 0, .int .i64 0, .bool true, .int .i64 10, .int .i64 21, .int .i64 30] 65 (0, 0))] (.slice (some ⟨gr, 0, none⟩) 1 1) (l0 gc) := by
  refine ⟨_, 1, rfl, ⟨by show 1 ≤ maxLen; decide, by show 1 ≤ 1; decide⟩, fun i r hr => ?_⟩
  rcases i with _ | i
  · simp [l0] at hr; subst hr; exact ⟨chgs0 gr gc _, gr, 0, #[.int .i64 1, .slice (some ⟨gc, 0, none⟩) 2 2], 68, (0, 0), rfl, by simp, by show 2 ≤ 2; decide, rfl⟩
  · simp [l0] at hr
theorem rp_none (M : List Chunk) : RPIn M (.agg #[.int .i64 0, .int .i64 0, .int .i64 0, .int .i64 9, .int .i64 2, .int .i64 1, .slice none 0 0, .slice none 0 0, .slice none 0 0]) ⟨0, 0, 0, 9, 2, 1, [], [], []⟩ :=
  ⟨_, _, _, rfl, ⟨none, 0, rfl, ⟨by simp, by simp⟩, by intro i x h; simp at h⟩, ⟨none, 0, rfl, ⟨by simp, by simp⟩, by intro i x h; simp at h⟩, strsU_none M⟩
theorem row_key {v : Value} {s : List Chunk} {r : RowM} (h : RowS 5 74 v [r].length (rowCells [r]) s) : ∃ g cap cur z, v = .slice (some ⟨g, 0, none⟩) 1 cap ∧ s = [(g, .cells cur 74 z)] ∧ cur[1]? = some (.int .i64 r.k) := by
  obtain ⟨_, ⟨_, h0, _⟩ | ⟨g, cap, cur, z, rfl, rfl, _, _, _, htk, _⟩⟩ := h
  · simp at h0
  · exact ⟨g, cap, cur, z, rfl, rfl, take_at (xs := rowCells [r]) htk rfl⟩

set_option maxHeartbeats 8000000 in
theorem sane10 (Tg : TypeId) (zg : Nat × Nat) : DoesR Tryz.prog 7 #[] [[(0, .cells (kTab.map u32v).toArray Tg zg)]] (.bool true) := by
 refine spec_enter func7 rfl ntmps7 rfl ?_
 intro u R
 refine Zb [] ?_
 refine Zq <| Zg <| Za Y <| Z0 <| Zx <| Zq <| Zg <| Zv (p_build (vs := [(0, _), (1, _), (2, _)]) (cs := #[_, _, _]) Y (run_build_array zeroValue47 underlying47 sizeOf3 rfl)) ?_
 refine Zv (p_build (vs := [(1, _), (4, _), (5, _)]) (cs := #[_, _, _, _, _, _, _, _, _, _]) Y (run_build_struct (pl := #[(0, 1), (1, 1), (2, 1), (3, 3), (6, 1), (7, 3)]) zeroValue65 underlying65 (fun _ => by kernel_rfl) rfl)) ?_
 refine Zv (p_build (vs := [(0, _), (1, _), (2, _)]) (cs := #[_, _, _]) Y (run_build_array zeroValue47 underlying47 sizeOf3 rfl)) ?_
 refine Zv (p_build (vs := [(1, _), (4, _), (5, _)]) (cs := #[_, _, _, _, _, _, _, _, _, _]) Y (run_build_struct (pl := #[(0, 1), (1, 1), (2, 1), (3, 3), (6, 1), (7, 3)]) zeroValue65 underlying65 (fun _ => by kernel_rfl) rfl)) ?_
 refine Ze (w_buildSlice (vs := [_, _]) (cs := [_, _, _, _, _, _, _, _, _, _, _, _, _, _, _, _, _, _, _, _]) underlying66 sizeOf65 zeroValue65 Y rfl rfl rfl rfl rfl) ?_
 rintro _ _ ⟨gc, rfl, rfl⟩
 refine Zv (p_build (vs := [(0, _), (1, _)]) (cs := #[_, _]) Y (run_build_struct (pl := #[(0, 1), (1, 1)]) zeroValue68 underlying68 (fun _ => by kernel_rfl) rfl)) ?_
 refine Ze (w_buildSlice (vs := [_]) (cs := [_, _]) underlying69 sizeOf68 zeroValue68 Y rfl rfl rfl rfl rfl) ?_
 rintro _ _ ⟨gr, rfl, rfl⟩
 refine Za Y <| Z0 <| Zx <| Zq <| at_join (s1 := [(gr, _)]) (s2 := [(gc, _)]) (by repeat (first | exact One.here _ _ | apply One.there)) (by repeat (first | exact One.here _ _ | apply One.there)) ?_
 refine Zg <| Zm Y <| Zc [_, _] Y call30 Y rfl (st_at (some ⟨gr, 0, none⟩) 1 (l0 gc) _ (recs0 gr gc) (log0 gc) (by show 1 ≤ 1000000; decide) 1 (by show 1 ≤ 1; decide)) ?_
 rintro _ _ ⟨_, ⟨sp, mm, es, ck, lm, rfl, hm, hR, rfl⟩, rfl⟩
 rw [rows0] at hR
 have hst : StIs (.pointer (some ⟨sp, 0, none⟩)) ((1 : Nat) : Int) rs0 [(sp, .cells #[.map (some mm), .int .i64 ((1 : Nat) : Int)] 154 (0, 0)), (mm, .map es ck)] := ⟨sp, mm, es, ck, lm, rfl, hm, hR, rs0_sorted, rs0_len, rfl⟩
 refine Zm Y <| Zd Y rfl <| Zd Y rfl <| Za Y <| Za Y <| Z0 <| Zn [2, 3] ?_
 refine Zx <| Zq <| Zq <| Zg <| Zm Y <| Zv (p_neq_nat (n := 0) Y Y) <| Zm Y ?_
 refine ops_split (t := 36) Y rfl (fun k1 => ?_) (fun k1 => ?_)
 ·
  exfalso; first | exact k1 rfl | (cases k1; done) | omega
 ·
  refine Zf Y Y <| Yg (p_eql_ptr_nil underlying25 Y Y) <| Zv (p_pick_f Y Y) <| Z0 <| Zx ?_
  refine at_if_bool Y (fun k2 => ?_) (fun k2 => ?_)
  ·
   exfalso; first | exact k2 rfl | (cases k2; done) | omega
  ·
   refine at_skip <| Zx <| Zq <| at_join (s1 := [(sp, _)]) (s2 := [(mm, _)]) (by repeat (first | exact One.here _ _ | apply One.there)) (by repeat (first | exact One.here _ _ | apply One.there)) ?_
   refine Zg <| Zm Y <| Zc [_, _, _, _, _] Y call12 Y rfl (prove_spec _ _ rs0 _ hst rs0_sorted rs0_len rs0_ok 0 2 (by decide) (by decide) 1 100 (by decide) Tg zg) ?_
   rintro _ _ ⟨_, ⟨va, ma, rfl, hA, rfl⟩, rfl⟩
   obtain ⟨ra, pa, ta, rfl, hRa, hPa, hTa⟩ := id hA
   obtain ⟨qra, cra, rfl, hlra, hgra⟩ := id hRa
   obtain ⟨qpa, cpa, rfl, hlpa, hgpa⟩ := id hPa
   obtain ⟨qta, cta, rfl, hlta, hgta⟩ := id hTa
   refine Zm Y <| Zd Y rfl <| Zd Y rfl <| Ze (w_alloc zeroValue37 (cs := #[_, _, _, _, _, _, _, _, _]) rfl) ?_
   rintro _ _ ⟨ba, rfl, rfl⟩
   refine Ze (w_store_agg sizeOf37 Y Y (by (simp [Value.oneCell']; done)) (by repeat (first | exact Upd.here _ | apply Upd.there)) (by exact (rfl : _ = (#[_, _, _, _, _, _, _, _, _] : Array Value))) (by first | rfl | (simp; done)) (by first | decide | exact Nat.le_refl _ | (simp; done) | (simp; omega)) (by exact free_zero _)) ?_
   rintro _ _ ⟨rfl, rfl⟩
   refine Za Y <| Z0 <| Zn [2, 4, 5] ?_
   refine Zx <| Zq <| Zg <| Zm Y <| Zc [_, _, _, _, _] Y call12 Y rfl (prove_spec _ _ rs0 _ hst rs0_sorted rs0_len rs0_ok 0 1 (by decide) (by decide) 11 20 (by decide) Tg zg) ?_
   rintro _ _ ⟨_, ⟨vb, mb, rfl, hB, rfl⟩, rfl⟩
   obtain ⟨rb, pb, tb, rfl, hRb, hPb, hTb⟩ := id hB
   obtain ⟨qrb, crb, rfl, hlrb, hgrb⟩ := id hRb
   obtain ⟨qpb, cpb, rfl, hlpb, hgpb⟩ := id hPb
   obtain ⟨qtb, ctb, rfl, hltb, hgtb⟩ := id hTb
   refine Zm Y <| Zd Y rfl <| Zd Y rfl <| Ze (w_alloc zeroValue37 (cs := #[_, _, _, _, _, _, _, _, _]) rfl) ?_
   rintro _ _ ⟨bb, rfl, rfl⟩
   refine Ze (w_store_agg sizeOf37 Y Y (by (simp [Value.oneCell']; done)) (by repeat (first | exact Upd.here _ | apply Upd.there)) (by exact (rfl : _ = (#[_, _, _, _, _, _, _, _, _] : Array Value))) (by first | rfl | (simp; done)) (by first | decide | exact Nat.le_refl _ | (simp; done) | (simp; omega)) (by exact free_zero _)) ?_
   rintro _ _ ⟨rfl, rfl⟩
   refine Za Y <| Z0 <| Zx <| Zq <| Zg <| Zm Y <| Zc [_, _, _, _, _] Y call12 Y rfl (prove_spec _ _ rs0 _ hst rs0_sorted rs0_len rs0_ok 1 0 (by decide) (by decide) 1 9 (by decide) Tg zg) ?_
   rintro _ _ ⟨_, ⟨vc, mc, rfl, hC, rfl⟩, rfl⟩
   obtain ⟨rc, pc, tc, rfl, hRc, hPc, hTc⟩ := id hC
   obtain ⟨qrc, crc, rfl, hlrc, hgrc⟩ := id hRc
   obtain ⟨qpc, cpc, rfl, hlpc, hgpc⟩ := id hPc
   obtain ⟨qtc, ctc, rfl, hltc, hgtc⟩ := id hTc
   refine Zm Y <| Zd Y rfl <| Zd Y rfl <| Ze (w_alloc zeroValue37 (cs := #[_, _, _, _, _, _, _, _, _]) rfl) ?_
   rintro _ _ ⟨bc, rfl, rfl⟩
   refine Ze (w_store_agg sizeOf37 Y Y (by (simp [Value.oneCell']; done)) (by repeat (first | exact Upd.here _ | apply Upd.there)) (by exact (rfl : _ = (#[_, _, _, _, _, _, _, _, _] : Array Value))) (by first | rfl | (simp; done)) (by first | decide | exact Nat.le_refl _ | (simp; done) | (simp; omega)) (by exact free_zero _)) ?_
   rintro _ _ ⟨rfl, rfl⟩
   refine Za Y <| Z0 <| Zn [2, 4, 5, 6, 7, 8, 9] ?_
   refine Zx <| Zq <| Zg <| Zm Y <| Zr [_, _, _, _, _] Y call12 Y rfl (prove_less _ 0 0 (by decide) (by decide) 9 1 (by decide)) ?_
   rintro _ _ ⟨rfl, rfl⟩
   refine Zm Y <| Zd Y rfl <| Zd Y rfl <| Ze (w_alloc zeroValue37 (cs := #[_, _, _, _, _, _, _, _, _]) rfl) ?_
   rintro _ _ ⟨b6, rfl, rfl⟩
   refine Ze (w_store_agg sizeOf37 Y Y (by (simp [Value.oneCell']; done)) (by repeat (first | exact Upd.here _ | apply Upd.there)) (by exact (rfl : _ = (#[_, _, _, _, _, _, _, _, _] : Array Value))) (by first | rfl | (simp; done)) (by first | decide | exact Nat.le_refl _ | (simp; done) | (simp; omega)) (by exact free_zero _)) ?_
   rintro _ _ ⟨rfl, rfl⟩
   refine Za Y <| Z0 <| Zx <| Zq <| Zg <| Zr [_, _, _, _, _] Y call12 Y rfl (prove_none 0 0 1 9) ?_
   rintro _ _ ⟨rfl, rfl⟩
   refine Zm Y <| Zd Y rfl <| Zd Y rfl <| Ze (w_alloc zeroValue37 (cs := #[_, _, _, _, _, _, _, _, _]) rfl) ?_
   rintro _ _ ⟨b7, rfl, rfl⟩
   refine Ze (w_store_agg sizeOf37 Y Y (by (simp [Value.oneCell']; done)) (by repeat (first | exact Upd.here _ | apply Upd.there)) (by exact (rfl : _ = (#[_, _, _, _, _, _, _, _, _] : Array Value))) (by first | rfl | (simp; done)) (by first | decide | exact Nat.le_refl _ | (simp; done) | (simp; omega)) (by exact free_zero _)) ?_
   rintro _ _ ⟨rfl, rfl⟩
   refine Za Y <| Z0 <| Zn [2, 4, 5, 6, 7, 8, 9, 11, 13] ?_
   refine Zx <| Zq <| Zg <| Zo (by repeat (first | exact Has.here _ | apply Has.there)) (p_load_agg (cs := #[_, _, _, _, _, _, _, _, _]) isAgg37 sizeOf37 Y (by first | decide | exact Nat.le_refl _ | (simp; done) | (simp; omega)) (by rfl)) ?_
   refine Zc [_] Y call14 Y rfl (rows_c hA (comp_prove rs0_sorted rs0_len rs0_ok 0 2 (by decide) (by decide) 1 100 (by decide)) ((rows_range rs0_sorted rs0_len rs0_ok 0 2 (by decide) (by decide) 1 100 (by decide)).trans A_in)) ?_
   rintro _ _ ⟨_, ⟨vx, sx, rfl, hx, rfl⟩, rfl⟩
   obtain ⟨gx, cx, curx, zx, rfl, rfl, hkx⟩ := row_key hx
   refine Zm Y <| Zd Y rfl <| Zd Y rfl <| Za Y <| Za Y <| Z0 <| Zx <| Zq <| Zg <| Zo (by repeat (first | exact Has.here _ | apply Has.there)) (p_load_agg (cs := #[_, _, _, _, _, _, _, _, _]) isAgg37 sizeOf37 Y (by first | decide | exact Nat.le_refl _ | (simp; done) | (simp; omega)) (by rfl)) ?_
   refine Zc [_] Y call14 Y rfl (rows_c hB (comp_prove rs0_sorted rs0_len rs0_ok 0 1 (by decide) (by decide) 11 20 (by decide)) ((rows_range rs0_sorted rs0_len rs0_ok 0 1 (by decide) (by decide) 11 20 (by decide)).trans B_in)) ?_
   rintro _ _ ⟨_, ⟨vy, sy, rfl, hy, rfl⟩, rfl⟩
   obtain ⟨qy, cy, rfl⟩ := hy.form
   refine Zm Y <| Zd Y rfl <| Zd Y rfl <| Za Y <| Za Y <| Z0 <| Zn [2, 4, 5, 6, 7, 8, 9, 11, 13, 14, 15, 16, 17] ?_
   refine Zx <| Zq <| at_nil ?_
   refine Zg <| Zv (p_build (vs := [(4, .int .i64 2), (5, .int .i64 1), (3, .int .i64 9)]) (cs := #[.int .i64 0, .int .i64 0, .int .i64 0, .int .i64 9, .int .i64 2, .int .i64 1, .slice none 0 0, .slice none 0 0, .slice none 0 0]) Y (run_build_struct (pl := #[(0, 1), (1, 1), (2, 1), (3, 1), (4, 1), (5, 1), (6, 1), (7, 1), (8, 1)]) zeroValue37 underlying37 (fun _ => by kernel_rfl) (by kernel_rfl))) ?_
   refine Zc [_] Y call14 Y rfl (rows_n (rp_none []) D_comp) ?_
   rintro _ _ ⟨_, ⟨vz, sz, rfl, hz, rfl⟩, rfl⟩
   refine Zm Y <| Zd Y rfl <| Zd Y rfl <| Za Y <| Za Y <| Z0 <| Zx <| Zq <| Zg <| Zm Y <| Zr [_] Y call9 Y rfl (root_st _ _ rs0 _ hst rs0_sorted rs0_len rs0_ok Tg zg) ?_
   rintro _ _ ⟨rfl, rfl⟩
   refine Za Y <| Z0 <| Zx <| Zq <| Zq <| Zg <| Zm Y <| Zv (p_neq_nat (n := 0) Y Y) <| Zm Y ?_
   refine ops_split (t := 83) Y rfl (fun k11 => ?_) (fun k11 => ?_)
   ·
    exfalso; first | exact k11 rfl | (cases k11; done) | omega
   ·
    refine Zf Y Y <| Yg (p_neq_nat (n := 0) Y Y) <| Zv (p_pick_f Y Y) <| Zm Y ?_
    refine ops_split (t := 87) Y rfl (fun k12 => ?_) (fun k12 => ?_)
    ·
     exfalso; first | exact k12 rfl | (cases k12; done) | omega
    ·
     refine Zf Y Y <| Yg (p_neq_nat (n := 0) Y Y) <| Zv (p_pick_f Y Y) <| Zm Y ?_
     refine ops_split (t := 91) Y rfl (fun k13 => ?_) (fun k13 => ?_)
     ·
      exfalso; first | exact k13 rfl | (cases k13; done) | omega
     ·
      refine Zf Y Y <| Yg (p_neq_nat (n := 2) Y Y) <| Zv (p_pick_f Y Y) <| Zm Y ?_
      refine ops_split (t := 95) Y rfl (fun k14 => ?_) (fun k14 => ?_)
      ·
       exfalso; first | exact k14 rfl | (cases k14; done) | omega
      ·
       refine Zf Y Y <| Yg (p_neq_nat (n := 1) Y Y) <| Zv (p_pick_f Y Y) <| Zm Y ?_
       refine ops_split (t := 99) Y rfl (fun k15 => ?_) (fun k15 => ?_)
       ·
        exfalso; first | exact k15 rfl | (cases k15; done) | omega
       ·
        refine Zf Y Y <| Yg (p_len_slice underlying33 Y) <| Yg (p_neq_nat (n := 1) Y Y) <| Zv (p_pick_f Y Y) <| Zm Y ?_
        refine ops_split (t := 104) Y rfl (fun k16 => ?_) (fun k16 => ?_)
        ·
         exfalso; first | exact k16 rfl | (cases k16; done) | omega
        ·
         refine Yf 6 underlying37 rfl rfl sizeOf33 Y <| Yl isAgg33 Y ?_
         refine Yg (p_len_slice underlying33 Y) <| Yg (p_neq_nat (n := 1) Y Y) <| Zv (p_pick_f Y Y) <| Z0 <| Zn [4, 6, 8, 14, 15, 16, 17, 19, 20, 109] ?_
         refine Zx ?_
         refine at_if Y (fun k17 => ?_) (fun k17 => ?_)
         ·
          exfalso; exact k17 rfl
         ·
          refine at_skip <| Zx <| Zq <| at_draw (n := 20) (0 :: 0 :: 3 :: 7 :: 15 :: 15 :: 63 :: 127 :: 255 :: 511 :: 511 :: 2047 :: 4095 :: 8191 :: 16383 :: 16383 :: 65535 :: 131071 :: 262143 :: 524287 :: []) 84036 (by kernel_rfl) (by kernel_rfl) rfl ?_
          refine Zi 1 0 rfl (p_move Y) <| lin_r (D' := 3) 1 rfl rfl rfl (by repeat (first | exact Has.here _ | apply Has.there)) (p_load_agg (cs := #[_, _, _, _, _, _, _, _, _]) isAgg37 sizeOf37 Y (by first | decide | exact Nat.le_refl _ | (simp; done) | (simp; omega)) (by rfl)) ?_
          refine Zz (l := [2]) ?_
          refine Zy 3 7 [1] [false] [] rfl Y rfl rfl rfl rfl (Zu [_, _] Y call23 Y rfl (verify_t hA (prove_roots rs0_sorted rs0_len _ _ _ _) (prove_paths rs0_sorted rs0_len _ _ _ _) (ver_prove rs0_sorted rs0_len rs0_ok 0 2 (by decide) (by decide) 1 100 (by decide)) Tg zg)) ?hk_1 (fun _ _ h => h.elim) ?hl_1
          case hk_1 =>
           rintro _ _ ⟨rfl, rfl⟩
           refine ⟨keep_nil, ?_⟩
           refine Zi 15 3 rfl (p_move Y) ?_
           refine lin_split_bool (t := 113) Y (fun k21 => ?_) (fun k21 => ?_)
           ·
            first | rw [decide_eq_true k21] | rw [k21] | skip
            refine lin_wg (D' := 31) 4 Y rfl rfl rfl (p_move Y) ?_
            refine lin_rg (D' := 63) 5 Y rfl rfl rfl (by repeat (first | exact Has.here _ | apply Has.there)) (p_load_agg (cs := #[_, _, _, _, _, _, _, _, _]) isAgg37 sizeOf37 Y (by first | decide | exact Nat.le_refl _ | (simp; done) | (simp; omega)) (by rfl)) ?_
            refine Zz (l := [6]) ?_
            refine Zy 63 127 [5] [false] [] rfl Y rfl rfl rfl rfl (Zu [_, _] Y call23 Y rfl (verify_t hB (prove_roots rs0_sorted rs0_len _ _ _ _) (prove_paths rs0_sorted rs0_len _ _ _ _) (ver_prove rs0_sorted rs0_len rs0_ok 0 1 (by decide) (by decide) 11 20 (by decide)) Tg zg)) ?hk_2 (fun _ _ h => h.elim) ?hl_2
            case hk_2 =>
             rintro _ _ ⟨rfl, rfl⟩
             refine ⟨keep_nil, ?_⟩
             refine Zi 255 7 rfl (p_pick_t Y Y) <| Zi 511 8 rfl (p_move Y) ?_
             refine lin_split_bool (t := 118) Y (fun k22 => ?_) (fun k22 => ?_)
             ·
              first | rw [decide_eq_true k22] | rw [k22] | skip
              refine lin_wg (D' := 1023) 9 Y rfl rfl rfl (p_move Y) ?_
              refine lin_rg (D' := 2047) 10 Y rfl rfl rfl (by repeat (first | exact Has.here _ | apply Has.there)) (p_load_agg (cs := #[_, _, _, _, _, _, _, _, _]) isAgg37 sizeOf37 Y (by first | decide | exact Nat.le_refl _ | (simp; done) | (simp; omega)) (by rfl)) ?_
              refine Zz (l := [11]) ?_
              refine Zy 2047 4095 [10] [false] [] rfl Y rfl rfl rfl rfl (Zu [_, _] Y call23 Y rfl (verify_t hC (prove_roots rs0_sorted rs0_len _ _ _ _) (prove_paths rs0_sorted rs0_len _ _ _ _) (ver_prove rs0_sorted rs0_len rs0_ok 1 0 (by decide) (by decide) 1 9 (by decide)) Tg zg)) ?hk_3 (fun _ _ h => h.elim) ?hl_3
              case hk_3 =>
               rintro _ _ ⟨rfl, rfl⟩
               refine ⟨keep_nil, ?_⟩
               refine Zi 8191 12 rfl (p_pick_t Y Y) <| Zi 16383 13 rfl (p_move Y) ?_
               refine lin_split_bool (t := 123) Y (fun k23 => ?_) (fun k23 => ?_)
               ·
                first | rw [decide_eq_true k23] | rw [k23] | skip
                refine lin_rg (D' := 49151) 15 Y rfl rfl rfl (by repeat (first | exact Has.here _ | apply Has.there)) (p_load_agg (cs := #[_, _, _, _, _, _, _, _, _]) isAgg37 sizeOf37 Y (by first | decide | exact Nat.le_refl _ | (simp; done) | (simp; omega)) (by rfl)) ?_
                refine Zz (l := [14]) ?_
                refine Zy 16383 65535 [15] [true] [(15, (_, _))] rfl Y rfl rfl rfl rfl (Zu [_] Y call31 Y rfl (sum_str [120] (by simp) Tg zg)) ?hk_4 (fun _ _ h => h.elim) ?hl_4
                case hk_4 =>
                 rintro _ _ ⟨rfl, rfl⟩
                 refine ⟨Zk (keep_nil), ?_⟩
                 refine Zz (l := [16]) ?_
                 refine Zy 65535 131071 [15] [false] [] rfl Y rfl rfl rfl rfl (Zu [_, _] Y call23 Y rfl (verify_f hA (prove_roots rs0_sorted rs0_len _ _ _ _) (prove_paths rs0_sorted rs0_len _ _ _ _) (fun h => root0_x h.root) Tg zg)) ?hk_5 (fun _ _ h => h.elim) ?hl_5
                 case hk_5 =>
                  rintro _ _ ⟨rfl, rfl⟩
                  refine ⟨keep_nil, ?_⟩
                  refine lin_wg (D' := 262143) 17 Y rfl rfl rfl (p_not Y) ?_
                  refine Zi 524287 18 rfl (p_pick_t Y Y) <| Zi 1048575 19 rfl (p_assign Y) <| lin_nil ?_
                  refine Zn [4, 6, 8, 14, 15, 16, 17, 19, 20, 21] ?_
                  refine Zx <| Zq <| Zg <| Zh 6 underlying37 rfl rfl sizeOf33 Y <| Zl isAgg33 Y ?_
                  (refine op_v (p_slice_slice_from (l := 1) underlying33 sizeOf74 Y Y ?_) ?_; (focus (decide)))
                  refine Zh 6 underlying37 rfl rfl sizeOf33 Y <| Ze (Zs sizeOf33 Y Y rfl (hc := by exact (rfl : _ = (#[_, _, _, _, _, _, _, _, _] : Array Value))) (hi := by (simp; done))) ?_
                  rintro _ _ ⟨rfl, rfl⟩
                  refine Z0 <| Zx <| Zq <| Zg <| Zh 7 underlying37 rfl rfl sizeOf34 Y <| Zl isAgg34 Y ?_
                  (refine op_v (p_slice_slice_from (l := 1) underlying34 sizeOf35 Y Y ?_) ?_; (focus (decide)))
                  refine Zh 7 underlying37 rfl rfl sizeOf34 Y <| Ze (Zs sizeOf34 Y Y rfl (hc := by exact (rfl : _ = (#[_, _, _, _, _, _, _, _, _] : Array Value))) (hi := by (simp; done))) ?_
                  rintro _ _ ⟨rfl, rfl⟩
                  refine Z0 <| Zx <| Zq <| Zg <| Zm Y <| Zm Y ?_
                  refine ops_split_bool (t := 138) Y rfl (fun k31 => ?_) (fun k31 => ?_)
                  ·
                   refine Zf Y Y <| Zv (p_pick_t Y Y) <| Zm Y ?_
                   refine ops_split_bool (t := 141) Y rfl (fun k32 => ?_) (fun k32 => ?_)
                   ·
                    refine Zf Y Y <| Yg (p_not Y) <| Zv (p_pick_t Y Y) <| Zm Y ?_
                    refine ops_split_bool (t := 145) Y rfl (fun k33 => ?_) (fun k33 => ?_)
                    ·
                     refine Zf Y Y ?_
                     (refine op_wg Y (p_indexAddr_nat (j := 0) underlying33 sizeOf74 Y Y ?_) rfl rfl ?_; (focus (first | omega | decide | (simp; done))))
                     refine Yg (p_fieldAddr1 (off := 1) underlying74 rfl rfl sizeOf3 Y) <| Yl isAgg3 Y (hv := by exact hkx) ?_
                     refine Yg (p_eql_nat (n := 5) Y Y) <| Zv (p_pick_t Y Y) <| Zm Y ?_
                     refine ops_split (t := 152) Y rfl (fun k34 => ?_) (fun k34 => ?_)
                     ·
                      refine Zf Y Y <| Yg (p_len_slice underlying33 Y) <| Yg (p_eql_nat (n := 0) Y Y) <| Zv (p_pick_t Y Y) <| Zm Y ?_
                      refine ops_split (t := 157) Y rfl (fun k35 => ?_) (fun k35 => ?_)
                      ·
                       refine Yf 5 underlying37 rfl rfl sizeOf3 Y <| Yl isAgg3 Y ?_
                       refine Yg (p_eql_nat (n := 1) Y Y) <| Zv (p_pick_t Y Y) <| Zm Y ?_
                       refine ops_split (t := 162) Y rfl (fun k36 => ?_) (fun k36 => ?_)
                       ·
                        refine Yf 4 underlying37 rfl rfl sizeOf3 Y <| Yl isAgg3 Y ?_
                        refine Yg (p_eql_nat (n := 2) Y Y) <| Zv (p_pick_t Y Y) <| Zm Y ?_
                        refine ops_split (t := 167) Y rfl (fun k37 => ?_) (fun k37 => ?_)
                        ·
                         refine Yf 4 underlying37 rfl rfl sizeOf3 Y <| Yl isAgg3 Y ?_
                         refine Yg (p_eql_nat (n := 0) Y Y) <| Zv (p_pick_t Y Y) <| Zm Y ?_
                         refine ops_split (t := 172) Y rfl (fun k38 => ?_) (fun k38 => ?_)
                         ·
                          refine Zf Y Y <| Zv (p_pick_t Y Y) <| Zm Y ?_
                          refine ops_split_bool (t := 175) Y rfl (fun k39 => ?_) (fun k39 => ?_)
                          ·
                           refine Zf Y Y <| op_rg Y (by repeat (first | exact Has.here _ | apply Has.there)) (p_load_agg (cs := #[_, _, _, _, _, _, _, _, _]) isAgg37 sizeOf37 Y (by first | omega | decide | (simp; done)) (by rfl)) rfl rfl ?_
                           refine Zr [_, _] Y call23 Y rfl (verify_f (x := (proveT rs0 0 2 1 100).cut) (show RPIn ma _ _ from ⟨_, _, _, rfl, RowsU.drop1 hRa (by rw [A_rows]; decide), PathsU.drop1 hPa (by rw [A_plen]; decide), hTa⟩) (prove_roots rs0_sorted rs0_len 0 2 1 100) (fun l hl => prove_paths rs0_sorted rs0_len 0 2 1 100 l (List.mem_of_mem_drop hl)) (fun h => A_cut h.comp) Tg zg) ?_
                           rintro _ _ ⟨rfl, rfl⟩
                           refine Yg (p_not Y) <| Zv (p_pick_t Y Y) <| Zm Y ?_
                           refine ops_split_bool (t := 181) Y rfl (fun k40 => ?_) (fun k40 => ?_)
                           ·
                            refine Zr [_] Y call9 Y rfl (root_none) ?_
                            rintro _ _ ⟨rfl, rfl⟩
                            refine Yg (p_eql_str Y Y) <| Zv (p_pick_t Y Y) <| Zm Y ?_
                            refine ops_split (t := 185) Y rfl (fun k41 => ?_) (fun k41 => ?_)
                            ·
                             refine op_rg Y (by repeat (first | exact Has.here _ | apply Has.there)) (p_load_agg (cs := #[_, _, _, _, _, _, _, _, _]) isAgg37 sizeOf37 Y (by first | omega | decide | (simp; done)) (by rfl)) rfl rfl ?_
                             refine op_rg Y (by repeat (first | exact Has.here _ | apply Has.there)) (p_load_agg (cs := #[_, _, _, _, _, _, _, _, _]) isAgg37 sizeOf37 Y (by first | omega | decide | (simp; done)) (by rfl)) rfl rfl ?_
                             refine Zr [_, _] Y call18 Y rfl (same_t hB) ?_
                             rintro _ _ ⟨rfl, rfl⟩
                             refine Zv (p_pick_t Y Y) <| Zm Y ?_
                             refine ops_split_bool (t := 190) Y rfl (fun k42 => ?_) (fun k42 => ?_)
                             ·
                              refine op_rg Y (by repeat (first | exact Has.here _ | apply Has.there)) (p_load_agg (cs := #[_, _, _, _, _, _, _, _, _]) isAgg37 sizeOf37 Y (by first | omega | decide | (simp; done)) (by rfl)) rfl rfl ?_
                              refine op_rg Y (by repeat (first | exact Has.here _ | apply Has.there)) (p_load_agg (cs := #[_, _, _, _, _, _, _, _, _]) isAgg37 sizeOf37 Y (by first | omega | decide | (simp; done)) (by rfl)) rfl rfl ?_
                              refine Zr [_, _] Y call18 Y rfl (same_f hB hC B_C) ?_
                              rintro _ _ ⟨rfl, rfl⟩
                              refine Yg (p_not Y) <| Zv (p_pick_t Y Y) <| Za Y <| Z0 <| Zn [0] ?_
                              refine Zx <| at_ret ?_
                              refine nx_end1 rfl results7 Y (by exact ⟨rfl, rfl⟩)
                             ·
                              exfalso; first | exact k42 rfl | (cases k42; done) | omega
                            ·
                             exfalso; first | exact k41 rfl | (cases k41; done) | omega
                           ·
                            exfalso; first | exact k40 rfl | (cases k40; done) | omega
                          ·
                           exfalso; first | exact k39 rfl | (cases k39; done) | omega
                         ·
                          exfalso; exact k38 rfl
                        ·
                         exfalso; exact k37 rfl
                       ·
                        exfalso; exact k36 rfl
                      ·
                       exfalso; first | exact k35 rfl | (cases k35; done) | omega
                     ·
                      exfalso; first | exact k34 rfl | (cases k34; done) | omega
                    ·
                     exfalso; first | exact k33 rfl | (cases k33; done) | omega
                   ·
                    exfalso; first | exact k32 rfl | (cases k32; done) | omega
                  ·
                   exfalso; first | exact k31 rfl | (cases k31; done) | omega
                 case hl_5 =>
                  exact each_nil
                case hl_4 =>
                 exact each_nil
               ·
                first | rw [decide_eq_false k23] | rw [k23] | skip
                exfalso; first | exact k23 rfl | (cases k23; done) | omega
              case hl_3 =>
               exact each_nil
             ·
              first | rw [decide_eq_false k22] | rw [k22] | skip
              exfalso; first | exact k22 rfl | (cases k22; done) | omega
            case hl_2 =>
             exact each_nil
           ·
            first | rw [decide_eq_false k21] | rw [k21] | skip
            exfalso; first | exact k21 rfl | (cases k21; done) | omega
          case hl_1 =>
           exact each_nil

end Go.Proofs.YtjeepldonhgohaaGreatDoor


namespace Go.Proofs.YtjeepldonhgohaaGreatDoor
open Go.Proofs.Tryz
open Go Go.RowKit Gw
set_option linter.unusedVariables false
set_option linter.unusedSimpArgs false
set_option maxRecDepth 100000
attribute [local irreducible] Gw.At Gw.Nx Gw.Ops
open Go.ChangeShapes Go.WideShapes Go.Deep
theorem adr0 (ad : Addr) : ad.add 0 = ad := by simp [Addr.add]
theorem adr_spot {w : World} {a : Addr} {v : Value} (h : w.cell? a = some v) : a = ⟨a.block, a.off, none⟩ := by
  cases a with | mk b o s =>
  cases s with
  | none => rfl
  | some s =>
    simp only [World.cell?] at h
    split at h <;> simp at h
theorem cell_heap {w : World} {g i : Nat} {v : Value} (h : w.cell? ⟨g, i, none⟩ = some v) : ∃ cur T z, w.heap[g]? = some (.cells cur T z) ∧ cur[i]? = some v := by
  unfold World.cell? at h
  simp only at h
  split at h
  · rename_i c T z hc
    exact ⟨c, T, z, hc, by simpa using h⟩
  · cases h
theorem str_self (b : ByteArray) : str b.data.toList = b := by cases b; simp [str]
section
variable {H : Type} {enc : TypeId × Value → H} {P : Program} {w : World} {base : Nat} {held : Bool}
end
/-- All the chunks of a world. -/
def wholeL (w : World) : List Chunk := (List.range w.heap.size).filterMap fun b => (w.heap[b]?).map fun o => (b, o)
theorem mem_whole {w : World} {b : Nat} {o : Obj} : (b, o) ∈ wholeL w ↔ w.heap[b]? = some o := by
  unfold wholeL
  rw [List.mem_filterMap]
  constructor
  · rintro ⟨a, _, ha⟩
    obtain ⟨o', h1, h2⟩ := Option.map_eq_some_iff.1 ha
    injection h2 with e1 e2
    subst e1 e2
    exact h1
  · intro h
    refine ⟨b, ?_, by rw [h]; rfl⟩
    rw [List.mem_range]
    rcases Nat.lt_or_ge b w.heap.size with h1 | h1
    · exact h1
    · simp [Array.getElem?_eq_none h1] at h
theorem whole_keys (w : World) : ((wholeL w).map (·.1)).Nodup := by
  have : ∀ l : List Nat, ((l.filterMap fun b => (w.heap[b]?).map fun o => (b, o)).map (·.1)).Sublist l := by
    intro l
    induction l with
    | nil => simp
    | cons a l ih =>
      rw [List.filterMap_cons]
      cases h : w.heap[a]? with
      | none => simp only [Option.map_none]; exact ih.cons a
      | some o => simp only [Option.map_some, List.map_cons]; exact ih.cons_cons a
  exact List.Nodup.sublist (this _) List.nodup_range
def restL (w : World) (ks : List Nat) : List Chunk := (wholeL w).filter fun c => !ks.contains c.1
theorem mem_rest {w : World} {ks : List Nat} {b : Nat} {o : Obj} (h : w.heap[b]? = some o) (hk : b ∉ ks) : (b, o) ∈ restL w ks := by
  unfold restL
  rw [List.mem_filter]
  exact ⟨mem_whole.2 h, by simp [hk]⟩
theorem law_below {P : Program} {f : FuncId} {args : Array Value} {v : Value} {w : World} (L : List Chunk) (hL : ∀ c ∈ L, w.heap[c.1]? = some c.2) (hn : (L.map (·.1)).Nodup) {H : Hp} (hH : H.flatten = L ++ restL w (L.map (·.1))) (h : DoesR P f args H v) :
    Calls P f args w fun e w' => e = .returned v ∧ Below w.heap.size w w' := by
  have hsat : Sat w (H ++ []) w := by
    refine ⟨rfl, rfl, rfl, ?_, ?_⟩
    · rw [List.append_nil, hH, List.map_append, List.nodup_append]
      refine ⟨hn, ?_, ?_⟩
      · exact List.Nodup.sublist (List.filter_sublist.map _) (whole_keys w)
      · intro a ha b hb e
        subst e
        obtain ⟨c, hc, rfl⟩ := List.mem_map.1 hb
        unfold restL at hc
        have := (List.mem_filter.1 hc).2
        simp only [Bool.not_eq_true', List.contains_eq_mem, decide_eq_false_iff_not] at this
        exact this ha
    · intro p hp
      rw [List.append_nil, hH, List.mem_append] at hp
      rcases hp with hp | hp
      · exact hL p hp
      · exact mem_whole.1 (List.mem_filter.1 hp).1
  refine Calls.mono (h w [] w hsat) fun e w' he => ?_
  rcases he with ⟨v', H', rfl, ⟨rfl, rfl⟩, hs⟩ | ⟨_, _, _, hf, _⟩
  · refine ⟨rfl, hs.os, hs.tape, hs.output, ?_, ?_⟩
    · rcases Nat.eq_zero_or_pos w.heap.size with h0 | h0
      · omega
      · have hlt : w.heap.size - 1 < w.heap.size := by omega
        have hg : w.heap[w.heap.size - 1]? = some w.heap[w.heap.size - 1] := Array.getElem?_eq_getElem hlt
        have : w'.heap[w.heap.size - 1]? = some w.heap[w.heap.size - 1] := by
          by_cases hk : (w.heap.size - 1) ∈ L.map (·.1)
          · obtain ⟨c, hc, hk⟩ := List.mem_map.1 hk
            have h1 := hs.get c (by rw [List.append_nil, hH]; exact List.mem_append_left _ hc)
            have h2 := hL c hc
            rw [hk] at h1 h2
            rw [h1, ← h2, hg]
          · exact hs.get (_, _) (by rw [List.append_nil, hH]; exact List.mem_append_right _ (mem_rest hg hk))
        rcases Nat.lt_or_ge (w.heap.size - 1) w'.heap.size with h1 | h1
        · omega
        · rw [Array.getElem?_eq_none h1] at this; cases this
    · intro k hk
      have hg : w.heap[k]? = some w.heap[k] := Array.getElem?_eq_getElem hk
      by_cases hm : k ∈ L.map (·.1)
      · obtain ⟨c, hc, rfl⟩ := List.mem_map.1 hm
        have h1 := hs.get c (by rw [List.append_nil, hH]; exact List.mem_append_left _ hc)
        rw [h1, hL c hc]
      · rw [hg]
        exact hs.get (_, _) (by rw [List.append_nil, hH]; exact List.mem_append_right _ (mem_rest hg hm))
  · exact hf.elim

theorem var_heap {P : Program} {w : World} {n : String} {g : Nat} {cs : Array Value} (hg : P.globalNamed n = some g) (h : w.var? P n = some cs) : ∃ T z, w.heap[g]? = some (.cells cs T z) := by
  unfold World.var? at h
  rw [hg, Option.bind_some] at h
  split at h
  · rename_i c T z hc
    injection h with e
    subst e
    exact ⟨T, z, hc⟩
  · cases h

theorem gRound : Tryz.prog.globalNamed "cachetier/digest.round" = some 0 := by kernel_rfl
theorem tRound : (Tryz.prog.globals[0]?).map (·.type) = some 167 := by kernel_rfl
theorem c32 : Tryz.prog.cellsOf 108 = 1 := by kernel_rfl
theorem cTab : Tryz.prog.cellsOf 167 = 64 := by kernel_rfl
def roundZ : List Int := kTab.map fun x => (x.toNat : Int)
theorem round_data : (Rows.laid_cachetier_digest_round : DataW Unit) = Lib.tabData .u32 roundZ := by kernel_rfl
theorem round_cells : (roundZ.map fun z => Value.int .u32 z).toArray = (kTab.map u32v).toArray := by kernel_rfl
theorem of_laid1 {r : List (String × DataW Unit)} {W : World} (h : laidMet Tryz.prog (("cachetier/digest.round", Rows.laid_cachetier_digest_round) :: r) W) :
    ∃ Tg zg, W.heap[0]? = some (.cells (kTab.map u32v).toArray Tg zg) := by
  rw [round_data] at h
  have h2 := Lib.tabIs_of_head gRound tRound underlying167 underlying108 c32 cTab h
  unfold Lib.TabIs at h2
  rw [round_cells] at h2
  obtain ⟨Tg, zg, hb⟩ := var_heap gRound h2
  exact ⟨Tg, zg, hb⟩
def isArg : Value → Bool
  | .string _ => true
  | .slice _ _ _ => true
  | .bool _ => true
  | .int .i64 _ => true
  | _ => false
theorem glob_ne1 {W : World} {Tg : TypeId} {zg : Nat × Nat} (h4 : W.heap[0]? = some (.cells (kTab.map u32v).toArray Tg zg))
    {g i : Nat} {cur : Array Value} {T : TypeId} {z : Nat × Nat} (hb : W.heap[g]? = some (.cells cur T z)) {y : Value} (hc : cur[i]? = some y) (ha : isArg y = true) : g ∉ [0] := by
  intro hm
  simp only [List.mem_cons, List.not_mem_nil, or_false] at hm
  subst hm
  rw [h4] at hb
  injection hb with e
  injection e with e1 _ _
  subst e1
  rw [List.getElem?_toArray, List.getElem?_map] at hc
  obtain ⟨u, _, rfl⟩ := Option.map_eq_some_iff.1 hc
  simp [u32v, isArg] at ha
/-- A law's contract at a world that holds what the rows list. -/
theorem law_at1 {f : FuncId} {args : Array Value} {v : Value} {W : World} {Tg : TypeId} {zg : Nat × Nat} (h4 : W.heap[0]? = some (.cells (kTab.map u32v).toArray Tg zg))
    (h : DoesR Tryz.prog f args [[(0, .cells (kTab.map u32v).toArray Tg zg)], restL W [0]] v) :
    Calls Tryz.prog f args W fun e w' => e = .returned v ∧ Below W.heap.size W w' :=
  law_below [(0, .cells (kTab.map u32v).toArray Tg zg)] (by
    intro c hc
    simp only [List.mem_cons, List.not_mem_nil, or_false] at hc
    subst hc; exact h4) (by simp) (by simp) h
theorem list_choose {α : Type} : ∀ (n : Nat) (p : Nat → α → Prop), (∀ i, i < n → ∃ o, p i o) → ∃ os : List α, os.length = n ∧ ∀ i o, os[i]? = some o → p i o
  | 0, _, _ => ⟨[], rfl, fun i o h => by cases h⟩
  | n + 1, p, h => by
    obtain ⟨os, h1, h2⟩ := list_choose n p (fun i hi => h i (by omega))
    obtain ⟨o, ho⟩ := h n (by omega)
    refine ⟨os ++ [o], by simp [h1], fun i o' hi => ?_⟩
    rw [List.getElem?_append] at hi
    split at hi
    · exact h2 i o' hi
    · rename_i hlt
      have : i = n := by
        have := (List.getElem?_eq_some_iff.1 hi).1
        simp at this; omega
      subst this
      rw [h1, Nat.sub_self] at hi
      simp only [List.getElem?_cons_zero, Option.some.injEq] at hi
      subst hi; exact ho
section
variable {H : Type} {enc : TypeId × Value → H} {P : Program} {W : World} {base : Nat} {held : Bool}
/-- A slice, its elements' cells one after another. -/
theorem open_cells {t e : TypeId} {s fuel : Nat} {cs : List Value} {x : DataW H × List MemPlace} (ht : P.underlying t = some (.slice e)) (hc : P.cellsOf e = s) (hs : 0 < s) (h : DataW.trod enc P W base (fun _ => true) held fuel t cs = some x) :
    ∃ p len cap, cs = [.slice p len cap] ∧ (len ≤ maxLen ∧ len ≤ cap) ∧ ∀ i, i < len → ∃ cs' n z, cs'.length = s ∧ DataW.trod enc P W base (fun _ => true) held n e cs' = some z ∧
      ∃ g o cur T zz, p = some ⟨g, o, none⟩ ∧ W.heap[g]? = some (.cells cur T zz) ∧ ∀ j, j < s → cur[o + i * s + j]? = cs'[j]? := by
  rcases open_slice ht h with ⟨rfl, _⟩ | ⟨a, len, cap, m, n, D, Pl, rfl, _, hl, hm, hmm, _, hel⟩
  · exact ⟨none, 0, 0, rfl, ⟨Nat.zero_le _, Nat.le_refl _⟩, fun i hi => by omega⟩
  · simp only [if_true] at hmm
    subst hmm
    refine ⟨some a, len, m, rfl, ⟨by omega, hl⟩, fun i hi => ?_⟩
    have hsp2 : a = ⟨a.block, a.off, none⟩ := by
      obtain ⟨cs0, g1, _⟩ := hel 0 (by omega)
      rw [hc] at g1
      obtain ⟨_, glen, gg⟩ := World.cells?_some g1
      have g9 := gg 0 hs
      rw [List.getElem?_eq_getElem (l := cs0) (i := 0) (by omega), Nat.zero_mul, adr0, adr0] at g9
      exact adr_spot g9
    obtain ⟨cs', h1, h2⟩ := hel i (by omega)
    rw [hc] at h1
    obtain ⟨_, hlen, hg⟩ := World.cells?_some h1
    refine ⟨cs', n, _, hlen, h2, ?_⟩
    have h9 := hg 0 hs
    rw [List.getElem?_eq_getElem (l := cs') (i := 0) (by omega), hsp2, add_addr, add_addr] at h9
    obtain ⟨cur, T, zz, hb, _⟩ := cell_heap h9
    refine ⟨a.block, a.off, cur, T, zz, by rw [← hsp2], hb, fun j hj => ?_⟩
    have h8 := hg j hj
    rw [List.getElem?_eq_getElem (l := cs') (i := j) (by omega)] at h8 ⊢
    rw [hsp2, add_addr, add_addr] at h8
    obtain ⟨cur2, T2, zz2, hb2, hc2⟩ := cell_heap h8
    rw [hb] at hb2
    injection hb2 with e
    injection e with e1 _ _
    rw [e1]; exact hc2
end

theorem cInt : Tryz.prog.cellsOf 3 = 1 := by kernel_rfl
theorem cSix : Tryz.prog.cellsOf 92 = 6 := by kernel_rfl

theorem open_sixes1 {H : Type} {enc : TypeId × Value → H} {W : World} {base : Nat} {held : Bool} {Tg : TypeId} {zg : Nat × Nat} (h4 : W.heap[0]? = some (.cells (kTab.map u32v).toArray Tg zg)) {fuel : Nat} {cs : List Value} {x : DataW H × List MemPlace} (h : DataW.trod enc Tryz.prog W base (fun _ => true) held fuel 22 cs = some x) :
    ∃ v xs, cs = [v] ∧ SixIn (restL W [0]) v xs := by
  obtain ⟨p, len, cap, rfl, hl, hel⟩ := open_cells underlying22 cSix (by decide) h
  obtain ⟨xs, h1, h2⟩ := list_choose len (fun i (z : List Int) => z.length = 6 ∧ (∀ n ∈ z, -9223372036854775808 ≤ n ∧ n ≤ 9223372036854775807) ∧ ∃ g o cur T zz, p = some ⟨g, o, none⟩ ∧ (g, Obj.cells cur T zz) ∈ restL W [0] ∧ ∀ (j : Nat) (n : Int), z[j]? = some n → cur[o + i * 6 + j]? = some (.int .i64 n)) (fun i hi => by
    obtain ⟨cs', n, z, hlen, ht, g, o, cur, T, zz, hp, hb, hc⟩ := hel i hi
    obtain ⟨ys, m, _, _, _, hyl, hf⟩ := DataW.trod_array underlying92 ht
    obtain ⟨ns, hn1, hn2⟩ := list_choose 6 (fun j (n : Int) => (-9223372036854775808 ≤ n ∧ n ≤ 9223372036854775807) ∧ cs'[j]? = some (.int .i64 n)) (fun j hj => by
      have f := hf j hj
      rw [cInt, Nat.mul_one, List.getElem?_eq_getElem (by omega)] at f
      have hj2 : j < cs'.length := by omega
      have e : (cs'.drop j).take 1 = [cs'[j]] := by rw [List.drop_eq_getElem_cons hj2]; rfl
      rw [e] at f
      obtain ⟨k, hk, _, hkw⟩ := DataW.trod_int underlying3 f
      injection hk with hk _
      exact ⟨k, bounds_i64 hkw, by rw [List.getElem?_eq_getElem hj2, hk]⟩)
    have hat : ∀ (j : Nat) (n : Int), ns[j]? = some n → cur[o + i * 6 + j]? = some (.int .i64 n) := fun j n hj => by
      have hlt := (List.getElem?_eq_some_iff.1 hj).1
      rw [hc j (by omega)]
      exact (hn2 j n hj).2
    obtain ⟨n0, hn0⟩ : ∃ n, ns[0]? = some n := ⟨_, List.getElem?_eq_getElem (by omega)⟩
    exact ⟨ns, hn1, fun n hmem => by
      obtain ⟨j, hj⟩ := List.getElem?_of_mem hmem
      exact (hn2 j n hj).1, g, o, cur, T, zz, hp, mem_rest hb (glob_ne1 h4 hb (hat 0 n0 hn0) rfl), hat⟩)
  subst h1
  exact ⟨_, xs, rfl, p, cap, rfl, hl, h2⟩

end Go.Proofs.YtjeepldonhgohaaGreatDoor

namespace Go.Proofs.YtjeepldonhgohaaGreatDoor
open Go.Proofs.Tryz
open Go Go.RowKit Gw
set_option linter.unusedVariables false
set_option linter.unusedSimpArgs false
set_option maxRecDepth 100000
attribute [local irreducible] Gw.At Gw.Nx Gw.Ops
open Go.ChangeShapes Go.WideShapes Go.Deep
theorem okWide_arr {P : Program} {w : World} {r : Reach} {base n : Nat} {t e : TypeId} {v : Value} (hu : P.underlying t = some (.array n e)) (h : Value.okWide P w r base t v) : ∃ cs, v = .agg cs ∧ cs.size = P.cellsOf t := by
  unfold Value.okWide at h
  rw [hu] at h
  obtain ⟨cs, rfl, h1, _⟩ := h
  exact ⟨cs, rfl, h1⟩
theorem cFour : Tryz.prog.cellsOf 23 = 4 := by kernel_rfl
theorem list_four {l : List Value} (h : l.length = 4) : ∃ a b c d, l = [a, b, c, d] := by
  match l, h with
  | [a, b, c, d], _ => exact ⟨a, b, c, d, rfl⟩
theorem open_arr4 {H : Type} {enc : TypeId × Value → H} {W : World} {base : Nat} {held : Bool} {fuel : Nat} {l : List Value} {x : DataW H × List MemPlace} (h : DataW.trod enc Tryz.prog W base (fun _ => true) held fuel 23 l = some x) (hl : l.length = 4) :
    ∃ a b c d : Int, l = [.int .i64 a, .int .i64 b, .int .i64 c, .int .i64 d] ∧ (-9223372036854775808 ≤ a ∧ a ≤ 9223372036854775807) ∧ (-9223372036854775808 ≤ b ∧ b ≤ 9223372036854775807) ∧ (-9223372036854775808 ≤ c ∧ c ≤ 9223372036854775807) ∧ (-9223372036854775808 ≤ d ∧ d ≤ 9223372036854775807) := by
  obtain ⟨ys, m, _, _, _, hyl, hf⟩ := DataW.trod_array underlying23 h
  have hj : ∀ j, j < 4 → ∃ n : Int, l[j]? = some (.int .i64 n) ∧ -9223372036854775808 ≤ n ∧ n ≤ 9223372036854775807 := fun j hj => by
    have f := hf j hj
    rw [cInt, Nat.mul_one, List.getElem?_eq_getElem (by omega)] at f
    have hj2 : j < l.length := by omega
    have e : (l.drop j).take 1 = [l[j]] := by rw [List.drop_eq_getElem_cons hj2]; rfl
    rw [e] at f
    obtain ⟨k, hk, _, hkw⟩ := DataW.trod_int underlying3 f
    injection hk with hk _
    exact ⟨k, by rw [List.getElem?_eq_getElem hj2, hk], bounds_i64 hkw⟩
  obtain ⟨v0, v1, v2, v3, rfl⟩ := list_four hl
  obtain ⟨a, ha, ha2⟩ := hj 0 (by decide)
  obtain ⟨b, hb, hb2⟩ := hj 1 (by decide)
  obtain ⟨c, hc, hc2⟩ := hj 2 (by decide)
  obtain ⟨d, hd, hd2⟩ := hj 3 (by decide)
  simp at ha hb hc hd
  subst ha hb hc hd
  exact ⟨a, b, c, d, rfl, ha2, hb2, hc2, hd2⟩

end Go.Proofs.YtjeepldonhgohaaGreatDoor

namespace Go.Proofs.YtjeepldonhgohaaGreatDoor
open Go.Proofs.Tryz
open Go Go.RowKit Gw
set_option linter.unusedVariables false
set_option linter.unusedSimpArgs false
set_option maxRecDepth 100000
attribute [local irreducible] Gw.At Gw.Nx Gw.Ops
open Go.ChangeShapes Go.WideShapes Go.Deep
theorem cThree : Tryz.prog.cellsOf 47 = 3 := by kernel_rfl
theorem list_three {l : List Value} (h : l.length = 3) : ∃ a b c, l = [a, b, c] := by
  match l, h with
  | [a, b, c], _ => exact ⟨a, b, c, rfl⟩
theorem open_arr3 {H : Type} {enc : TypeId × Value → H} {W : World} {base : Nat} {held : Bool} {fuel : Nat} {l : List Value} {x : DataW H × List MemPlace} (h : DataW.trod enc Tryz.prog W base (fun _ => true) held fuel 47 l = some x) (hl : l.length = 3) :
    ∃ a b c : Int, l = [.int .i64 a, .int .i64 b, .int .i64 c] ∧ (-9223372036854775808 ≤ a ∧ a ≤ 9223372036854775807) ∧ (-9223372036854775808 ≤ b ∧ b ≤ 9223372036854775807) ∧ (-9223372036854775808 ≤ c ∧ c ≤ 9223372036854775807) := by
  obtain ⟨ys, m, _, _, _, hyl, hf⟩ := DataW.trod_array underlying47 h
  have hj : ∀ j, j < 3 → ∃ n : Int, l[j]? = some (.int .i64 n) ∧ -9223372036854775808 ≤ n ∧ n ≤ 9223372036854775807 := fun j hj => by
    have f := hf j hj
    rw [cInt, Nat.mul_one, List.getElem?_eq_getElem (by omega)] at f
    have hj2 : j < l.length := by omega
    have e : (l.drop j).take 1 = [l[j]] := by rw [List.drop_eq_getElem_cons hj2]; rfl
    rw [e] at f
    obtain ⟨k, hk, _, hkw⟩ := DataW.trod_int underlying3 f
    injection hk with hk _
    exact ⟨k, by rw [List.getElem?_eq_getElem hj2, hk], bounds_i64 hkw⟩
  obtain ⟨v0, v1, v2, rfl⟩ := list_three hl
  obtain ⟨a, ha, ha2⟩ := hj 0 (by decide)
  obtain ⟨b, hb, hb2⟩ := hj 1 (by decide)
  obtain ⟨c, hc, hc2⟩ := hj 2 (by decide)
  simp at ha hb hc
  subst ha hb hc
  exact ⟨a, b, c, rfl, ha2, hb2, hc2⟩

end Go.Proofs.YtjeepldonhgohaaGreatDoor
