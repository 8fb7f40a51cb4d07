/- proof.Start on what Make returns, for queries that are not joins. -/
/- Plain words on records replayed, for the law LeaseAgrees. -/
import Derived.Test.YtkgmgmkbgnkdnaaGreatDoorEz
import Derived.Test.YtkgmgmkbgnkdnaaGreatDoorPf2
import Derived.Test.YtkgmgmkbgnkdnaaGreatDoorEx29
import Derived.Test.YtkgmgmkbgnkdnaaGreatDoorLs2

namespace Go.Proofs.YtkgmgmkbgnkdnaaGreatDoor
open Go.Proofs.Tryz
open Go Go.RowKit Gw
set_option linter.unusedVariables false
set_option linter.unusedSimpArgs false
set_option maxRecDepth 100000
attribute [local irreducible] Gw.At Gw.Nx Gw.Ops
theorem p_typeAssert9 {P : Program} {env : Env} {d : Option Nat} {ty : TypeId} {pos : String} {af : Array Edge} {g : Option (Nat × Bool)} {x : Operand} {xT at_ : TypeId} {ok : Bool} {v r : Value} (hx : ∀ a, ev a env x = v) (hr : ∀ w : World, (Instr.typeAssert v xT at_ ok).run P w = .ok r w) : OpP P ⟨d, .typeAssert x xT at_ ok, ty, pos, af, g⟩ env [] r := fun a w _ => by
  simp [execOp, hx a, hr w]
theorem isNil9 (w : World) : (Instr.typeAssert .nilIface 20 143 true).run Tryz.prog w = .ok (.tuple #[.nilIface, .bool false]) w := by kernel_rfl
theorem has_sat9 {u w : World} {H : Hp} {b : Nat} {o : Obj} (h : Has b o H) (hs : Sat u H w) : w.heap[b]? = some o := hs.get _ h.mem
theorem from_eval {rs : List RowM} {q : QM} (hq : ValidQ q) (h7 : q.kd ≠ 7) : fromV q (rangeL rs q.tb q.cl.toNat q.lo q.hi) [] = evalT rs q := by
  rw [fv_ok hq]
  unfold evalT fromQ scanL
  split
  · rfl
  · split
    · rfl
    · split
      · rfl
      · split
        · rfl
        · first
          | rfl
          | (split
             · rename_i h; exact absurd h h7
             · rfl)
theorem rows_q {rs : List RowM} (hs : SortedR rs) (hn : rs.length ≤ 2000) (hok : ∀ r ∈ rs, r.ok) (q : QM) (hq : ValidQ q) : Comp (proveT rs q.tb.toNat q.cl.toNat q.lo q.hi) ∧ rowsT (proveT rs q.tb.toNat q.cl.toNat q.lo q.hi) = rangeL rs q.tb q.cl.toNat q.lo q.hi := by
  obtain ⟨h1, h2, h3, _⟩ := id hq
  refine ⟨comp_prove hs hn hok q.tb.toNat q.cl.toNat (by omega) (by omega) q.lo q.hi h3.2.1, ?_⟩
  have h := rows_range hs hn hok q.tb.toNat q.cl.toNat (by omega) (by omega) q.lo q.hi h3.2.1
  rwa [show ((q.tb.toNat : Nat) : Int) = q.tb by omega] at h
theorem prove_hd {rs : List RowM} {q : QM} (hq : ValidQ q) : (proveT rs q.tb.toNat q.cl.toNat q.lo q.hi).tb = q.tb ∧ (proveT rs q.tb.toNat q.cl.toNat q.lo q.hi).cl = q.cl ∧ (proveT rs q.tb.toNat q.cl.toNat q.lo q.hi).lo = q.lo ∧ (proveT rs q.tb.toNat q.cl.toNat q.lo q.hi).hi = q.hi := by
  obtain ⟨h1, h2, _⟩ := id hq
  exact ⟨show ((q.tb.toNat : Nat) : Int) = q.tb by omega, show ((q.cl.toNat : Nat) : Int) = q.cl by omega, rfl, rfl⟩

theorem check_ok : DoesR Tryz.prog 32 #[.bool true] [] undef := by
 refine spec_enter func32 rfl ntmps32 rfl ?_
 intro u R
 refine Zb [0] ?_
 refine Zq <| Zg <| Zm Y <| Zv (p_not Y) <| Z0 <| Zx ?_
 refine at_if_bool Y (fun hb => ?_) (fun hb => ?_)
 ·
  cases hb
 refine at_skip ?_
 refine nx_end0 rfl results32 (by exact ⟨rfl, rfl⟩)

theorem caughtD (pk : Value) : DoesD Tryz.prog 31 #[pk] .returning .returning [] (fun H' => H' = []) := by
 refine specD_enter (env1 := [(3, .bool false), (2, .nilIface), (8, .bool false), (7, .nilIface), (4, .tuple #[.nilIface, .bool false]), (6, .tuple #[.nilIface, .bool false]), (5, .nilIface), (0, pk)]) func31 rfl ntmps31 rfl results31 ?hrec_1 ?hwalk_1
 case hrec_1 =>
  intro u R c cs Q hm hk
  show OpsS _ _ [0, 1, 2, 3, 4, 5, 6] _ _ _ _ _
  have hcm : ({ c with mode := .returning } : Frame) = c := by cases c; simp only at hm; subst hm; rfl
  rw [hcm] at hk
  refine opsS_norec rfl (by simp [recoverD, hm]) rfl ?_
  refine opsS_w rfl (p_typeAssert9 Y isNil9) rfl ?_
  refine opsS_w rfl (p_move Y) rfl ?_
  refine opsS_w rfl (p_extract Y rfl) rfl ?_
  refine opsS_w rfl (p_extract Y rfl) rfl ?_
  refine opsS_w rfl (p_assign Y) rfl ?_
  refine opsS_w rfl (p_assign Y) rfl ?_
  intro a w hs
  exact hk a w hs
 intro u R
 refine Zb [0, 2, 3] ?_
 refine Zq <| Zg <| Zm Y <| Zm Y ?_
 refine ops_split_bool (t := 10) Y rfl (fun hb => ?_) (fun hb => ?_)
 ·
  cases hb
 refine op_skip Y rfl <| op_skip Y rfl <| op_skip Y rfl <| Zv (p_pick_f Y Y) <| Z0 <| Zx <| at_else Y <| at_skip ?_
 refine nx_end0 rfl results31 (by rfl)

theorem startD (bk : Nat) (po : Value) : DoesD Tryz.prog 30 #[.pointer (some ⟨bk, 0, none⟩), po] .returning .returning [[(bk, .cells #[.bool true] 4 (0, 0))]] (fun H' => H' = [[(bk, .cells #[.bool true] 4 (0, 0))]]) := by
 refine doesD_plain func30 rfl ntmps30 rfl ?_
 intro u R
 refine Zb [0, 1] ?_
 refine Zq <| Zg <| Zl isAgg4 Y ?_
 refine Zv (p_not Y) <| Z0 <| Zx ?_
 refine at_if_bool Y (fun hb => ?_) (fun hb => ?_)
 ·
  cases hb
 refine at_skip ?_
 refine nx_end0 rfl results30 (by rfl)

set_option maxHeartbeats 1000000 in
theorem read_q {rs : List RowM} (hn : rs.length ≤ 2000) (hok : ∀ r ∈ rs, r.ok) (q : QM) (hq : ValidQ q) {x : RP} (hcomp : Comp x) (hrows : rowsT x = rangeL rs q.tb q.cl.toNat q.lo q.hi) (hhd : x.tb = q.tb ∧ x.cl = q.cl ∧ x.lo = q.lo ∧ x.hi = q.hi) {qr : Option Addr} {cr : Nat} {qp : Option Addr} {cp : Nat} {qt : Option Addr} {ct : Nat} {mem so : List Chunk} {g : Option Addr} {c : Nat} (hR : RPIn mem (.agg #[.int .i64 x.tb, .int .i64 x.cl, .int .i64 x.lo, .int .i64 x.hi, .int .i64 x.ct, .int .i64 x.fi, .slice qr x.rows.length cr, .slice qp x.paths.length cp, .slice qt x.roots.length ct]) x) (hso : RowS 9 79 (.slice g 1 c) 1 [.int .i64 x.tb, .int .i64 x.cl, .int .i64 x.lo, .int .i64 x.hi, .int .i64 x.ct, .int .i64 x.fi, .slice qr x.rows.length cr, .slice qp x.paths.length cp, .slice qt x.roots.length ct] so) (br : Nat) : Does Tryz.prog 33 #[.pointer (some ⟨br, 0, none⟩), .agg #[.int .i64 q.tb, .int .i64 q.cl, .int .i64 q.lo, .int .i64 q.hi]] [[(br, .cells #[.slice g 1 c] 91 (0, 0))], so, mem] (fun r H' => ∃ sr g', RowS 5 67 r (rangeL rs q.tb q.cl.toNat q.lo q.hi).length (rowCells (rangeL rs q.tb q.cl.toNat q.lo q.hi)) sr ∧ H' = [sr, [(br, .cells #[(.slice g' 0 (c - 1))] 91 (0, 0))], so, mem]) := by
 have hml : maxLen = 9223372036854775807 := rfl
 obtain ⟨hd1, hd2, hd3, hd4⟩ := hhd
 have hc1 := rowS_le hso
 obtain ⟨g0, cap0, cur, z, hv9, rfl, hsz9, hex⟩ := rowS_ext hso 0 (by decide)
 injection hv9 with hv1 hv2 hv3
 subst hv1 hv3
 have hex9 : cur.extract (0 + 0 * 9) (0 + 0 * 9 + 9) = #[.int .i64 x.tb, .int .i64 x.cl, .int .i64 x.lo, .int .i64 x.hi, .int .i64 x.ct, .int .i64 x.fi, .slice qr x.rows.length cr, .slice qp x.paths.length cp, .slice qt x.roots.length ct] := Array.toList_inj.1 hex
 refine spec_enter func33 rfl ntmps33 rfl ?_
 intro u R
 refine Zb [0, 1] ?_
 refine Zq <| Zg <| Ze (w_box Y (cs := #[_, _, _, _]) rfl) ?_
 rintro _ _ ⟨bx, rfl, rfl⟩
 refine Za Y <| Z0 <| Zx <| Zq <| Zg <| Zm Y <| Zp Y rfl <| Zh 0 underlying91 rfl rfl sizeOf35 Y <| Zl isAgg35 Y ?_
 refine Zv (p_len_slice underlying35 Y) <| Zv (p_gtr_nat (n := 0) Y Y) ?_
 rw [decide_eq_true (show (0 : Nat) < 1 by decide)]
 refine Xr [_] Y call32 Y rfl (check_ok) ?_
 refine Z0 <| Zx <| Zq <| Zg <| Zm Y <| Zp Y rfl <| Zh 0 underlying91 rfl rfl sizeOf35 Y <| Zl isAgg35 Y ?_
 (refine op_v (p_indexAddr_nat (j := 0) underlying35 sizeOf79 Y Y ?_) ?_; (focus (first | omega | decide | (simp; done))))
 refine Zo Wh (p_load_agg (cs := #[.int .i64 x.tb, .int .i64 x.cl, .int .i64 x.lo, .int .i64 x.hi, .int .i64 x.ct, .int .i64 x.fi, .slice qr x.rows.length cr, .slice qp x.paths.length cp, .slice qt x.roots.length ct]) isAgg79 sizeOf79 Y (by omega) hex9) ?_
 refine Ze (w_alloc zeroValue79 (cs := #[_, _, _, _, _, _, _, _, _]) rfl) ?_
 rintro _ _ ⟨bp, rfl, rfl⟩
 refine Xe (w_store_agg sizeOf79 Y Y (by (simp [Value.oneCell']; done)) Wu (by exact (rfl : _ = (#[.int .i64 x.tb, .int .i64 x.cl, .int .i64 x.lo, .int .i64 x.hi, .int .i64 x.ct, .int .i64 x.fi, .slice qr x.rows.length cr, .slice qp x.paths.length cp, .slice qt x.roots.length ct] : Array Value))) (by first | rfl | (simp; done)) Wb (by exact free_zero _)) ?_
 refine Z0 <| Zn [0, 3, 5] ?_
 refine Zx <| Zq <| Zg <| Zm Y <| Zm Y <| Zp Y rfl <| Zh 0 underlying91 rfl rfl sizeOf35 Y <| Zl isAgg35 Y ?_
 (refine op_v (p_slice_slice_from (l := 1) underlying35 sizeOf79 Y Y ?_) ?_; (focus (first | omega | decide | (simp; done))))
 refine Zp Y rfl <| Zh 0 underlying91 rfl rfl sizeOf35 Y <| Xe (Zs sizeOf35 Y Y rfl (hi := by first | omega | decide | (simp; done))) ?_
 refine Z0 <| Zx <| Zq <| Zg <| Zh 0 underlying79 rfl rfl sizeOf3 Y <| Zl isAgg3 Y (hv := by exact (rfl : _ = some (Value.int .i64 x.tb))) ?_
 refine Zh 1 underlying79 rfl rfl sizeOf3 Y <| Zl isAgg3 Y (hv := by exact (rfl : _ = some (Value.int .i64 x.cl))) ?_
 refine Zh 2 underlying79 rfl rfl sizeOf3 Y <| Zl isAgg3 Y (hv := by exact (rfl : _ = some (Value.int .i64 x.lo))) ?_
 refine Zh 3 underlying79 rfl rfl sizeOf3 Y <| Zl isAgg3 Y (hv := by exact (rfl : _ = some (Value.int .i64 x.hi))) ?_
 refine Zv (p_build (vs := [(0, .int .i64 x.tb), (1, .int .i64 x.cl), (2, .int .i64 x.lo), (3, .int .i64 x.hi)]) (cs := #[.int .i64 x.tb, .int .i64 x.cl, .int .i64 x.lo, .int .i64 x.hi]) Y (run_build_struct (pl := #[(0, 1), (1, 1), (2, 1), (3, 1)]) zeroValue76 underlying76 (fun _ => by kernel_rfl) (by kernel_rfl))) ?_
 refine Zo Wh (p_load_agg (cs := #[.int .i64 q.tb, .int .i64 q.cl, .int .i64 q.lo, .int .i64 q.hi]) isAgg76 sizeOf76 Y Wb (by rfl)) ?_
 refine Zv (p_eql_ints4 (by kernel_rfl) underlying76 (by kernel_rfl) (by decide) (by decide) (by decide) (by decide) underlying3 isAgg3 Y Y) ?_
 rw [decide_eq_true (show x.tb = q.tb ∧ x.cl = q.cl ∧ x.lo = q.lo ∧ x.hi = q.hi from ⟨hd1, hd2, hd3, hd4⟩)]
 refine Xr [_] Y call32 Y rfl (check_ok) ?_
 refine Z0 <| Zn [5] ?_
 refine Zx <| Zq <| Zg <| Zo Wh (p_load_agg (cs := #[.int .i64 x.tb, .int .i64 x.cl, .int .i64 x.lo, .int .i64 x.hi, .int .i64 x.ct, .int .i64 x.fi, .slice qr x.rows.length cr, .slice qp x.paths.length cp, .slice qt x.roots.length ct]) isAgg79 sizeOf79 Y Wb (by rfl)) ?_
 refine Zc [_] Y call65 Y rfl (rows_c hR hcomp hrows) ?_
 rintro _ _ ⟨_, ⟨vr, sr, rfl, hr9, rfl⟩, rfl⟩
 obtain ⟨gr, c9, rfl⟩ := hr9.form
 refine Zm Y <| Zd Y rfl <| Zd Y rfl <| Za Y <| Za Y <| Z0 <| Zx <| Zq <| Zg <| Zm Y <| Xr [_] Y call32 Y rfl (check_ok) ?_
 refine Z0 <| Zx <| Zq <| Zg <| Zm Y <| Za Y <| Z0 <| Zx <| at_ret ?_
 refine nx_end1 rfl results33 Y (by exact ⟨sr, cutAt (some ⟨g0, 0, none⟩) 1 c 9, hr9, rfl⟩)

set_option maxHeartbeats 1000000 in
theorem start_q {rs : List RowM} (hn : rs.length ≤ 2000) (hok : ∀ r ∈ rs, r.ok) (q : QM) (hq : ValidQ q) {x : RP} (hcomp : Comp x) (hrows : rowsT x = rangeL rs q.tb q.cl.toNat q.lo q.hi) (hhd : x.tb = q.tb ∧ x.cl = q.cl ∧ x.lo = q.lo ∧ x.hi = q.hi) {qr : Option Addr} {cr : Nat} {qp : Option Addr} {cp : Nat} {qt : Option Addr} {ct : Nat} {mem so : List Chunk} {g : Option Addr} {c : Nat} (hR : RPIn mem (.agg #[.int .i64 x.tb, .int .i64 x.cl, .int .i64 x.lo, .int .i64 x.hi, .int .i64 x.ct, .int .i64 x.fi, .slice qr x.rows.length cr, .slice qp x.paths.length cp, .slice qt x.roots.length ct]) x) (hso : RowS 9 79 (.slice g 1 c) 1 [.int .i64 x.tb, .int .i64 x.cl, .int .i64 x.lo, .int .i64 x.hi, .int .i64 x.ct, .int .i64 x.fi, .slice qr x.rows.length cr, .slice qp x.paths.length cp, .slice qt x.roots.length ct] so) (h7 : q.kd ≠ 7) (hl : rs.length ≤ 100) : Does Tryz.prog 9 #[.agg #[.int .i64 q.kd, .int .i64 q.tb, .int .i64 q.cl, .int .i64 q.lo, .int .i64 q.hi, .int .i64 q.bq, .int .i64 q.ot], .slice g 1 c] [so, mem] (fun w H' => ∃ rv sr, w = .tuple #[.agg #[rv, .int .i64 (evalT rs q).val, .bool (evalT rs q).fnd], .bool true] ∧ RowS 5 67 rv (evalT rs q).rows.length (rowCells (evalT rs q).rows) sr ∧ H' = [sr, so, mem]) := by
 have hml : maxLen = 9223372036854775807 := rfl
 have hr1 := (@rangeL_sub rs q.tb q.cl.toNat q.lo q.hi)
 refine spec_enterM func9 rfl ntmps9 rfl ?_
 intro u R
 refine Zb [0, 1] ?_
 refine Zq <| Zg <| Ze (w_box Y (cs := #[.int .i64 q.kd, .int .i64 q.tb, .int .i64 q.cl, .int .i64 q.lo, .int .i64 q.hi, .int .i64 q.bq, .int .i64 q.ot]) (by simp [Value.cells])) ?_
 rintro _ _ ⟨bq, rfl, rfl⟩
 refine Ze (w_alloc zeroValue40 (cs := #[_, _, _]) rfl) ?_
 rintro _ _ ⟨bo, rfl, rfl⟩
 refine Ze (w_alloc zeroValue4 (cs := #[_]) rfl) ?_
 rintro _ _ ⟨bk, rfl, rfl⟩
 refine Z0 <| Zx <| Zq <| Zg <| Zv (p_makeFunc (vs := []) (us := [_, _]) Y Y) ?_
 refine ops_defer rfl Y ?_
 refine Z0 <| Zx <| Zq <| Zg <| Xe (Zs sizeOf4 Y Y rfl (hi := by first | omega | decide | (simp; done))) ?_
 refine Z0 <| Zx <| Zq <| Zg <| ops_deferA rfl Y ?_
 refine Z0 <| Zx <| Zq <| Zg <| Zo Wh (p_load_agg (cs := #[_, _, _, _, _, _, _]) isAgg30 sizeOf30 Y Wb (by rfl)) ?_
 refine Xr [_] Y call24 Y rfl (q_valid q) ?_
 rw [decide_eq_true hq]
 refine Xr [_] Y call32 Y rfl (check_ok) ?_
 refine Z0 <| Zx <| Zq <| Zg <| Zm Y <| Zv (p_build (vs := [(0, _)]) (cs := #[_]) Y (run_build_struct (pl := #[(0, 1)]) zeroValue91 underlying91 (fun _ => by kernel_rfl) rfl)) ?_
 refine Ze (w_box Y (cs := #[_]) rfl) ?_
 rintro _ _ ⟨br, rfl, rfl⟩
 refine Za Y <| Z0 <| Zn [2, 4, 5, 6] ?_
 refine Zx <| Zq <| Zg <| Zm Y <| Zo Wh (p_load_agg (cs := #[_, _, _, _, _, _, _]) isAgg30 sizeOf30 Y Wb (by rfl)) ?_
 refine Xr [_] Y call27 Y rfl (of_q q hq) ?_
 refine Zc [_, _] Y call33 Y rfl (read_q hn hok q hq hcomp hrows hhd hR hso br) ?_
 rintro _ _ ⟨_, ⟨sr, g', hsr, rfl⟩, rfl⟩
 obtain ⟨gr, cr9, rfl⟩ := hsr.form
 have hUr := rowsU_row hsr (by omega)
 refine Za Y <| Z0 <| Zx <| Zq <| Zg <| Zm Y <| Zv (p_len_slice underlying38 Y) <| Zv (p_leq_nat (n := 100) Y Y) ?_
 rw [decide_eq_true (show (rangeL rs q.tb q.cl.toNat q.lo q.hi).length ≤ 100 by omega)]
 refine Xr [_] Y call32 Y rfl (check_ok) ?_
 refine Z0 <| Zx <| Zq <| Zg <| Za Y <| Z0 <| Zx <| Zq <| Zq <| Zg <| Zh 0 underlying30 rfl rfl sizeOf3 Y <| Zl isAgg3 Y ?_
 refine Zv (p_eql Y Y) <| Z0 <| Zn [2, 4, 5, 6, 7, 8, 28] ?_
 refine Zx ?_
 refine at_if Y (fun hb3 => ?_) (fun hb3 => ?_)
 ·
  exact absurd hb3 h7
 refine at_skip <| Zx <| Zq <| Zg <| Zm Y <| Zp Y rfl <| Zh 0 underlying91 rfl rfl sizeOf35 Y <| Zl isAgg35 Y ?_
 refine Zv (p_len_slice underlying35 Y) <| Zv (p_eql_nat (n := 0) Y Y) ?_
 rw [decide_eq_true (show (0 : Nat) = 0 from rfl)]
 refine Xr [_] Y call32 Y rfl (check_ok) ?_
 refine Z0 <| Zx <| Zq <| Zg <| Zo Wh (p_load_agg (cs := #[_, _, _, _, _, _, _]) isAgg30 sizeOf30 Y Wb (by rfl)) ?_
 refine Zm Y <| Zm Y <| Zc [_, _, _] Y call34 Y rfl (from_spec (vo := .slice none 0 0) (others := []) hUr ⟨none, 0, rfl, ⟨Nat.zero_le _, Nat.le_refl _⟩, fun i x hx => by cases hx⟩ q (by omega) (fun _ r hr => valL_in (hok r (hr1.2 r hr)) q.bq)) ?_
 rintro _ _ ⟨_, ⟨rv3, s3, rfl, h3, rfl⟩, rfl⟩
 rw [from_eval hq h7] at h3 ⊢
 obtain ⟨p3, c3, rfl⟩ := h3.form
 refine Xe (w_store_agg sizeOf40 Y Y (by (simp [Value.oneCell']; done)) Wu (by exact (rfl : _ = (#[.slice p3 (evalT rs q).rows.length c3, .int .i64 (evalT rs q).val, .bool (evalT rs q).fnd] : Array Value))) (by first | rfl | (simp; done)) Wb (by exact free_zero _)) ?_
 refine Xe (Zs sizeOf4 Y Y rfl (hi := by first | omega | decide | (simp; done))) ?_
 refine Z0 <| Zn [4, 5] ?_
 refine Zx <| at_ret <| nx_endD2 rfl rfl call31 (caughtD _) rfl call30 (startD bk _) Wp ?_
 rintro _ rfl
 refine ⟨_, [s3, so, mem], fun a w hf hs => results_cell2 results9 ((puts_look a _ hf 4).trans rfl) (loadVar_agg isAgg40 sizeOf40 (by first | decide | exact Nat.le_refl _ | (simp; done)) (cs := #[.slice p3 (evalT rs q).rows.length c3, .int .i64 (evalT rs q).val, .bool (evalT rs q).fnd]) (ext_whole rfl) w (has_sat9 (b := bo) Wh hs)) ((puts_look a _ hf 5).trans rfl) (loadVar_one isAgg4 (v := .bool true) (i := 0) rfl w (has_sat9 (b := bk) Wh hs)), ⟨_, s3, rfl, h3, rfl⟩, Sub.amid (by repeat (first | exact Sub.refl _ | exact Sub.nil _ | (apply Sub.cons; (focus (repeat (first | exact One.here _ _ | apply One.there)))) | refine Sub.drop _ ?_))⟩

end Go.Proofs.YtkgmgmkbgnkdnaaGreatDoor


namespace Go.Proofs.YtkgmgmkbgnkdnaaGreatDoor
open Go.Proofs.Tryz
open Go Go.RowKit Gw
set_option linter.unusedVariables false
set_option linter.unusedSimpArgs false
set_option maxRecDepth 100000
attribute [local irreducible] Gw.At Gw.Nx Gw.Ops
theorem cut_any9 {g o c sz a : Nat} (h : a < c) : cutAt (some ⟨g, o, none⟩) a c sz = some ⟨g, o + a * sz, none⟩ := by
  unfold cutAt
  rw [if_neg (by omega), Option.map_some, add_addr]
theorem recs_sub {M : List Chunk} {p : Option Addr} {cap a b : Nat} {l : List RecM} (h : RecsIn M (.slice p l.length cap) l) (hab : a ≤ b) (hb : b ≤ l.length) : RecsIn M (.slice (cutAt p a cap 2) (b - a) (cap - a)) ((l.drop a).take (b - a)) := by
  obtain ⟨p', cap', e, ⟨hl, hlc⟩, hg⟩ := h
  injection e with e1 e2 e3
  subst e1 e3
  have e4 : ((l.drop a).take (b - a)).length = b - a := by rw [List.length_take, List.length_drop]; omega
  refine ⟨_, _, by rw [e4], ⟨by omega, by omega⟩, fun i x hx => ?_⟩
  rw [List.getElem?_take] at hx
  split at hx
  · rw [List.getElem?_drop] at hx
    obtain ⟨h1, g, off, cur, T, zz, rfl, hm, hsz, hex⟩ := hg (a + i) x hx
    rw [cut_any9 (by omega)]
    exact ⟨h1, g, _, cur, T, zz, rfl, hm, by omega, by rw [show off + a * 2 + i * 2 = off + (a + i) * 2 by omega]; exact hex⟩
  · cases hx
theorem putL_few (rs : List RowM) (c : Chg) : (putL rs c).length ≤ rs.length + 1 := by
  unfold putL newC
  simp only [List.length_append, List.length_take, List.length_drop]
  split <;> simp only [List.length_singleton, List.length_nil] <;> omega
theorem putAll_few : ∀ (cs : List Chg) (rs : List RowM), (putAllR rs cs).length ≤ rs.length + cs.length
  | [], _ => Nat.le_refl _
  | c :: cs, rs => by
    have h1 := putAll_few cs (putL rs c)
    have h2 := putL_few rs c
    rw [List.length_cons]
    exact Nat.le_trans h1 (by omega)
theorem LogOk.few {l : List RecM} (h : LogOk l) : ∀ i, i ≤ l.length → (rowsOf (l.take i)).length ≤ 3 * i
  | 0, _ => by rw [List.take_zero]; exact Nat.le_refl _
  | i + 1, hi => by
    obtain ⟨r, hr⟩ : ∃ r, l[i]? = some r := ⟨_, List.getElem?_eq_getElem (by omega)⟩
    rw [take_snoc hr, rowsOf_snoc]
    have h1 := putAll_few r.cs (rowsOf (l.take i))
    have h2 := LogOk.few h i (by omega)
    have h3 := (h i r hr).2
    omega
theorem eval_val {rs : List RowM} (hn : rs.length ≤ 2000) (hok : ∀ r ∈ rs, r.ok) (q : QM) : -1000000000000000000 ≤ (evalT rs q).val ∧ (evalT rs q).val ≤ 1000000000000000000 := by
  have h0 := @rangeL_sub rs q.tb q.cl.toNat q.lo q.hi
  have hm := meas_in (q := q) (rows := scanL rs q) (fun r hr => valL_in (hok r (h0.2 r hr)) q.bq)
  have hl : (measT q (scanL rs q)).length ≤ 1000000000 := by rw [meas_len]; exact Nat.le_trans h0.1 (by omega)
  have hx : ∀ (lt : Int → Int → Bool) (hlt : ∀ a b c, lt b a = false → lt c b = false → lt c a = false) (hirr : ∀ a, lt a a = false) (hasy : ∀ a b, lt a b = true → lt b a = false), -1000000000000000000 ≤ (extT lt (measT q (scanL rs q))).val ∧ (extT lt (measT q (scanL rs q))).val ≤ 1000000000000000000 := fun lt a1 a2 a3 => by
    cases hms : measT q (scanL rs q) with
    | nil => exact ⟨by show (_ : Int) ≤ 0; decide, by show (0 : Int) ≤ _; decide⟩
    | cons z ms =>
      obtain ⟨x, hx1, _, hx2⟩ := extT_cons lt a1 a2 a3 z ms
      rw [hx2]
      rw [hms] at hm
      have := hm x hx1
      exact ⟨by show _ ≤ x; omega, by show x ≤ _; omega⟩
  have hsum := sumT_in hm hl (measT q (scanL rs q)).length
  rw [List.take_length] at hsum
  have hc : (scanL rs q).length ≤ rs.length := h0.1
  unfold evalT fromQ
  split
  · exact ⟨by simp only; omega, by simp only; omega⟩
  · split
    · exact hsum
    · split
      · exact hx _ (fun a b c h1 h2 => by simp only [decide_eq_false_iff_not] at *; omega) (fun a => by simp) (fun a b h => by simp only [decide_eq_true_eq, decide_eq_false_iff_not] at *; omega)
      · split
        · exact hx _ (fun a b c h1 h2 => by simp only [decide_eq_false_iff_not] at *; omega) (fun a => by simp) (fun a b h => by simp only [decide_eq_true_eq, decide_eq_false_iff_not] at *; omega)
        · split <;> exact ⟨by show (_ : Int) ≤ 0; decide, by show (0 : Int) ≤ _; decide⟩
theorem runC_quiet {q : QM} {r : ResM} : ∀ (cs : List Chg), cs.any (touchV q) = false → runC q r cs = some r
  | [], _ => rfl
  | c :: cs, h => by
    rw [List.any_cons, Bool.or_eq_false_iff] at h
    have e : stepT q c r = (r, true) := by unfold stepT; rw [h.1]; rfl
    unfold runC
    rw [e, if_pos rfl]
    exact runC_quiet cs h.2
theorem apply_quiet {q : QM} {r : ResM} {cs : List Chg} (h : cs.any (touchV q) = false) : applyT q r cs = (r, false, true) := by
  unfold applyT
  rw [runC_quiet cs h, h]
theorem runR_quiet {q : QM} {base : Int} : ∀ (l : List RecM) (i : Nat) (st : ResM × Int), (∀ x ∈ l, x.cs.any (touchV q) = false) → (∀ (k : Nat) (x : RecM), l[k]? = some x → base ≤ 9223372036854775806 - ((i + k : Nat) : Int) ∧ x.p = base + 1 + ((i + k : Nat) : Int)) → runR q base i st l = some st
  | [], _, _, _, _ => rfl
  | x :: l, i, st, h, hp => by
    have h0 := hp 0 x rfl
    rw [Nat.add_zero] at h0
    have e := apply_quiet (r := st.1) (h x (by simp))
    unfold runR
    rw [if_pos ⟨by rw [e], h0.1, h0.2⟩, e]
    exact runR_quiet l (i + 1) st (fun y hy => h y (by simp [hy])) fun k y hy => by
      have := hp (k + 1) y hy
      rwa [show i + (k + 1) = i + 1 + k by omega] at this
theorem runR_loud {q : QM} {base : Int} : ∀ (l : List RecM) (i : Nat) (st st' : ResM × Int), runR q base i st l = some st' → (st'.2 = st.2 ∨ base < st'.2) ∧ ((∃ x ∈ l, x.cs.any (touchV q) = true) → base < st'.2)
  | [], i, st, st', h => by
    unfold runR at h
    injection h with h
    subst h
    exact ⟨.inl rfl, by simp⟩
  | x :: l, i, st, st', h => by
    unfold runR at h
    split at h
    · rename_i h9
      obtain ⟨h1, h2⟩ := runR_loud l (i + 1) _ st' h
      have h3 := (applyT_some h9.1).2
      have h4 : x.cs.any (touchV q) = true → base < st'.2 := fun ht => by
        rw [h3, ht] at h1
        rcases h1 with h1 | h1
        · simp only [if_pos] at h1; omega
        · exact h1
      refine ⟨?_, ?_⟩
      · cases ht : x.cs.any (touchV q) with
        | true => exact .inr (h4 ht)
        | false =>
          rw [h3, ht] at h1
          rcases h1 with h1 | h1
          · exact .inl (by simpa using h1)
          · exact .inr h1
      · rintro ⟨y, hy, ht⟩
        rcases List.mem_cons.1 hy with rfl | hy
        · exact h4 ht
        · exact h2 ⟨y, hy, ht⟩
    · cases h
theorem replay_flag {q : QM} {r : ResM} {base : Int} {l : List RecM} (hp : ∀ (k : Nat) (x : RecM), l[k]? = some x → base ≤ 9223372036854775806 - ((0 + k : Nat) : Int) ∧ x.p = base + 1 + ((0 + k : Nat) : Int)) (hok : ∀ x ∈ l, ∀ c ∈ x.cs, c.ok) :
    ((replayT q r base l).2.2 && decide ((replayT q r base l).2.1 = base)) = !(l.any fun x => x.cs.any (touchQ q)) := by
  have hv : ∀ x ∈ l, x.cs.any (touchV q) = x.cs.any (touchQ q) := fun x hx => by
    rw [Bool.eq_iff_iff, List.any_eq_true, List.any_eq_true]
    constructor
    · rintro ⟨c, hc, h⟩
      unfold touchV at h
      rw [Bool.and_eq_true] at h
      exact ⟨c, hc, h.2⟩
    · rintro ⟨c, hc, h⟩
      exact ⟨c, hc, by unfold touchV; rw [decide_eq_true (hok x hx c hc), h]; rfl⟩
  cases ha : l.any fun x => x.cs.any (touchQ q) with
  | false =>
    have h1 : ∀ x ∈ l, x.cs.any (touchV q) = false := fun x hx => by
      rw [hv x hx]
      have := List.any_eq_false.1 ha x hx
      simpa using this
    have e : replayT q r base l = (r, base, true) := by
      unfold replayT
      rw [runR_quiet l 0 (r, base) h1 hp]
    rw [e]; simp
  | true =>
    obtain ⟨x, hx, ht⟩ := List.any_eq_true.1 ha
    have h1 : ∃ x ∈ l, x.cs.any (touchV q) = true := ⟨x, hx, by rw [hv x hx]; exact ht⟩
    unfold replayT
    cases h : runR q base 0 (r, base) l with
    | none => rfl
    | some st' =>
      have h2 := (runR_loud l 0 (r, base) st' h).2 h1
      simp only [Bool.true_and, Bool.not_true, decide_eq_false_iff_not]
      omega
def BarIs (l : List RecM) (q : QM) (a i : Nat) (bar : Int) : Prop := Barred l q a i bar ∧ (bar = 0 ∨ ∃ (j : Nat) (r : RecM), a ≤ j ∧ j < i ∧ l[j]? = some r ∧ r.cs.any (touchQ q) = true ∧ bar = (j : Int) + 1)
theorem barIs_zero (l : List RecM) (q : QM) (a : Nat) : BarIs l q a a 0 := ⟨barred_zero l q a 0, .inl rfl⟩
theorem barIs_keep {l : List RecM} {q : QM} {a i : Nat} {bar : Int} (h : BarIs l q a i bar) {r : RecM} (hr : l[i]? = some r) (hn : r.cs.any (touchQ q) = false) : BarIs l q a (i + 1) bar :=
  ⟨barred_keep h.1 hr hn, h.2.imp id fun ⟨j, r', h1, h2, h3⟩ => ⟨j, r', h1, by omega, h3⟩⟩
theorem barIs_touch {l : List RecM} {q : QM} {a i : Nat} {bar xp : Int} (h : BarIs l q a i bar) {r : RecM} (hr : l[i]? = some r) (ht : r.cs.any (touchQ q) = true) (hai : a ≤ i) (hp : xp = (i : Int) + 1) : BarIs l q a (i + 1) (max bar xp) := by
  refine ⟨barred_touch h.1 hp, ?_⟩
  rcases h.2 with h2 | ⟨j, r', h1, h2, h3, h4, h5⟩
  · exact .inr ⟨i, r, hai, by omega, hr, ht, by omega⟩
  · exact .inr ⟨i, r, hai, by omega, hr, ht, by omega⟩
theorem barIs_flag {l : List RecM} {q : QM} {a b c : Nat} {bar : Int} (h : BarIs l q a c bar) (hab : a ≤ b) (hbc : b ≤ c) (hc : c ≤ l.length) : decide (bar ≤ (b : Int)) = !(((l.drop b).take (c - b)).any fun x => x.cs.any (touchQ q)) := by
  cases ha : ((l.drop b).take (c - b)).any fun x => x.cs.any (touchQ q) with
  | true =>
    obtain ⟨x, hx, ht⟩ := List.any_eq_true.1 ha
    obtain ⟨k, hk⟩ := List.getElem?_of_mem hx
    rw [List.getElem?_take] at hk
    split at hk
    · rw [List.getElem?_drop] at hk
      have := h.1 (b + k) x (by omega) (by omega) hk ht
      exact decide_eq_false (by push_cast at this; omega)
    · cases hk
  | false =>
    refine decide_eq_true ?_
    rcases h.2 with h2 | ⟨j, r, h1, h2, h3, h4, h5⟩
    · omega
    · rcases Nat.lt_or_ge j b with h6 | h6
      · omega
      · exfalso
        have hm : r ∈ (l.drop b).take (c - b) := List.mem_of_getElem? (i := j - b) (by rw [List.getElem?_take, if_pos (by omega), List.getElem?_drop, show b + (j - b) = j by omega]; exact h3)
        have := List.any_eq_false.1 ha r hm
        rw [h4] at this
        exact absurd rfl this
theorem part_pos {l : List RecM} (h : LogOk l) (hl : l.length ≤ 20) (b c : Nat) : (∀ (k : Nat) (x : RecM), ((l.drop b).take (c - b))[k]? = some x → (b : Int) ≤ 9223372036854775806 - ((0 + k : Nat) : Int) ∧ x.p = (b : Int) + 1 + ((0 + k : Nat) : Int)) ∧ (∀ x ∈ (l.drop b).take (c - b), x.cs.length ≤ 1000 ∧ ∀ y ∈ x.cs, y.ok) := by
  have hat : ∀ (k : Nat) (x : RecM), ((l.drop b).take (c - b))[k]? = some x → l[b + k]? = some x := fun k x hx => by
    rw [List.getElem?_take] at hx
    split at hx
    · rwa [List.getElem?_drop] at hx
    · cases hx
  refine ⟨fun k x hx => ?_, fun x hx => ?_⟩
  · have h1 := hat k x hx
    have h2 := (h _ _ h1).1.pos
    have h3 := (List.getElem?_eq_some_iff.1 h1).1
    omega
  · obtain ⟨k, hk⟩ := List.getElem?_of_mem hx
    have h1 := hat k x hk
    refine ⟨by have := (h _ _ h1).2; omega, fun y hy => ?_⟩
    obtain ⟨j, hj⟩ := List.getElem?_of_mem hy
    exact (h _ _ h1).1.ok.all j y hj
theorem kind_at (k : Nat) (h : k < 5) : (#[.int .i64 2, .int .i64 3, .int .i64 4, .int .i64 5, .int .i64 6] : Array Value)[k]? = some (.int .i64 ((2 + k : Nat) : Int)) := by
  obtain h | h | h | h | h : k = 0 ∨ k = 1 ∨ k = 2 ∨ k = 3 ∨ k = 4 := by omega
  all_goals subst h; rfl

end Go.Proofs.YtkgmgmkbgnkdnaaGreatDoor
