/- eval: From, Of, Same. -/
import Derived.Test.YtkgmgmkbgnkdnaaGreatEz
import Derived.Test.YtkgmgmkbgnkdnaaGreatQe6
namespace Go.Proofs.YtkgmgmkbgnkdnaaGreat
open Go.Proofs.Tryz
open Go Go.RowKit Gw
set_option linter.unusedVariables false
set_option linter.unusedSimpArgs false
set_option maxRecDepth 100000
attribute [local irreducible] Gw.At Gw.Nx Gw.Ops
def fromV (q : QM) (rows others : List RowM) : ResM := if ValidQ q then fromQ q rows others else ResM.none
theorem fv_no {q : QM} {rows others : List RowM} (h : ¬ ValidQ q) : fromV q rows others = ⟨[], 0, false⟩ := if_neg h
theorem fv_ok {q : QM} {rows others : List RowM} (h : ValidQ q) : fromV q rows others = fromQ q rows others := if_pos h
theorem fv_3 {q : QM} {rows others : List RowM} (h : ValidQ q) (k : q.kd = 3) : fromV q rows others = ⟨[], rows.length, false⟩ := by rw [fv_ok h]; unfold fromQ; rw [if_pos k]
theorem fv_4 {q : QM} {rows others : List RowM} (h : ValidQ q) (k : q.kd = 4) : fromV q rows others = ⟨[], sumT (measT q rows), false⟩ := by rw [fv_ok h]; unfold fromQ; rw [if_neg (by omega), if_pos k]
theorem fv_5 {q : QM} {rows others : List RowM} (h : ValidQ q) (k : q.kd = 5) : fromV q rows others = extT (fun a b => decide (a < b)) (measT q rows) := by rw [fv_ok h]; unfold fromQ; rw [if_neg (by omega), if_neg (by omega), if_pos k]
theorem fv_6 {q : QM} {rows others : List RowM} (h : ValidQ q) (k : q.kd = 6) : fromV q rows others = extT (fun a b => decide (b < a)) (measT q rows) := by rw [fv_ok h]; unfold fromQ; rw [if_neg (by omega), if_neg (by omega), if_neg (by omega), if_pos k]
theorem fv_7 {q : QM} {rows others : List RowM} (h : ValidQ q) (k : q.kd = 7) : fromV q rows others = ⟨joinQ q rows others, 0, false⟩ := by rw [fv_ok h]; unfold fromQ; rw [if_neg (by omega), if_neg (by omega), if_neg (by omega), if_neg (by omega), if_pos k]
theorem fv_1 {q : QM} {rows others : List RowM} (h : ValidQ q) (k3 : ¬ q.kd = 3) (k4 : ¬ q.kd = 4) (k5 : ¬ q.kd = 5) (k6 : ¬ q.kd = 6) (k7 : ¬ q.kd = 7) : fromV q rows others = ⟨rows, 0, false⟩ := by rw [fv_ok h]; unfold fromQ; rw [if_neg k3, if_neg k4, if_neg k5, if_neg k6, if_neg k7]
theorem sumT_snoc {ms : List Int} {i : Nat} {x : Int} (h : ms[i]? = some x) : sumT (ms.take (i + 1)) = sumT (ms.take i) + x := by unfold sumT; rw [take_snoc h, List.foldl_append]; rfl
theorem sumT_bound (B : Int) : ∀ (ms : List Int), (∀ m ∈ ms, -B ≤ m ∧ m ≤ B) → -(ms.length * B) ≤ sumI ms ∧ sumI ms ≤ ms.length * B
  | [], _ => by simp [sumI]
  | m :: ms, h => by
    have h1 := h m (by simp)
    have h2 := sumT_bound B ms (fun y hy => h y (List.mem_cons_of_mem _ hy))
    have h3 : ((m :: ms).length : Int) * B = ms.length * B + B := by rw [List.length_cons]; push_cast; rw [Int.add_mul, Int.one_mul]
    simp only [sumI]
    omega
theorem sumT_in {ms : List Int} (h : ∀ m ∈ ms, -1000000000 ≤ m ∧ m ≤ 1000000000) (hl : ms.length ≤ 1000000000) (i : Nat) : -1000000000000000000 ≤ sumT (ms.take i) ∧ sumT (ms.take i) ≤ 1000000000000000000 := by
  have h1 := sumT_bound 1000000000 (ms.take i) (fun m hm => h m (List.mem_of_mem_take hm))
  have h2 : (ms.take i).length ≤ 1000000000 := by rw [List.length_take]; omega
  unfold sumT
  rw [foldl_sum]
  omega
theorem extT_snoc {lt : Int → Int → Bool} {ms : List Int} {i : Nat} {x : Int} (h : ms[i]? = some x) : extT lt (ms.take (i + 1)) = ⟨(extT lt (ms.take i)).rows, if !(extT lt (ms.take i)).fnd || lt x (extT lt (ms.take i)).val then x else (extT lt (ms.take i)).val, true⟩ := by unfold extT; rw [take_snoc h, List.foldl_append]; rfl
theorem extT_rows (lt : Int → Int → Bool) (ms : List Int) : ∀ r : ResM, (ms.foldl (fun r n => ⟨r.rows, if !r.fnd || lt n r.val then n else r.val, true⟩ : ResM → Int → ResM) r).rows = r.rows := by
  induction ms with
  | nil => intro r; rfl
  | cons m ms ih => intro r; rw [List.foldl_cons, ih]
theorem count_fold {M : List Chunk} {v : Value} {rows : List RowM} (hv : RowsU M v rows) (hb : rows.length ≤ 1000000000) : DoesR Tryz.prog 59 #[v, .agg #[.slice none 0 0, .int .i64 0, .bool false], .func (.func 60) #[] #[]] [M] (.agg #[.slice none 0 0, .int .i64 (rows.length : Int), .bool false]) :=
  foldR_spec hv (fun i => ((i : Int), false)) rfl 60 [] call60 (fun i r hr => by
    have hlt := (List.getElem?_eq_some_iff.1 hr).1
    have := from1_spec (i : Int) false r (by omega)
    exact doesR_frame this)
theorem sum_fold {s : List Chunk} {p : Option Addr} {cap : Nat} {ms : List Int} (hc : CellsM s p (ms.map ivQ)) (hl : ms.length ≤ 1000000000) (hlc : ms.length ≤ cap) (hm : ∀ m ∈ ms, -1000000000 ≤ m ∧ m ≤ 1000000000) : DoesR Tryz.prog 61 #[.slice p ms.length cap, .agg #[.slice none 0 0, .int .i64 0, .bool false], .func (.func 63) #[] #[]] [s] (.agg #[.slice none 0 0, .int .i64 (sumT ms), .bool false]) := by
  have hml : maxLen = 9223372036854775807 := rfl
  have h := foldI_spec hc (by omega) hlc (fun i => (sumT (ms.take i), false)) rfl 63 [] call63 (fun i x hx => by
    have h1 := sumT_in hm hl i
    have h2 := hm x (List.mem_of_getElem? hx)
    have h3 := from2_spec (sumT (ms.take i)) x false (by omega)
    show DoesR _ _ _ _ (.agg #[.slice none 0 0, .int .i64 (sumT (ms.take (i + 1))), .bool false])
    rw [sumT_snoc hx]
    exact doesR_frame h3)
  rwa [List.take_length] at h
theorem ext_fold {s : List Chunk} {p : Option Addr} {cap : Nat} {ms : List Int} (hc : CellsM s p (ms.map ivQ)) (hl : ms.length ≤ 1000000000) (hlc : ms.length ≤ cap) (b fid : Nat) (lt : Int → Int → Bool) (hcf : ∀ (args : Array Value) (w : World), (callFunc fid args).run Tryz.prog w = .ok (.enter fid args) w) (hlt : ∀ x y : Int, DoesR Tryz.prog fid #[.int .i64 x, .int .i64 y] [] (.bool (lt x y))) : DoesR Tryz.prog 61 #[.slice p ms.length cap, .agg #[.slice none 0 0, .int .i64 0, .bool false], .func (.func 85) #[] #[.pointer (some ⟨b, 0, none⟩)]] [s, [(b, .cells #[.func (.func fid) #[] #[]] 100 (0, 0))]] (.agg #[.slice none 0 0, .int .i64 (extT lt ms).val, .bool (extT lt ms).fnd]) := by
  have hml : maxLen = 9223372036854775807 := rfl
  refine doesR_two ?_
  have h := foldI_spec (M := s ++ [(b, .cells #[.func (.func fid) #[] #[]] 100 (0, 0))]) (ms := ms) (p := p) (fun j u hu => by
    obtain ⟨g, o, c, T, z, h1, h2, h3⟩ := hc j u hu
    exact ⟨g, o, c, T, z, h1, List.mem_append_left _ h2, h3⟩) (by omega) hlc (fun i => ((extT lt (ms.take i)).val, (extT lt (ms.take i)).fnd)) rfl 85 [.pointer (some ⟨b, 0, none⟩)] call85 (fun i x hx => by
    show DoesR _ _ _ _ (.agg #[.slice none 0 0, .int .i64 (extT lt (ms.take (i + 1))).val, .bool (extT lt (ms.take (i + 1))).fnd])
    rw [extT_snoc hx]
    exact doesR_right (ext1_spec (extT lt (ms.take i)).val x (extT lt (ms.take i)).fnd b fid lt hcf hlt))
  rwa [List.take_length] at h
theorem meas_in {q : QM} {rows : List RowM} (h : ∀ r ∈ rows, -1000000000 ≤ valL r q.bq ∧ valL r q.bq ≤ 1000000000) : ∀ m ∈ measT q rows, -1000000000 ≤ m ∧ m ≤ 1000000000 := by
  intro m hm
  obtain ⟨r, hr, rfl⟩ := List.mem_map.1 hm
  exact h r hr

set_option maxHeartbeats 1000000 in
theorem from_spec {M : List Chunk} {v vo : Value} {rows others : List RowM} (hv : RowsU M v rows) (ho : RowsU M vo others) (q : QM) (hb : rows.length ≤ 1000000000) (hm : ValidQ q → ∀ r ∈ rows, -1000000000 ≤ valL r q.bq ∧ valL r q.bq ≤ 1000000000) : Does Tryz.prog 30 #[.agg #[.int .i64 q.kd, .int .i64 q.tb, .int .i64 q.cl, .int .i64 q.lo, .int .i64 q.hi, .int .i64 q.bq, .int .i64 q.ot], v, vo] [M] (fun w H' => ∃ rv s, w = .agg #[rv, .int .i64 (fromV q rows others).val, .bool (fromV q rows others).fnd] ∧ RowS 5 62 rv (fromV q rows others).rows.length (rowCells (fromV q rows others).rows) s ∧ H' = [s, M]) := by
 have hml : maxLen = 9223372036854775807 := rfl
 refine spec_enter func30 rfl ntmps30 rfl ?_
 intro u R
 refine Zb [0, 1, 2] ?_
 refine Zq <| Zg <| Ze (w_box Y (cs := #[_, _, _, _, _, _, _]) rfl) ?_
 rintro _ _ ⟨bq, rfl, rfl⟩
 refine Ze (w_alloc zeroValue49 (cs := #[_, _, _]) rfl) ?_
 rintro _ _ ⟨br, rfl, rfl⟩
 refine Z0 <| Zx <| Zq <| Zq <| Zg <| Zo (by repeat (first | exact Has.here _ | apply Has.there)) (p_load_agg (cs := #[_, _, _, _, _, _, _]) isAgg29 sizeOf29 Y (by first | omega | decide | (simp; done)) (by rfl)) ?_
 refine Zr [_] Y call24 Y rfl (q_valid q) ?_
 rintro _ _ ⟨rfl, rfl⟩
 first | refine op_v (p_not_dec Y) ?_ | refine op_v (p_not Y) ?_
 refine Z0 <| Zx ?_
 refine at_if_bool Y (fun hq => ?_) (fun hq => ?_)
 ·
  have hq9 : ¬ ValidQ q := by simpa using hq
  refine Zq <| at_nil ?_
  refine Zg <| Zv (p_build (vs := []) (cs := #[_, _, _]) Y (run_build_struct (pl := #[(0, 1), (1, 1), (2, 1)]) zeroValue49 underlying49 (fun _ => by kernel_rfl) rfl)) ?_
  refine Ze (w_store_agg sizeOf49 Y Y (by first | (simp [Value.oneCell']; done) | (simp [Value.oneCell', Value.cells]; done)) (by repeat (first | exact Upd.here _ | apply Upd.there)) (by rfl) (by first | rfl | (simp; done)) (by first | omega | decide | (simp; done)) (by exact free_zero _)) ?_
  rintro _ _ ⟨rfl, rfl⟩
  refine Z0 <| Zx <| at_ret <| Zt ?_
  refine nx_endc1 rfl results30 Y (by repeat (first | exact Has.here _ | apply Has.there)) (loadVar_agg isAgg49 sizeOf49 (by first | decide | exact Nat.le_refl _ | (simp; done) | (simp; omega)) (rfl)) (by exact ⟨.slice none 0 0, [], by rw [fv_no hq9]; rfl, by rw [fv_no hq9]; exact rowS_nil 5 _, rfl⟩)
 ·
  have hq9 : ValidQ q := by simpa using hq
  have hbq9 : 0 ≤ q.bq ∧ q.bq ≤ 3 := by have := hq9.2.2.2; omega
  have hm9 := meas_in (hm hq9)
  refine at_skip <| Zx <| Zq <| Zg <| Ze (w_alloc zeroValue49 (cs := #[_, _, _]) rfl) ?_
  rintro _ _ ⟨bn, rfl, rfl⟩
  refine Z0 <| Zx <| Zq <| Zq <| Zg <| Zh 0 underlying29 rfl rfl sizeOf3 Y <| Zl isAgg3 Y ?_
  refine Z0 <| Zx <| at_block <| Zq <| Zg ?_
  first | refine op_v (p_eql_nat (n := 3) Y Y) ?_ | refine op_v (p_eql Y Y) ?_
  refine Za Y <| Z0 <| Zx ?_
  first | refine at_if Y (fun k3 => ?_) (fun k3 => ?_) | refine at_if_bool Y (fun k3 => ?_) (fun k3 => ?_)
  ·
   refine Zq <| at_nil ?_
   refine Zg <| Zm Y <| Zo (by repeat (first | exact Has.here _ | apply Has.there)) (p_load_agg (cs := #[_, _, _]) isAgg49 sizeOf49 Y (by first | omega | decide | (simp; done)) (by rfl)) ?_
   refine Zr [_, _, _] Y call59 Y rfl (count_fold hv hb) ?_
   rintro _ _ ⟨rfl, rfl⟩
   refine Ze (w_store_agg sizeOf49 Y Y (by first | (simp [Value.oneCell']; done) | (simp [Value.oneCell', Value.cells]; done)) (by repeat (first | exact Upd.here _ | apply Upd.there)) (by rfl) (by first | rfl | (simp; done)) (by first | omega | decide | (simp; done)) (by exact free_zero _)) ?_
   rintro _ _ ⟨rfl, rfl⟩
   refine Z0 <| Zn [6] ?_
   refine Zx <| at_ret <| nx_block_ret <| Zt ?_
   refine nx_endc1 rfl results30 Y (by repeat (first | exact Has.here _ | apply Has.there)) (loadVar_agg isAgg49 sizeOf49 (by first | decide | exact Nat.le_refl _ | (simp; done) | (simp; omega)) (rfl)) (by exact ⟨.slice none 0 0, [], by rw [fv_3 hq9 k3]; rfl, by rw [fv_3 hq9 k3]; exact rowS_nil 5 _, rfl⟩)
  ·
   refine Zq <| Zg ?_
   first | refine op_v (p_eql_nat (n := 4) Y Y) ?_ | refine op_v (p_eql Y Y) ?_
   refine Za Y <| Z0 <| Zx ?_
   first | refine at_if Y (fun k4 => ?_) (fun k4 => ?_) | refine at_if_bool Y (fun k4 => ?_) (fun k4 => ?_)
   ·
    refine Zq <| at_nil ?_
    refine at_draw (n := 6) (0 :: 0 :: 3 :: 0 :: 15 :: 31 :: []) 52 (by kernel_rfl) (by kernel_rfl) rfl ?_
    refine lin_r (D' := 1) 0 rfl rfl rfl (by repeat (first | exact Has.here _ | apply Has.there)) (p_load_agg (cs := #[_, _, _, _, _, _, _]) isAgg29 sizeOf29 Y (by first | omega | decide | (simp; done)) (by rfl)) ?_
    refine Zi 3 1 rfl (p_move Y) <| lin_r (D' := 11) 3 rfl rfl rfl (by repeat (first | exact Has.here _ | apply Has.there)) (p_load_agg (cs := #[_, _, _]) isAgg49 sizeOf49 Y (by first | omega | decide | (simp; done)) (by rfl)) ?_
    refine Zz (l := [2]) ?_
    refine Zy 3 15 [3, 0] [true, false] [(3, (_, _))] rfl Y rfl rfl rfl rfl (Zw [_, _] Y call62 Y rfl (meas_spec hv q hbq9 (by omega))) ?hk_3 no_pan ?hl_3
    case hk_3 =>
     rintro _ _ ⟨_, ⟨sm, hrm, rfl⟩, rfl⟩
     refine ⟨Zk (keep_nil), ?_⟩
     obtain ⟨gm, cm, rfl⟩ := hrm.form
     have hcs : CellsM sm gm ((measT q rows).map ivQ) := cellsM_row hrm
     have hml2 := meas_len q rows
     have hcm2 := rowS_le hrm
     refine Zz (l := [4]) ?_
     refine Zy 15 31 [3] [false] [] rfl Y rfl rfl rfl rfl (Zu [_, _, _] Y call61 Y rfl (sum_fold hcs (by omega) (by omega) hm9)) ?hk_4 (fun _ _ h => h.elim) ?hl_4
     case hk_4 =>
      rintro _ _ ⟨rfl, rfl⟩
      refine ⟨keep_nil, ?_⟩
      refine Zz (l := [5]) ?_
      refine Zy 31 63 [] [] [] rfl Y rfl rfl rfl rfl (w_store_agg sizeOf49 Y Y (by first | (simp [Value.oneCell']; done) | (simp [Value.oneCell', Value.cells]; done)) (by repeat (first | exact Upd.here _ | apply Upd.there)) (by rfl) (by first | rfl | (simp; done)) (by first | omega | decide | (simp; done)) (by exact free_zero _)) ?hk_5 (fun _ _ h => h.elim) ?hl_5
      case hk_5 =>
       rintro _ _ ⟨rfl, rfl⟩
       refine ⟨keep_nil, ?_⟩
       refine lin_nil ?_
       refine Zn [6] ?_
       refine Zx <| at_ret <| nx_block_ret <| Zt ?_
       refine nx_endc1 rfl results30 Y (by repeat (first | exact Has.here _ | apply Has.there)) (loadVar_agg isAgg49 sizeOf49 (by first | decide | exact Nat.le_refl _ | (simp; done) | (simp; omega)) (rfl)) (by exact ⟨.slice none 0 0, [], by rw [fv_4 hq9 k4]; rfl, by rw [fv_4 hq9 k4]; exact rowS_nil 5 _, rfl⟩)
      case hl_5 =>
       exact each_nil
     case hl_4 =>
      exact each_nil
    case hl_3 =>
     exact each_nil
   ·
    refine Zq <| Zg ?_
    first | refine op_v (p_eql_nat (n := 5) Y Y) ?_ | refine op_v (p_eql Y Y) ?_
    refine Za Y <| Z0 <| Zn [1, 2, 3, 6, 7, 13, 26] ?_
    refine Zx ?_
    first | refine at_if Y (fun k5 => ?_) (fun k5 => ?_) | refine at_if_bool Y (fun k5 => ?_) (fun k5 => ?_)
    ·
     refine Zq <| at_nil ?_
     refine at_draw (n := 7) (0 :: 0 :: 3 :: 0 :: 7 :: 31 :: 63 :: []) 116 (by kernel_rfl) (by kernel_rfl) rfl ?_
     refine lin_r (D' := 1) 0 rfl rfl rfl (by repeat (first | exact Has.here _ | apply Has.there)) (p_load_agg (cs := #[_, _, _, _, _, _, _]) isAgg29 sizeOf29 Y (by first | omega | decide | (simp; done)) (by rfl)) ?_
     refine Zi 3 1 rfl (p_move Y) <| lin_r (D' := 11) 3 rfl rfl rfl (by repeat (first | exact Has.here _ | apply Has.there)) (p_load_agg (cs := #[_, _, _]) isAgg49 sizeOf49 Y (by first | omega | decide | (simp; done)) (by rfl)) ?_
     refine Zz (l := [2]) ?_
     refine Zy 3 15 [3, 0] [true, false] [(3, (_, _))] rfl Y rfl rfl rfl rfl (Zw [_, _] Y call62 Y rfl (meas_spec hv q hbq9 (by omega))) ?hk_7 no_pan ?hl_7
     case hk_7 =>
      rintro _ _ ⟨_, ⟨sm, hrm, rfl⟩, rfl⟩
      refine ⟨Zk (keep_nil), ?_⟩
      obtain ⟨gm, cm, rfl⟩ := hrm.form
      have hcs : CellsM sm gm ((measT q rows).map ivQ) := cellsM_row hrm
      have hml2 := meas_len q rows
      have hcm2 := rowS_le hrm
      refine Zz (l := [4]) ?_
      refine Zy 7 31 [3] [true] [(3, (_, _))] rfl Y rfl rfl rfl rfl (Zw [_] Y call64 Y rfl (eextreme_spec (.func (.func 65) #[] #[]) rfl rfl)) ?hk_8 no_pan ?hl_8
      case hk_8 =>
       rintro _ _ ⟨_, ⟨b9, rfl, rfl⟩, rfl⟩
       refine ⟨Zk (keep_nil), ?_⟩
       refine Zz (l := [5]) ?_
       refine Zy 31 63 [3] [false] [] rfl Y rfl rfl rfl rfl (Zu [_, _, _] Y call61 Y rfl (ext_fold hcs (by omega) (by omega) b9 65 _ call65 from3_spec)) ?hk_9 (fun _ _ h => h.elim) ?hl_9
       case hk_9 =>
        rintro _ _ ⟨rfl, rfl⟩
        refine ⟨keep_nil, ?_⟩
        refine Zz (l := [6]) ?_
        refine Zy 63 127 [] [] [] rfl Y rfl rfl rfl rfl (w_store_agg sizeOf49 Y Y (by first | (simp [Value.oneCell']; done) | (simp [Value.oneCell', Value.cells]; done)) (by repeat (first | exact Upd.here _ | apply Upd.there)) (by rfl) (by first | rfl | (simp; done)) (by first | omega | decide | (simp; done)) (by exact free_zero _)) ?hk_10 (fun _ _ h => h.elim) ?hl_10
        case hk_10 =>
         rintro _ _ ⟨rfl, rfl⟩
         refine ⟨keep_nil, ?_⟩
         refine lin_nil ?_
         refine Zx <| at_ret <| nx_block_ret <| Zt ?_
         refine nx_endc1 rfl results30 Y (by repeat (first | exact Has.here _ | apply Has.there)) (loadVar_agg isAgg49 sizeOf49 (by first | decide | exact Nat.le_refl _ | (simp; done) | (simp; omega)) (rfl)) (by
               have e8 := extT_rows (fun a b => decide (a < b)) (measT q rows) ResM.none
               exact ⟨.slice none 0 0, [], by rw [fv_5 hq9 k5]; rfl, by rw [fv_5 hq9 k5]; rw [show (extT (fun a b => decide (a < b)) (measT q rows)).rows = [] from e8]; exact rowS_nil 5 _, rfl⟩)
        case hl_10 =>
         exact each_nil
       case hl_9 =>
        exact each_nil
      case hl_8 =>
       exact each_nil
     case hl_7 =>
      exact each_nil
    ·
     refine Zq <| Zg ?_
     first | refine op_v (p_eql_nat (n := 6) Y Y) ?_ | refine op_v (p_eql Y Y) ?_
     refine Za Y <| Z0 <| Zx ?_
     first | refine at_if Y (fun k6 => ?_) (fun k6 => ?_) | refine at_if_bool Y (fun k6 => ?_) (fun k6 => ?_)
     ·
      refine Zq <| at_nil ?_
      refine at_draw (n := 7) (0 :: 0 :: 3 :: 0 :: 7 :: 31 :: 63 :: []) 116 (by kernel_rfl) (by kernel_rfl) rfl ?_
      refine lin_r (D' := 1) 0 rfl rfl rfl (by repeat (first | exact Has.here _ | apply Has.there)) (p_load_agg (cs := #[_, _, _, _, _, _, _]) isAgg29 sizeOf29 Y (by first | omega | decide | (simp; done)) (by rfl)) ?_
      refine Zi 3 1 rfl (p_move Y) <| lin_r (D' := 11) 3 rfl rfl rfl (by repeat (first | exact Has.here _ | apply Has.there)) (p_load_agg (cs := #[_, _, _]) isAgg49 sizeOf49 Y (by first | omega | decide | (simp; done)) (by rfl)) ?_
      refine Zz (l := [2]) ?_
      refine Zy 3 15 [3, 0] [true, false] [(3, (_, _))] rfl Y rfl rfl rfl rfl (Zw [_, _] Y call62 Y rfl (meas_spec hv q hbq9 (by omega))) ?hk_12 no_pan ?hl_12
      case hk_12 =>
       rintro _ _ ⟨_, ⟨sm, hrm, rfl⟩, rfl⟩
       refine ⟨Zk (keep_nil), ?_⟩
       obtain ⟨gm, cm, rfl⟩ := hrm.form
       have hcs : CellsM sm gm ((measT q rows).map ivQ) := cellsM_row hrm
       have hml2 := meas_len q rows
       have hcm2 := rowS_le hrm
       refine Zz (l := [4]) ?_
       refine Zy 7 31 [3] [true] [(3, (_, _))] rfl Y rfl rfl rfl rfl (Zw [_] Y call64 Y rfl (eextreme_spec (.func (.func 66) #[] #[]) rfl rfl)) ?hk_13 no_pan ?hl_13
       case hk_13 =>
        rintro _ _ ⟨_, ⟨b9, rfl, rfl⟩, rfl⟩
        refine ⟨Zk (keep_nil), ?_⟩
        refine Zz (l := [5]) ?_
        refine Zy 31 63 [3] [false] [] rfl Y rfl rfl rfl rfl (Zu [_, _, _] Y call61 Y rfl (ext_fold hcs (by omega) (by omega) b9 66 _ call66 from4_spec)) ?hk_14 (fun _ _ h => h.elim) ?hl_14
        case hk_14 =>
         rintro _ _ ⟨rfl, rfl⟩
         refine ⟨keep_nil, ?_⟩
         refine Zz (l := [6]) ?_
         refine Zy 63 127 [] [] [] rfl Y rfl rfl rfl rfl (w_store_agg sizeOf49 Y Y (by first | (simp [Value.oneCell']; done) | (simp [Value.oneCell', Value.cells]; done)) (by repeat (first | exact Upd.here _ | apply Upd.there)) (by rfl) (by first | rfl | (simp; done)) (by first | omega | decide | (simp; done)) (by exact free_zero _)) ?hk_15 (fun _ _ h => h.elim) ?hl_15
         case hk_15 =>
          rintro _ _ ⟨rfl, rfl⟩
          refine ⟨keep_nil, ?_⟩
          refine lin_nil ?_
          refine Zx <| at_ret <| nx_block_ret <| Zt ?_
          refine nx_endc1 rfl results30 Y (by repeat (first | exact Has.here _ | apply Has.there)) (loadVar_agg isAgg49 sizeOf49 (by first | decide | exact Nat.le_refl _ | (simp; done) | (simp; omega)) (rfl)) (by
                have e8 := extT_rows (fun a b => decide (b < a)) (measT q rows) ResM.none
                exact ⟨.slice none 0 0, [], by rw [fv_6 hq9 k6]; rfl, by rw [fv_6 hq9 k6]; rw [show (extT (fun a b => decide (b < a)) (measT q rows)).rows = [] from e8]; exact rowS_nil 5 _, rfl⟩)
         case hl_15 =>
          exact each_nil
        case hl_14 =>
         exact each_nil
       case hl_13 =>
        exact each_nil
      case hl_12 =>
       exact each_nil
     ·
      refine Zq <| Zg ?_
      first | refine op_v (p_eql_nat (n := 7) Y Y) ?_ | refine op_v (p_eql Y Y) ?_
      refine Za Y <| Z0 <| Zx ?_
      first | refine at_if Y (fun k7 => ?_) (fun k7 => ?_) | refine at_if_bool Y (fun k7 => ?_) (fun k7 => ?_)
      ·
       refine Zq <| Zg <| Zo (by repeat (first | exact Has.here _ | apply Has.there)) (p_load_agg (cs := #[_, _, _, _, _, _, _]) isAgg29 sizeOf29 Y (by first | omega | decide | (simp; done)) (by rfl)) ?_
       refine Zm Y <| Zm Y <| Zc [_, _, _] Y call67 Y rfl (joined_spec hv ho q hbq9 (by omega)) ?_
       rintro _ _ ⟨_, ⟨sj, hrj, rfl⟩, rfl⟩
       obtain ⟨gj, cj, rfl⟩ := hrj.form
       refine Zv (p_build (vs := [(0, _)]) (cs := #[_, _, _]) Y (run_build_struct (pl := #[(0, 1), (1, 1), (2, 1)]) zeroValue49 underlying49 (fun _ => by kernel_rfl) rfl)) ?_
       refine Ze (w_store_agg sizeOf49 Y Y (by first | (simp [Value.oneCell']; done) | (simp [Value.oneCell', Value.cells]; done)) (by repeat (first | exact Upd.here _ | apply Upd.there)) (by rfl) (by first | rfl | (simp; done)) (by first | omega | decide | (simp; done)) (by exact free_zero _)) ?_
       rintro _ _ ⟨rfl, rfl⟩
       refine Z0 <| Zx <| at_ret <| nx_block_ret <| Zt ?_
       refine nx_endc1 rfl results30 Y (by repeat (first | exact Has.here _ | apply Has.there)) (loadVar_agg isAgg49 sizeOf49 (by first | decide | exact Nat.le_refl _ | (simp; done) | (simp; omega)) (rfl)) (by exact ⟨.slice gj _ cj, sj, by rw [fv_7 hq9 k7]; rfl, by rw [fv_7 hq9 k7]; exact hrj, rfl⟩)
      ·
       refine at_skip <| nx_block_normal <| Zx <| Zq <| Zg <| Zm Y <| Zc [_] Y call68 Y rfl (rclone_spec hv (by omega)) ?_
       rintro _ _ ⟨_, ⟨sj, hrj, rfl⟩, rfl⟩
       obtain ⟨gj, cj, rfl⟩ := hrj.form
       refine Zv (p_build (vs := [(0, _)]) (cs := #[_, _, _]) Y (run_build_struct (pl := #[(0, 1), (1, 1), (2, 1)]) zeroValue49 underlying49 (fun _ => by kernel_rfl) rfl)) ?_
       refine Ze (w_store_agg sizeOf49 Y Y (by first | (simp [Value.oneCell']; done) | (simp [Value.oneCell', Value.cells]; done)) (by repeat (first | exact Upd.here _ | apply Upd.there)) (by rfl) (by first | rfl | (simp; done)) (by first | omega | decide | (simp; done)) (by exact free_zero _)) ?_
       rintro _ _ ⟨rfl, rfl⟩
       refine Z0 <| Zx <| at_ret ?_
       refine nx_endc1 rfl results30 Y (by repeat (first | exact Has.here _ | apply Has.there)) (loadVar_agg isAgg49 sizeOf49 (by first | decide | exact Nat.le_refl _ | (simp; done) | (simp; omega)) (rfl)) (by exact ⟨.slice gj _ cj, sj, by rw [fv_1 hq9 k3 k4 k5 k6 k7]; rfl, by rw [fv_1 hq9 k3 k4 k5 k6 k7]; exact hrj, rfl⟩)

end Go.Proofs.YtkgmgmkbgnkdnaaGreat
