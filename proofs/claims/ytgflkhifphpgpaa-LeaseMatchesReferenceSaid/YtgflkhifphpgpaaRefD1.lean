/- The reference table of layer 16: Ask, of a new key: at the end. -/
import Derived.Test.YtgflkhifphpgpaaRefD
namespace Go.Proofs.Ytgflkhifphpgpaa
open Go Go.RowKit Gw
open Go.ChangeMaps (setBlock)
set_option maxHeartbeats 1000000
set_option maxRecDepth 100000

theorem rput_end (B : Nat) (k : ByteArray) (now : Int) (b g cap : Nat) (R : RL) (n : Int) (w : World) (hT : RefT B w b (.slice (some ⟨g, 0, none⟩) R.length cap) R n) (hn : n < 1000000) (hl : R.length < 1000000) (hcap : R.length ≤ cap) (hno : mlook k R = none) (ht : isTimeB now = true) (hall : ∀ q ∈ R.take R.length, q.1.data.toList < k.data.toList) :
    Calls Try.prog 14 #[.pointer (some ⟨b, 0, none⟩), .string k, .int .i64 now] w (RAskPost B k now b (.slice (some ⟨g, 0, none⟩) R.length cap) R n w) := by
  have HALL := Lib.hid hall
  clear hall
  have HT := Lib.hid hT
  have hcb : w.cell? ⟨b, 0, none⟩ = some (.slice (some ⟨g, 0, none⟩) R.length cap) := cell_of_block hT.hd rfl
  have hcn : w.cell? ⟨b, 1, none⟩ = some (.int .i64 n) := cell_of_block hT.hd rfl
  have hfb : w.frozen? ⟨b, 0, none⟩ = false := free_of_block hT.hd
  have hfn : w.frozen? ⟨b, 1, none⟩ = false := free_of_block hT.hd
  have hn0 := hT.n0
  have HN := Lib.hid hn
  have HL := Lib.hid hno
  have HT1 := Lib.hid ht
  obtain ⟨ht0, ht1⟩ : 0 ≤ now ∧ now ≤ 4611686018427387903 := by
    unfold isTimeB maxInt at ht; simpa using ht
  have HNOW : Hid (0 ≤ now ∧ now ≤ maxInt) := ⟨ht0, ht1⟩
  clear hT hno ht
  go_enter Try.func14, Try.ntmps14
  go_wp2_with fail
  refine (find_calls B k b _ _ n w HT.out).mono ?_
  rintro e w' (⟨i, x, rfl, hi, rfl⟩ | ⟨rfl, hno, rfl⟩)
  · have h1 := look_of HT.out hi
    rw [HL.out] at h1
    cases h1
  clear hno
  have hbmp := HT.out.bump HN.out
  have hw1 : (w.setCell ⟨b, 1, none⟩ (.int .i64 (n + 1))).heap.size = w.heap.size := by simp
  have hnew := hp_alloc_new (w.setCell ⟨b, 1, none⟩ (.int .i64 (n + 1))) (.cells #[.string k, .int .i64 (n + 1), .int .i64 now, .int .i64 0] 60)
  rw [hw1] at hnew
  have T3' := hbmp.1.grow ((Below.refl _ _).alloc (Nat.le_refl _) (.cells #[.string k, .int .i64 (n + 1), .int .i64 now, .int .i64 0] 60))
  have K3' := hbmp.2.alloc (.cells #[.string k, .int .i64 (n + 1), .int .i64 now, .int .i64 0] 60)
  clear hw1 hbmp
  generalize hw3 : ((w.setCell ⟨b, 1, none⟩ (.int .i64 (n + 1))).alloc (.cells #[.string k, .int .i64 (n + 1), .int .i64 now, .int .i64 0] 60)) = w3 at hnew T3' K3'
  have HW3 := Lib.hid hw3
  have T3 := Lib.hid T3'
  have K3 := Lib.hid K3'
  have HNEW := Lib.hid hnew
  clear hw3 hnew T3' K3'
  go_wp2_with fail
  rw [HW3.out]
  have hx0 : w3.cell? ⟨w.heap.size, 0, none⟩ = some (.string k) := cell_of_block HNEW.out rfl
  have hx1 : w3.cell? ⟨w.heap.size, 1, none⟩ = some (.int .i64 (n + 1)) := cell_of_block HNEW.out rfl
  have hx2 : w3.cell? ⟨w.heap.size, 2, none⟩ = some (.int .i64 now) := cell_of_block HNEW.out rfl
  have hx3 : w3.cell? ⟨w.heap.size, 3, none⟩ = some (.int .i64 0) := cell_of_block HNEW.out rfl
  have hcb3 : w3.cell? ⟨b, 0, none⟩ = some (.slice (some ⟨g, 0, none⟩) R.length cap) := cell_of_block T3.out.hd rfl
  have hcn3 : w3.cell? ⟨b, 1, none⟩ = some (.int .i64 (n + 1)) := cell_of_block T3.out.hd rfl
  have hfb3 : w3.frozen? ⟨b, 0, none⟩ = false := free_of_block T3.out.hd
  clear hcb hcn hfb hfn
  generalize w.heap.size = X at *
  go_loop [10] (fun i => ∃ (j : Nat), i = .int .i64 j ∧ j ≤ R.length) (fun i => R.length - (intOf i).toNat)
  case atStart => exact ⟨0, rfl, Nat.zero_le _⟩
  case round =>
    obtain ⟨j, rfl, hj⟩ := hrel
    by_cases hlt : j < R.length
    · have hlt2 : j < R.length := by omega
      obtain ⟨q, hq⟩ : ∃ q, R[j]? = some q := ⟨_, List.getElem?_eq_getElem hlt2⟩
      have hqk : q.1.data.toList < k.data.toList := HALL.out q (by
        have : (R.take R.length)[j]? = some q := by rw [List.getElem?_take_of_lt hlt]; exact hq
        exact List.mem_of_getElem? this)
      obtain ⟨g', hgg, _, hc, _⟩ := T3.out.row.form2 j q hq rfl
      clear hgg
      have hbl : Op.bytesLess q.1.toList k.toList = true := by
        rw [Go.Lib.toList_data, Go.Lib.toList_data, Go.Proofs.bytesLess_eq]; simpa using hqk
      clear hq hqk
      go_wp2
      go_round
      case rel => exact ⟨j + 1, by go_num, by omega⟩
      case measure => simp [intOf]; omega
    · obtain rfl : j = R.length := by omega
      have hPut := fun (w5 : World) (v' : Value) (base : Nat) (hK : Keep (fun _ => False) w3 w5) (hb : w3.heap.size ≤ base) (hown : w5.ownsRow base 60 4 v' (R.length + 1) (rcells (R.take R.length) ++ rcell (k, ⟨n + 1, now, 0⟩))) =>
        (ask_put (x := ⟨n + 1, now, 0⟩) T3.out (Nat.le_refl _) HL.out HALL.out (fun q hq => by rw [List.getElem?_eq_none (Nat.le_refl _)] at hq; cases hq) HNOW.out hl hK hb (by omega) (by rw [List.drop_length, rcells_nil, List.append_nil]) hown).pre K3.out
      have HPUT := Lib.hid hPut
      clear hPut
      have hlo : Hid ((rcells (R.take R.length)).length = R.length * 4) := by
        show (rcells (R.take R.length)).length = R.length * 4
        rw [rcells_length, List.length_take, Nat.min_self]
      have hld : Hid (∀ wx : World, Keep (fun _ => False) w3 wx → ∀ q, (some (⟨g, 0, none⟩ : Addr)) = some q → ∀ jj u, (rcells (R.take R.length))[jj]? = some u → wx.cell? (q.add jj) = some u) := by
        intro wx hKx q hq jj u hu
        cases hq
        rw [add_mk, Nat.zero_add]
        refine hKx.cell (RowR.reads T3.out.row jj u ?_) (fun x => x)
        rw [List.take_length] at hu
        exact hu
      have hf3 : Hid (R.length + 1 ≤ maxLen) := by show R.length + 1 ≤ maxLen; unfold maxLen; omega
      have hf4 : Hid ((R.length + 1) * 40 ≤ 140737488355328) := by show (R.length + 1) * 40 ≤ 140737488355328; omega
      have hbl3 : b < w3.heap.size := lt_of_get T3.out.hd
      have hbne3 : b ≠ w3.heap.size := Nat.ne_of_lt hbl3
      have hXl3 : X < w3.heap.size := lt_of_get HNEW.out
      have hcbA : (w3.alloc (.cells #[.string k, .int .i64 (n + 1), .int .i64 now, .int .i64 0] 60)).cell? ⟨b, 0, none⟩ = some (.slice (some ⟨g, 0, none⟩) R.length cap) := ((Keep.refl (fun _ => False) w3).alloc _).cell hcb3 (fun x => x)
      have hxA : ∀ j v, w3.cell? ⟨X, j, none⟩ = some v → (w3.alloc (.cells #[.string k, .int .i64 (n + 1), .int .i64 now, .int .i64 0] 60)).cell? ⟨X, j, none⟩ = some v := fun j v h => ((Keep.refl (fun _ => False) w3).alloc _).cell h (fun x => x)
      have hxA0 := hxA 0 _ hx0
      have hxA1 := hxA 1 _ hx1
      have hxA2 := hxA 2 _ hx2
      have hxA3 := hxA 3 _ hx3
      clear hxA
      obtain ⟨i0, hi0, hz0, hz1, hz2⟩ := info_parts leaseInf
      go_wp2_with fail
      go_region_law (first | (refine step_append_zero rfl (.tmp 93) (.tmp 99) 36 rfl 60 i0 Try.underlying36 hi0 (some ⟨w3.heap.size, 0, none⟩) (if cap = R.length then some ⟨g, 0, none⟩ else some ⟨g, R.length * 4, none⟩) 1 1 (cap - R.length) (Nat.le_refl _) (by simp [Act.eval, Act.put]) (by simp [Act.eval, Act.put]) ?_) | (refine step_append_grows rfl (.tmp 91) (.tmp 100) 36 rfl 60 i0 _ 4 40 Try.underlying36 hi0 hz0 hz1 hz2 rfl (by decide) (some ⟨g, 0, none⟩) R.length R.length (rcells (R.take R.length)) (by simp [Act.eval, Act.put]) (fun h => by cases h) hlo.out (hld.out _ (by first | exact ((Keep.refl _ w3).alloc _).drew | exact (Keep.refl _ w3).drew.alloc _ | exact (Keep.refl _ w3).alloc _)) ⟨w3.heap.size, 0, none⟩ 1 1 (rcell (k, ⟨n + 1, now, 0⟩)) (by simp [Act.eval, Act.put]) rfl (World.news_of_block (cs := #[.string k, .int .i64 (n + 1), .int .i64 now, .int .i64 0]) (t := 60) (fr := (0, 0)) (hp_alloc_new w3 _)) rcell_one (Nat.lt_succ_self _) hf3.out hf4.out ?_; intro v' w5 hown hgrow; have hK5 : Keep (fun _ => False) w3 w5 := Keep.grown (S := fun _ => False) (((Keep.refl _ w3).alloc _).drew) hgrow (fun k h => by cases h); have HPP := Lib.hid (HPUT.out w5 v' _ hK5 (by simp) hown); have hcb5 := hK5.cell hcb3 (fun x => x); have hcn5 := hK5.cell hcn3 (fun x => x); have hfb5 : w5.frozen? ⟨b, 0, none⟩ = false := free_of_block (hK5.get T3.out.hd (fun x => x)); obtain ⟨g2, cap2, rfl, _, _⟩ := hown.form (Nat.succ_pos _); clear hown hgrow hK5))
      all_goals go_wp2
      all_goals go_ret2
      all_goals exact .inl ⟨rfl, by unfold rasksB; rw [HL.out, HT1.out]; rfl, _, ask_perm (j := R.length) HL.out, HPP.out⟩
end Go.Proofs.Ytgflkhifphpgpaa
