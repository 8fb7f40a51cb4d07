/- Plain laws: a journal and its disk go together. Plain laws: what is stored is read back. Plain laws: load reads what Append has stored. -/
import Derived.Test.YthbadolcncojbaaGreatDoorLw3
namespace Go.Proofs.YthbadolcncojbaaGreatDoor
open Go Go.RowKit Gw
set_option linter.unusedVariables false
set_option linter.unusedSimpArgs false
set_option maxRecDepth 100000
attribute [local irreducible] Gw.At Gw.Nx Gw.Ops
theorem outL_append : ∀ (a b : List (List UInt8)) (h : List UInt8), outL h (a ++ b) = outL h a ++ outL (headL h a) b
  | [], b, h => rfl
  | x :: a, b, h => by simp only [List.cons_append, outL, headL]; rw [outL_append a b]; simp
theorem headL_append : ∀ (a b : List (List UInt8)) (h : List UInt8), headL h (a ++ b) = headL (headL h a) b
  | [], b, h => rfl
  | x :: a, b, h => by simp only [List.cons_append, headL]; exact headL_append a b _
theorem splice_two (P Z : List UInt8) (x : UInt8) (t : List UInt8) (h : t.length + 1 ≤ Z.length) : splice (splice (P ++ Z) (P.length + 1) t) P.length [x] = P ++ (x :: t) ++ Z.drop (t.length + 1) := by
  obtain ⟨z, Z', rfl⟩ : ∃ z Z', Z = z :: Z' := by
    cases Z with
    | nil => simp at h
    | cons z Z' => exact ⟨z, Z', rfl⟩
  have e1 : splice (P ++ z :: Z') (P.length + 1) t = P ++ (z :: (t ++ Z'.drop t.length)) := by
    unfold splice
    have a1 : (P ++ z :: Z').take (P.length + 1) = P ++ [z] := by
      rw [List.take_append, List.take_of_length_le (by omega), show P.length + 1 - P.length = 1 by omega]; rfl
    have a2 : (P ++ z :: Z').drop (P.length + 1 + t.length) = Z'.drop t.length := by
      rw [List.drop_append, List.drop_of_length_le (by omega), show P.length + 1 + t.length - P.length = t.length + 1 by omega]; rfl
    rw [a1, a2]; simp
  rw [e1]
  unfold splice
  have a3 : (P ++ (z :: (t ++ Z'.drop t.length))).take P.length = P := List.take_left' rfl
  have a4 : (P ++ (z :: (t ++ Z'.drop t.length))).drop (P.length + 1) = t ++ Z'.drop t.length := by
    rw [List.drop_append, List.drop_of_length_le (by omega), show P.length + 1 - P.length = 1 by omega]; rfl
  rw [a3, List.length_singleton, a4]
  simp
/-- A journal and its disk, with power and nothing pending. -/
structure JD (j : JrS) (d : DiskS) : Prop where
  off : d.off = false
  left : d.left = 0
  pend : d.pend = []
  du : d.du = d.vi
  br : j.br = false
  head : j.h = headL zero32 j.rs
  sz : j.sz = (outL zero32 j.rs).length
  fit : j.sz ≤ d.vi.length
  vi : d.vi = outL zero32 j.rs ++ List.replicate (d.vi.length - j.sz) 0
  short : ∀ r ∈ j.rs, r.length ≤ 65536
theorem app_on (d : DiskS) (sz : Nat) (out : List UInt8) (h0 : d.off = false) (h1 : d.left = 0) : d.app sz out = (0, ⟨false, 0, splice (splice d.vi (sz + 1) out.tail) sz (out.take 1), splice (splice d.vi (sz + 1) out.tail) sz (out.take 1), []⟩) := by
  obtain ⟨off, left, du, vi, pend⟩ := d
  simp only at h0 h1
  subst h0 h1
  simp [DiskS.app, DiskS.write, DiskS.sync, usedOff, usedLeft]
theorem JD.append {j : JrS} {d : DiskS} (hj : JD j d) (ls : List (List UInt8)) (hl : ∀ r ∈ ls, r.length ≤ 65536) :
    JD (j.append d ls).2.1 (j.append d ls).2.2 ∧ (j.append d ls).2.2.vi.length = d.vi.length ∧
    ((d.vi.length < j.sz + (outL j.h ls).length ∧ (j.append d ls).1 = 231 ∧ (j.append d ls).2.1 = j ∧ (j.append d ls).2.2 = d) ∨
     (j.sz + (outL j.h ls).length ≤ d.vi.length ∧ (j.append d ls).1 = 0 ∧ (j.append d ls).2.1.rs = j.rs ++ ls ∧ (j.append d ls).2.1.sz = j.sz + (outL j.h ls).length)) := by
  have hany : ls.any isLong = false := by
    rw [List.any_eq_false]
    intro r hr
    have := hl r hr
    unfold isLong
    simp; omega
  unfold JrS.append
  rw [if_neg (by rw [hany, hj.br]; simp)]
  by_cases h1 : d.vi.length < j.sz + (outL j.h ls).length
  · rw [if_pos h1]
    exact ⟨hj, rfl, .inl ⟨h1, rfl, rfl, rfl⟩⟩
  rw [if_neg h1]
  by_cases h2 : outL j.h ls = []
  · rw [if_pos h2]
    have h3 : ls = [] := by
      cases ls with
      | nil => rfl
      | cons x t =>
        have := outL_two j.h (x :: t) hl
        have h5 := recS_len j.h x (hl x (by simp))
        have h6 := congrArg List.length h2
        simp only [outL, List.length_append, List.length_nil] at h6
        omega
    exact ⟨hj, rfl, .inr ⟨by omega, rfl, by rw [h3, List.append_nil], by rw [h2]; rfl⟩⟩
  rw [if_neg h2, app_on d _ _ hj.off hj.left]
  simp only [ne_eq, not_true_eq_false, if_false]
  obtain ⟨out, ho⟩ : ∃ out, out = outL j.h ls := ⟨_, rfl⟩
  rw [← ho] at h1 h2 ⊢
  obtain ⟨x, t, rfl⟩ : ∃ x t, out = x :: t := by
    cases out with
    | nil => exact absurd rfl h2
    | cons x t => exact ⟨x, t, rfl⟩
  have hv : splice (splice d.vi (j.sz + 1) (x :: t).tail) j.sz ((x :: t).take 1) = outL zero32 j.rs ++ (x :: t) ++ List.replicate (d.vi.length - (j.sz + (x :: t).length)) 0 := by
    have hz := hj.sz
    have e1 := splice_two (outL zero32 j.rs) (List.replicate (d.vi.length - j.sz) 0) x t (by rw [List.length_replicate]; simp only [List.length_cons] at h1; omega)
    rw [← hj.vi, ← hz, List.drop_replicate] at e1
    simp only [List.tail_cons, List.take_succ_cons, List.take_zero, List.length_cons]
    rw [e1]
    congr 2
    omega
  have hlen : (outL zero32 j.rs ++ (x :: t) ++ List.replicate (d.vi.length - (j.sz + (x :: t).length)) (0 : UInt8)).length = d.vi.length := by
    rw [List.length_append, List.length_append, List.length_replicate, ← hj.sz]; omega
  have hout : outL zero32 (j.rs ++ ls) = outL zero32 j.rs ++ (x :: t) := by rw [outL_append, ← hj.head, ← ho]
  refine ⟨⟨rfl, rfl, rfl, rfl, hj.br, ?_, ?_, ?_, ?_, ?_⟩, ?_, .inr ⟨by omega, by first | exact trivial | rfl, by first | exact trivial | rfl, by first | exact trivial | rfl⟩⟩
  · show headL j.h ls = headL zero32 (j.rs ++ ls)
    rw [headL_append, ← hj.head]
  · show j.sz + (x :: t).length = (outL zero32 (j.rs ++ ls)).length
    rw [hout, List.length_append, ← hj.sz]
  · show j.sz + (x :: t).length ≤ (splice (splice d.vi (j.sz + 1) (x :: t).tail) j.sz ((x :: t).take 1)).length
    rw [hv, hlen]; omega
  · show splice (splice d.vi (j.sz + 1) (x :: t).tail) j.sz ((x :: t).take 1) = outL zero32 (j.rs ++ ls) ++ List.replicate ((splice (splice d.vi (j.sz + 1) (x :: t).tail) j.sz ((x :: t).take 1)).length - (j.sz + (x :: t).length)) 0
    rw [hv, hlen, hout]
  · intro r hr
    rcases List.mem_append.1 hr with h | h
    · exact hj.short r h
    · exact hl r h
  · show (splice (splice d.vi (j.sz + 1) (x :: t).tail) j.sz ((x :: t).take 1)).length = d.vi.length
    rw [hv, hlen]

theorem decG_grps (s : List UInt8) (a : Nat) : ∀ (f i z y : Nat), (grps y).length ≤ f → (0 < i → 0 < y) → ¬ uz (z + y * 2 ^ (7 * i)) < -4611686018427387903 → (∀ k, k < (grps y).length → s[a + i + k]? = ((grps y).map gb)[k]?) →
    decG s a i z f = some (uz (z + y * 2 ^ (7 * i)), a + i + (grps y).length)
  | 0, i, z, y, hf, _, _, _ => by
    rw [grps_eq, List.length_cons] at hf; omega
  | f + 1, i, z, y, hf, hp, hM, hs => by
    have h0 := hs 0 (by rw [grps_eq]; simp)
    rw [grps_eq, List.map_cons, List.getElem?_cons_zero, Nat.add_zero] at h0
    rw [decG, h0]
    simp only
    by_cases hy : y < 128
    · have hg : (gb (y % 128, decide (y < 128))).toNat = y := by
        unfold gb
        rw [decide_eq_true hy]
        simp only [if_true]
        rw [UInt8.toNat_ofNat', Nat.mod_eq_of_lt hy]; omega
      rw [hg, if_neg (by omega), Nat.mod_eq_of_lt hy, if_neg (by
        rintro (⟨h1, h2⟩ | h)
        · have := hp h2; omega
        · exact hM h)]
      rw [grps_eq, if_pos hy]; rfl
    · have hg : (gb (y % 128, decide (y < 128))).toNat = y % 128 + 128 := by
        unfold gb
        rw [decide_eq_false hy]
        simp only [Bool.false_eq_true, if_false]
        rw [UInt8.toNat_ofNat']; omega
      rw [hg, if_pos (by omega)]
      have hlen : (grps y).length = (grps (y / 128)).length + 1 := by rw [grps_eq y, if_neg hy, List.length_cons]
      have hsum : z + (y % 128 + 128) % 128 * 2 ^ (7 * i) + y / 128 * 2 ^ (7 * (i + 1)) = z + y * 2 ^ (7 * i) := by
        have e : 2 ^ (7 * (i + 1)) = 128 * 2 ^ (7 * i) := by rw [show 7 * (i + 1) = 7 * i + 7 by omega, Nat.pow_add, Nat.mul_comm]
        rw [e, show (y % 128 + 128) % 128 = y % 128 by omega, ← Nat.mul_assoc, Nat.add_assoc, ← Nat.add_mul]
        congr 2; omega
      have ih := decG_grps s a f (i + 1) (z + (y % 128 + 128) % 128 * 2 ^ (7 * i)) (y / 128) (by omega) (fun _ => by omega) (by rw [hsum]; exact hM) (fun k hk => by
        have := hs (k + 1) (by omega)
        rw [grps_eq y, if_neg hy, List.map_cons, List.getElem?_cons_succ] at this
        rw [← this]; congr 1; omega)
      rw [hsum] at ih
      rw [ih, hlen]
      congr 2; omega
theorem uz_zz (n : Nat) : uz (zz (n : Int)) = (n : Int) := by
  rw [zz_nat]; unfold uz; rw [if_pos (by omega)]; congr 1; omega
theorem decI_enc (pre post : List UInt8) (n : Nat) (h : n ≤ 4611686018427387903) : decI (pre ++ encI (n : Int) ++ post) pre.length = some ((n : Int), pre.length + (encI (n : Int)).length) := by
  have hl := encI_len (n : Int) (by omega) (by omega)
  have he : (encI (n : Int)).length = (grps (zz (n : Int))).length := by unfold encI; rw [List.length_map]
  have := decG_grps (pre ++ encI (n : Int) ++ post) pre.length 9 0 0 (zz (n : Int)) (by omega) (by omega) (by simp only [Nat.mul_zero, Nat.pow_zero, Nat.mul_one, Nat.zero_add]; rw [uz_zz]; omega) (fun k hk => by
    rw [Nat.add_zero, List.append_assoc, List.getElem?_append_right (by omega), show pre.length + k - pre.length = k by omega, List.getElem?_append_left (by omega)]; rfl)
  simp only [Nat.mul_zero, Nat.pow_zero, Nat.mul_one, Nat.zero_add, Nat.add_zero] at this
  rw [uz_zz] at this
  unfold decI
  rw [this, he]
theorem decS_enc (pre post : List UInt8) (r : List UInt8) (h : r.length ≤ 65536) : decS (pre ++ encS r ++ post) pre.length = some (r, pre.length + (encS r).length) := by
  have h1 := decI_enc pre (r ++ post) r.length (by omega)
  have e : pre ++ encI (r.length : Int) ++ (r ++ post) = pre ++ encS r ++ post := by simp [encS]
  rw [e] at h1
  unfold decS
  rw [h1]
  simp only
  have hlen : (pre ++ encS r ++ post).length = pre.length + (encI (r.length : Int)).length + r.length + post.length := by simp [encS]; omega
  rw [if_neg (by rw [hlen]; omega)]
  congr 2
  · rw [← e, Int.toNat_natCast]
    rw [List.drop_left' (by rw [List.length_append]), List.take_left' rfl]
  · rw [Int.toNat_natCast]; simp [encS]; omega

theorem load_out (m : Nat) : ∀ (ls : List (List UInt8)) (pre : List UInt8) (rs : List (List UInt8)) (h : List UInt8) (f : Nat), (∀ r ∈ ls, r.length ≤ 65536) → ls.length < f →
    loadL (pre ++ (outL h ls ++ List.replicate m 0)) f rs h pre.length = some (rs ++ ls, headL h ls, pre.length + (outL h ls).length)
  | [], pre, rs, h, f, _, hf => by
    obtain ⟨f', rfl⟩ : ∃ f', f = f' + 1 := ⟨f - 1, by simp at hf; omega⟩
    rw [loadL, List.getElem?_append_right (Nat.le_refl _), Nat.sub_self]
    simp only [outL, List.nil_append, headL, List.append_nil, List.length_nil, Nat.add_zero]
    cases m with
    | zero => rfl
    | succ m => simp [List.replicate_succ]
  | x :: t, pre, rs, h, f, hl, hf => by
    obtain ⟨f', rfl⟩ : ∃ f', f = f' + 1 := ⟨f - 1, by simp at hf; omega⟩
    have hx := hl x (by simp)
    have hrl := recS_len h x hx
    have ih := load_out m t (pre ++ recS h x) (rs ++ [x]) (chainS h x) f' (fun r hr => hl r (by simp [hr])) (by simp only [List.length_cons] at hf; omega)
    have e0 : pre ++ (outL h (x :: t) ++ List.replicate m 0) = (pre ++ [1]) ++ encS x ++ (chainS h x ++ (outL (chainS h x) t ++ List.replicate m 0)) := by simp [outL, recS]
    have e1 : pre ++ (outL h (x :: t) ++ List.replicate m 0) = pre ++ (recS h x ++ (outL (chainS h x) t ++ List.replicate m 0)) := by simp [outL]
    have e2 : pre ++ (outL h (x :: t) ++ List.replicate m 0) = (pre ++ recS h x) ++ (outL (chainS h x) t ++ List.replicate m 0) := by simp [outL]
    have hd := decS_enc (pre ++ [1]) (chainS h x ++ (outL (chainS h x) t ++ List.replicate m 0)) x hx
    rw [← e0, List.length_append, List.length_singleton] at hd
    have hb : (pre ++ (outL h (x :: t) ++ List.replicate m 0))[pre.length]? = some 1 := by
      rw [e1, List.getElem?_append_right (Nat.le_refl _), Nat.sub_self]; rfl
    have hcond : pre.length + 1 + (encS x).length + 32 ≤ (pre ++ (outL h (x :: t) ++ List.replicate m 0)).length ∧ recS h x = ((pre ++ (outL h (x :: t) ++ List.replicate m 0)).drop pre.length).take (pre.length + 1 + (encS x).length + 32 - pre.length) := by
      constructor
      · rw [e1, List.length_append, List.length_append]; omega
      · rw [e1, List.drop_left' rfl, List.take_left' (by omega)]
    rw [loadL, hb]
    simp only
    rw [if_neg (by decide), if_pos (by decide), hd]
    simp only
    rw [if_pos hcond]
    have e3 : pre.length + (recS h x).length = (pre ++ recS h x).length := by rw [List.length_append]
    rw [e2, e3, ih]
    simp only [outL, headL, List.length_append, List.append_assoc, List.singleton_append]
    congr 3; omega
theorem JD.load {j : JrS} {d : DiskS} (hj : JD j d) : loadL d.vi (d.vi.length + 1) [] zero32 0 = some (j.rs, j.h, j.sz) ∧ ∀ x ∈ d.vi.drop j.sz, x = 0 := by
  have hn : j.rs.length ≤ (outL zero32 j.rs).length := by
    have : ∀ (ls : List (List UInt8)) (h : List UInt8), (∀ r ∈ ls, r.length ≤ 65536) → ls.length ≤ (outL h ls).length := by
      intro ls
      induction ls with
      | nil => intro h _; simp [outL]
      | cons x t ih =>
        intro h hl
        have h1 := recS_len h x (hl x (by simp))
        have h2 := ih (chainS h x) (fun r hr => hl r (by simp [hr]))
        simp only [outL, List.length_append, List.length_cons]; omega
    exact this j.rs zero32 hj.short
  have hfit := hj.fit
  have hsz := hj.sz
  constructor
  · have h := load_out (d.vi.length - j.sz) j.rs [] [] zero32 (d.vi.length + 1) hj.short (by omega)
    simp only [List.nil_append, List.length_nil, Nat.zero_add] at h
    rw [← hj.vi, ← hj.head, ← hj.sz] at h
    exact h
  · intro x hx
    rw [hj.vi, List.drop_left' hsz.symm] at hx
    exact List.eq_of_mem_replicate hx
theorem JD.new (n : Nat) (h1 : 1 ≤ n) : JD ⟨[], zero32, 0, false⟩ (DiskS.new n) :=
  ⟨rfl, rfl, rfl, rfl, rfl, rfl, rfl, Nat.zero_le _, by simp [DiskS.new, outL], by simp⟩

end Go.Proofs.YthbadolcncojbaaGreatDoor
