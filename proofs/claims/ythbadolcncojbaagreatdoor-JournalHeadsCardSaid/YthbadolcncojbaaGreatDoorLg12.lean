/- Records encoded, in plain words; slices.Clone of changes. -/
import Derived.Test.YthbadolcncojbaaGreatDoorEz
import Derived.Test.YthbadolcncojbaaGreatDoorLg11
import Derived.Test.YthbadolcncojbaaGreatDoorEx18

namespace Go.Proofs.YthbadolcncojbaaGreatDoor
open Go.Proofs.Tryz
open Go Go.RowKit Gw
set_option linter.unusedVariables false
set_option linter.unusedSimpArgs false
set_option maxRecDepth 100000
attribute [local irreducible] Gw.At Gw.Nx Gw.Ops
def fl1 (c : Chg) : Int := if c.had then 1 else 0
def vs1 (c : Chg) : List Int := if c.had then [c.o.a, c.o.b, c.o.c] else []
def fl2 (c : Chg) : Int := if c.has then fl1 c + 2 else fl1 c
def vs2 (c : Chg) : List Int := if c.has then vs1 c ++ [c.n.a, c.n.b, c.n.c] else vs1 c
def encC (c : Chg) : List UInt8 := putAll [c.t, c.k, fl2 c] ++ putAll (vs2 c)
/-- A record, encoded. -/
def encRec (p : Int) (cs : List Chg) : List UInt8 := putAll [p, (cs.length : Int)] ++ cs.flatMap encC
def iV (n : Int) : Value := .int .i64 n
theorem ints_lit (xs : List Int) : IntsAt (xs.map iV).toArray 0 xs := fun i n h => by
  rw [Nat.zero_add, List.getElem?_toArray, List.getElem?_map, h]; rfl
theorem ints_row {cur : Array Value} {xs : List Int} (h : cur.toList.take xs.length = xs.map iV) : IntsAt cur 0 xs := fun i n hi => by
  have hlt := (List.getElem?_eq_some_iff.1 hi).1
  rw [Nat.zero_add, ← Array.getElem?_toList]
  have h1 : (cur.toList.take xs.length)[i]? = (xs.map iV)[i]? := by rw [h]
  rw [List.getElem?_take, if_pos hlt, List.getElem?_map, hi] at h1
  exact h1
theorem fl1_t {c : Chg} (h : c.had = true) : fl1 c = 1 := if_pos h
theorem fl1_f {c : Chg} (h : c.had = false) : fl1 c = 0 := if_neg (by rw [h]; decide)
theorem vs1_t {c : Chg} (h : c.had = true) : vs1 c = [c.o.a, c.o.b, c.o.c] := if_pos h
theorem vs1_f {c : Chg} (h : c.had = false) : vs1 c = [] := if_neg (by rw [h]; decide)
theorem fl2_t {c : Chg} (h : c.has = true) : fl2 c = fl1 c + 2 := if_pos h
theorem fl2_f {c : Chg} (h : c.has = false) : fl2 c = fl1 c := if_neg (by rw [h]; decide)
theorem vs2_t {c : Chg} (h : c.has = true) : vs2 c = vs1 c ++ [c.n.a, c.n.b, c.n.c] := if_pos h
theorem vs2_f {c : Chg} (h : c.has = false) : vs2 c = vs1 c := if_neg (by rw [h]; decide)
theorem fl1_le (c : Chg) : 0 ≤ fl1 c ∧ fl1 c ≤ 1 := by unfold fl1; split <;> omega
theorem fl2_le (c : Chg) : 0 ≤ fl2 c ∧ fl2 c ≤ 3 := by have := fl1_le c; unfold fl2; split <;> omega
theorem chg_num {c : Chg} (h : c.ok) : (∀ n ∈ [c.t, c.k, fl2 c], -4611686018427387903 ≤ n ∧ n ≤ 4611686018427387903) ∧ (∀ n ∈ vs2 c, -4611686018427387903 ≤ n ∧ n ≤ 4611686018427387903) ∧ 0 < (vs2 c).length ∧ (vs2 c).length ≤ 6 := by
  obtain ⟨h1, h2, _, _⟩ := h
  have hf := fl2_le c
  have ho : c.had = true → (inV c.o.a ∧ inV c.o.b ∧ inV c.o.c) ∧ (0 ≤ c.t ∧ c.t ≤ 3) ∧ (1 ≤ c.k ∧ c.k ≤ 1000000) := fun hh => by
    have : c.before.ok := Classical.byContradiction (fun hn => h2 (.inl ⟨hh, hn⟩))
    rw [before_t hh] at this; exact this
  have hn : c.has = true → (inV c.n.a ∧ inV c.n.b ∧ inV c.n.c) ∧ (0 ≤ c.t ∧ c.t ≤ 3) ∧ (1 ≤ c.k ∧ c.k ≤ 1000000) := fun hh => by
    have : c.after.ok := Classical.byContradiction (fun hn => h2 (.inr ⟨hh, hn⟩))
    rw [after_t hh] at this; exact this
  have hk : (0 ≤ c.t ∧ c.t ≤ 3) ∧ (1 ≤ c.k ∧ c.k ≤ 1000000) := by
    cases hh : c.had with
    | true => exact (ho hh).2
    | false =>
      cases hs : c.has with
      | true => exact (hn hs).2
      | false => exact absurd (.inl ⟨by rw [hh]; decide, by rw [hs]; decide⟩) h1
  have hv1 : ∀ n ∈ vs1 c, -4611686018427387903 ≤ n ∧ n ≤ 4611686018427387903 := by
    cases hh : c.had with
    | true =>
      obtain ⟨⟨a1, a2, a3⟩, _⟩ := ho hh
      unfold inV at a1 a2 a3
      rw [vs1_t hh]; intro n hn
      simp only [List.mem_cons, List.not_mem_nil, or_false] at hn
      rcases hn with rfl | rfl | rfl <;> omega
    | false => rw [vs1_f hh]; intro n hn; cases hn
  refine ⟨fun n hn => ?_, ?_, ?_, ?_⟩
  · simp only [List.mem_cons, List.not_mem_nil, or_false] at hn
    rcases hn with rfl | rfl | rfl <;> omega
  · cases hs : c.has with
    | true =>
      obtain ⟨⟨a1, a2, a3⟩, _⟩ := hn hs
      unfold inV at a1 a2 a3
      rw [vs2_t hs]; intro n hn
      rcases List.mem_append.1 hn with hn | hn
      · exact hv1 n hn
      · simp only [List.mem_cons, List.not_mem_nil, or_false] at hn
        rcases hn with rfl | rfl | rfl <;> omega
    | false => rw [vs2_f hs]; exact hv1
  · cases hs : c.has with
    | true => rw [vs2_t hs, List.length_append]; simp
    | false =>
      rw [vs2_f hs]
      cases hh : c.had with
      | true => rw [vs1_t hh]; exact Nat.succ_pos _
      | false => exact absurd (.inl ⟨by rw [hh]; decide, by rw [hs]; decide⟩) h1
  · have : (vs1 c).length ≤ 3 := by unfold vs1; split <;> simp
    cases hs : c.has with
    | true => rw [vs2_t hs, List.length_append]; simp; omega
    | false => rw [vs2_f hs]; omega
theorem vs1_len (c : Chg) : (vs1 c).length ≤ 3 := by unfold vs1; split <;> simp
theorem encC_len {c : Chg} (h : c.ok) : (encC c).length ≤ 81 := by
  obtain ⟨h1, h2, h3, h4⟩ := chg_num h
  have a := putAll_len _ h1
  have b := putAll_len _ h2
  unfold encC
  rw [List.length_append]
  have : [c.t, c.k, fl2 c].length = 3 := rfl
  omega
theorem encs_len : ∀ (cs : List Chg), (∀ c ∈ cs, c.ok) → (cs.flatMap encC).length ≤ cs.length * 81
  | [], _ => Nat.zero_le _
  | c :: cs, h => by
    have a := encs_len cs (fun x hx => h x (by simp [hx]))
    have b := encC_len (h c (by simp))
    rw [List.flatMap_cons, List.length_append, List.length_cons]; omega
theorem head_num {p : Int} {cs : List Chg} (h : RecOk p cs) : ∀ n ∈ [p, (cs.length : Int)], -4611686018427387903 ≤ n ∧ n ≤ 4611686018427387903 := by
  intro n hn
  have h1 := h.pos
  have h2 := h.len
  simp only [List.mem_cons, List.not_mem_nil, or_false] at hn
  rcases hn with rfl | rfl <;> omega
theorem RecOk.mem {p : Int} {cs : List Chg} (h : RecOk p cs) : ∀ c ∈ cs, c.ok := fun c hc => by
  obtain ⟨i, hi⟩ := List.getElem?_of_mem hc
  exact h.all i c hi
theorem encTo_len {p : Int} {cs : List Chg} (h : RecOk p cs) (i : Nat) : (putAll [p, (cs.length : Int)] ++ (cs.take i).flatMap encC).length ≤ 666 := by
  have a := putAll_len _ (head_num h)
  have b := encs_len (cs.take i) (fun c hc => h.mem c (List.mem_of_mem_take hc))
  have d : (cs.take i).length ≤ 8 := by rw [List.length_take]; have := h.len; omega
  rw [List.length_append]
  have : [p, (cs.length : Int)].length = 2 := rfl
  omega
theorem encRec_len {p : Int} {cs : List Chg} (h : RecOk p cs) : (encRec p cs).length ≤ 18 + cs.length * 81 := by
  have a := putAll_len _ (head_num h)
  have b := encs_len cs h.mem
  unfold encRec
  rw [List.length_append]
  have : [p, (cs.length : Int)].length = 2 := rfl
  omega
theorem enc_next (A : List UInt8) {cs : List Chg} {i : Nat} {x : Chg} (hx : cs[i]? = some x) : A ++ (cs.take (i + 1)).flatMap encC = (A ++ (cs.take i).flatMap encC) ++ (putAll [x.t, x.k, fl2 x] ++ putAll (vs2 x)) := by
  rw [List.take_add_one, hx]
  show A ++ (cs.take i ++ [x]).flatMap encC = _
  rw [List.flatMap_append, List.append_assoc]
  simp only [List.flatMap_cons, List.flatMap_nil, List.append_nil]
  rfl
/-- Changes that are read are a part of a row. -/
theorem subS_chgs {M : List Chunk} {v : Value} {cs : List Chg} (hu : ∀ g o1 o2, (g, o1) ∈ M → (g, o2) ∈ M → o1 = o2) (h : ChgsIn M v cs) (h0 : 0 < cs.length) : ∃ g off cap cur T z, v = .slice (some ⟨g, off, none⟩) cs.length cap ∧ (g, Obj.cells cur T z) ∈ M ∧ SubVS 10 v cs.length (chgCells cs) [(g, .cells cur T z)] := by
  obtain ⟨p, cap, rfl, hl, hg⟩ := h
  obtain ⟨c, hc⟩ : ∃ c, cs[0]? = some c := ⟨_, List.getElem?_eq_getElem h0⟩
  obtain ⟨g, off, cur, T, z, rfl, hm, _⟩ := hg 0 c hc
  refine ⟨g, off, cap, cur, T, z, rfl, hm, chgCells_len cs, .inr ⟨g, off, cap, cur, T, z, rfl, rfl, ?_⟩⟩
  refine cells_flat _ 10 Y cur cs off (fun i a ha => ?_)
  obtain ⟨g2, off2, cur2, T2, z2, e, hm2, hsz, hex⟩ := hg i a ha
  injection e with e
  injection e with e1 e2 e3
  subst e1 e2
  have := hu g _ _ hm hm2
  injection this with h1 h2 h3
  subst h1
  exact ⟨hsz, by rw [hex]⟩
theorem repeat_spec : DoesR Tryz.prog 50 #[.string (str [0]), .int .i64 32] [] (.string (str zero32)) := fun u R w hs => (Tryz.strings_Repeat (str [0]) 32 w (by decide) (by decide)).mono (by
  rintro e w' ⟨rfl, hb⟩
  exact .inl ⟨_, [], rfl, ⟨rfl, rfl⟩, hs.below hb⟩)

theorem clone_at (g off cap n : Nat) (cur : Array Value) (T : TypeId) (z : Nat × Nat) (ys : List Value) (M1 M2 : List Chunk) (hsub : SubVS 10 (.slice (some ⟨g, off, none⟩) n cap) n ys [(g, .cells cur T z)]) (h0 : 0 < n) (hn : n ≤ 1000000) :
    Does Tryz.prog 113 #[.slice (some ⟨g, off, none⟩) n cap] [M1, [(g, .cells cur T z)], M2] (fun r H' => ∃ sq, RowS 10 90 r n ys sq ∧ H' = [sq, M1, [(g, .cells cur T z)], M2]) := by
 have hml : maxLen = 9223372036854775807 := rfl
 refine spec_enter func113 rfl ntmps113 rfl ?_
 intro u R
 refine Zb [0] ?_
 refine Zq <| Zg <| Za Y <| Z0 <| Zx <| Zq <| Zq <| Zg <| Zm Y <| Zv (p_eql_slice_nil underlying39 Y Y) <| Z0 <| Zx ?_
 refine at_if_bool Y (fun h1 => ?_) (fun h1 => ?_)
 ·
  cases h1
 ·
  refine at_skip <| Zx <| Zq <| Zg <| Ze (w_buildSlice0 underlying39 sizeOf90) ?_
  rintro _ _ ⟨ge, rfl, rfl⟩
  refine Zm Y ?_
  refine Ze (w_append_freshS (by_ := 80) (sz := 10) underlying39 (rfl : Tryz.prog.info? 90 = some Tryz.t90) rfl rfl rfl rfl Y (subS_new 10 ge 0 0 90 (0, 0) [] rfl) Y (hsub) (by repeat (first | exact One.here _ _ | apply One.there)) (by repeat (first | exact One.here _ _ | apply One.there)) (by omega) (by omega) (by omega)) ?_
  rintro _ _ ⟨sa, hra, rfl⟩
  obtain ⟨ga, ca, rfl⟩ := hra.form
  refine Za Y <| Z0 <| Zx <| at_ret ?_
  refine nx_end1 rfl results113 Y (by exact ⟨_, rowS_eq hra (by omega) (by simp), rfl⟩)

theorem clone_chg {M : List Chunk} {v : Value} {cs : List Chg} (hO : ChgsIn M v cs) (h0 : 0 < cs.length) (hn : cs.length ≤ 1000000) : Does Tryz.prog 113 #[v] [M] (fun r H' => ∃ sq, RowS 10 90 r cs.length (chgCells cs) sq ∧ H' = [sq, M]) := does_uniq fun hu => by
  obtain ⟨g, off, cap, cur, T, z, rfl, hm, hsub⟩ := subS_chgs hu hO h0
  obtain ⟨M1, M2, rfl⟩ := List.append_of_mem hm
  refine does_flat (H := [M1, [(g, .cells cur T z)], M2]) (by simp) (does_mono (clone_at g off cap cs.length cur T z _ M1 M2 hsub h0 hn) ?_)
  rintro r _ ⟨sq, h, rfl⟩
  exact ⟨_, ⟨sq, h, rfl⟩, by simp⟩

end Go.Proofs.YthbadolcncojbaaGreatDoor
