/- Package snapshot, plain: what a journal stores; a store and its calls. Package snapshot in general: list, opened, erase, Open. -/
import Derived.Test.YthbadolcncojbaaGreatDoorEz
import Derived.Test.YthbadolcncojbaaGreatDoorSp1
import Derived.Test.YthbadolcncojbaaGreatDoorMa2

namespace Go.Proofs.YthbadolcncojbaaGreatDoor
open Go.Proofs.Tryz
open Go Go.RowKit Gw
set_option linter.unusedVariables false
set_option maxRecDepth 100000
attribute [local irreducible] Gw.At Gw.Nx Gw.Ops
/-- The items of records, as long as all of them are items. -/
def itmS (x : Bool × List (List UInt8)) (r : List UInt8) : Bool × List (List UInt8) :=
  if x.1 = true ∧ r.head? = some 105 then (true, x.2 ++ [r.tail]) else (false, x.2)
/-- The generation that a header states. -/
def rdH (r : List UInt8) : Option Int :=
  if r.head? = some 103 then
    match decI r 1 with
    | some (n, k) => if k = r.length ∧ 1 ≤ n ∧ n ≤ 1000000000 then some n else none
    | none => none
  else none
/-- The list that a journal stores. -/
def rdL : List (List UInt8) → Option (Nat × List (List UInt8))
  | [] => some (0, [])
  | r :: t =>
    match rdH r with
    | none => none
    | some n => if (t.foldl itmS (true, [])).1 then some (n.toNat, (t.foldl itmS (true, [])).2) else none
theorem rdL_cons (r : List UInt8) (t : List (List UInt8)) : rdL (r :: t) = match rdH r with
    | none => none
    | some n => if (t.foldl itmS (true, [])).1 then some (n.toNat, (t.foldl itmS (true, [])).2) else none := rfl
theorem itm_false (t : List (List UInt8)) (l : List (List UInt8)) : t.foldl itmS (false, l) = (false, l) := by
  induction t with
  | nil => rfl
  | cons r t ih =>
    rw [List.foldl_cons]
    have : itmS (false, l) r = (false, l) := by unfold itmS; rw [if_neg (by simp)]
    rw [this, ih]
theorem itm_next (t : List (List UInt8)) (i : Nat) (x : List UInt8) (h : t[i]? = some x) (a : Bool × List (List UInt8)) : (t.take (i + 1)).foldl itmS a = itmS ((t.take i).foldl itmS a) x := by
  rw [List.take_add_one, h, List.foldl_append]; rfl
theorem itm_len (t : List (List UInt8)) (a : Bool × List (List UInt8)) : (t.foldl itmS a).2.length ≤ a.2.length + t.length := by
  induction t generalizing a with
  | nil => simp
  | cons r t ih =>
    rw [List.foldl_cons]
    have h1 := ih (itmS a r)
    have h2 : (itmS a r).2.length ≤ a.2.length + 1 := by
      unfold itmS; split
      · simp
      · simp
    rw [List.length_cons]; omega
theorem rdH_le {r : List UInt8} {n : Int} (h : rdH r = some n) : 1 ≤ n ∧ n ≤ 1000000000 := by
  unfold rdH at h
  split at h
  · split at h
    · split at h
      · injection h with h; subst h; rename_i h9; exact h9.2
      · cases h
    · cases h
  · cases h
/-- What reading a list from a journal answers. -/
def LstR (rs : List (List UInt8)) (n : Int) (its : List (List UInt8)) (ok : Bool) : Prop :=
  match rdL rs with
  | none => ok = false
  | some (m, l) => ok = true ∧ n = (m : Int) ∧ its = l
theorem LstR.cons {r : List UInt8} {t : List (List UInt8)} {n : Int} (b : Bool) (hb : if b = true then rdH r = some n else rdH r = none) : LstR (r :: t) n (t.foldl itmS (b, [])).2 (t.foldl itmS (b, [])).1 := by
  unfold LstR
  rw [rdL_cons]
  cases b with
  | false =>
    simp only [Bool.false_eq_true, if_false] at hb
    rw [hb, itm_false]
  | true =>
    simp only [if_true] at hb
    have h1 := rdH_le hb
    rw [hb]
    simp only
    cases hx : (t.foldl itmS (true, [])).1 with
    | true => simp only [if_true]; exact ⟨by trivial, by omega, by trivial⟩
    | false => simp only [Bool.false_eq_true, if_false]
/-- A store: its journals on the first and the second disk, which one is the current one, the generation, the items, the error. -/
structure Core where
  ja : JrS
  jb : JrS
  sw : Bool
  gen : Nat
  its : List (List UInt8)
  err : Int
def Core.cur (c : Core) : JrS := if c.sw then c.jb else c.ja
/-- What Append does to the current half. -/
def appS (j : JrS) (d : DiskS) (err : Int) (its ls : List (List UInt8)) : Int × JrS × DiskS × List (List UInt8) :=
  if ls.any isBig = true then (240, j, d, its) else
  if err ≠ 0 then (err, j, d, its) else
  ((j.append d (ls.map itm)).1, (j.append d (ls.map itm)).2.1, (j.append d (ls.map itm)).2.2, if (j.append d (ls.map itm)).1 = 0 then its ++ ls else its)
/-- What erasing writes. -/
def clrS (j : JrS) (d : DiskS) : Int × DiskS :=
  if j.rs = [] then (0, d) else if (d.write 0 [0]).1 ≠ 0 then d.write 0 [0] else (d.write 0 [0]).2.sync
/-- What erase does: the error, the new journal, the disk. -/
def ersS (j : JrS) (d : DiskS) : Int × Option JrS × DiskS :=
  if (clrS j d).1 ≠ 0 then ((clrS j d).1, none, (clrS j d).2) else (clrS j d).2.openJ
/-- What Compact does to the other half: the error, its journal, its disk. -/
def cptS (j : JrS) (d : DiskS) (gen : Nat) (ls : List (List UInt8)) : Int × JrS × DiskS :=
  match ersS j d with
  | (e, none, d') => (e, j, d')
  | (_, some j', d') => j'.append d' (recsOf (gen + 1) ls)
def Core.app (c : Core) (da db : DiskS) (ls : List (List UInt8)) : Int × Core × DiskS × DiskS :=
  if c.sw then
    let r := appS c.jb db c.err c.its ls
    (r.1, { c with jb := r.2.1, its := r.2.2.2 }, da, r.2.2.1)
  else
    let r := appS c.ja da c.err c.its ls
    (r.1, { c with ja := r.2.1, its := r.2.2.2 }, r.2.2.1, db)
def errS (e : Int) : Int := if e = 231 then 0 else e
def Core.cpt (c : Core) (da db : DiskS) (ls : List (List UInt8)) : Int × Core × DiskS × DiskS :=
  if ls.any isBig = true ∨ 1000000000 ≤ c.gen then (240, c, da, db) else
  if c.err ≠ 0 then (c.err, c, da, db) else
  if c.sw then
    let r := cptS c.ja da c.gen ls
    if r.1 ≠ 0 then (r.1, { c with ja := r.2.1, err := errS r.1 }, r.2.2, db) else (0, ⟨r.2.1, c.jb, false, c.gen + 1, ls, 0⟩, r.2.2, db)
  else
    let r := cptS c.jb db c.gen ls
    if r.1 ≠ 0 then (r.1, { c with jb := r.2.1, err := errS r.1 }, da, r.2.2) else (0, ⟨c.ja, r.2.1, true, c.gen + 1, ls, 0⟩, da, r.2.2)
/-- What Open does. -/
def openS (da db : DiskS) : Int × Option Core × DiskS × DiskS :=
  match da.openJ with
  | (e, none, da') => (e, none, da', db)
  | (_, some ja, da') =>
    match db.openJ with
    | (f, none, db') => (f, none, da', db')
    | (_, some jb, db') =>
      match rdL ja.rs, rdL jb.rs with
      | some (m, l), some (n, o) =>
        if m = n ∧ 0 < m then (240, none, da', db') else
        if m < n then (0, some ⟨ja, jb, true, n, o, 0⟩, da', db') else
        if m = 0 then
          if (ja.append da' [hdr 1]).1 ≠ 0 then ((ja.append da' [hdr 1]).1, none, (ja.append da' [hdr 1]).2.2, db')
          else (0, some ⟨(ja.append da' [hdr 1]).2.1, jb, false, 1, [], 0⟩, (ja.append da' [hdr 1]).2.2, db')
        else (0, some ⟨ja, jb, false, m, l, 0⟩, da', db')
      | _, _ => (240, none, da', db')
/-- A store's plain state is in order. -/
structure CoOk (n1 n2 k : Nat) (c : Core) (da db : DiskS) : Prop where
  wa : Wok n1 k da (some c.ja)
  wb : Wok n2 k db (some c.jb)
  g1 : 1 ≤ c.gen
  g2 : c.gen ≤ 1000000000
  ln : c.its.length ≤ c.cur.rs.length
theorem Wok.more {n k k' : Nat} {d : DiskS} {jo : Option JrS} (h : Wok n k d jo) (hk : k ≤ k') : Wok n k' d jo := ⟨h.len, Nat.le_trans h.pend hk, h.inr, h.jr⟩
theorem Wok.drop {n k : Nat} {d : DiskS} {jo : Option JrS} (h : Wok n k d jo) : Wok n k d none := ⟨h.len, h.pend, h.inr, fun j hj => by cases hj⟩
theorem append_rs (j : JrS) (d : DiskS) (ls : List (List UInt8)) : ((j.append d ls).1 = 0 → (j.append d ls).2.1.rs = j.rs ++ ls) ∧ ((j.append d ls).1 ≠ 0 → (j.append d ls).2.1.rs = j.rs) := by
  unfold JrS.append
  split
  · exact ⟨fun h => absurd h (by show ¬ (230 : Int) = 0; decide), fun _ => rfl⟩
  split
  · exact ⟨fun h => absurd h (by show ¬ (231 : Int) = 0; decide), fun _ => rfl⟩
  split
  · rename_i h
    have h1 := out_count ls j.h
    rw [h] at h1
    have h2 : ls = [] := List.eq_nil_of_length_eq_zero (by simpa using h1)
    exact ⟨fun _ => by rw [h2, List.append_nil], fun h => absurd rfl h⟩
  split
  · rename_i h
    exact ⟨fun h9 => absurd h9 h, fun _ => rfl⟩
  · exact ⟨fun _ => rfl, fun h => absurd rfl h⟩
theorem itm_long {ls : List (List UInt8)} (hb : ls.any isBig = false) : ∀ r ∈ ls.map itm, r.length ≤ 65536 := by
  intro r hr
  obtain ⟨x, hx, rfl⟩ := List.mem_map.1 hr
  have := big_none hb x hx
  unfold itm; rw [List.length_cons]; omega
theorem recs_long {n : Nat} {ls : List (List UInt8)} (hn : n ≤ 4611686018427387903) (hb : ls.any isBig = false) : ∀ r ∈ recsOf n ls, r.length ≤ 65536 := by
  intro r hr
  unfold recsOf at hr
  rcases List.mem_cons.1 hr with rfl | hr
  · have := hdr_len n hn; omega
  · exact itm_long hb r hr
theorem clr_ok {n k : Nat} {j : JrS} {d : DiskS} {jo : Option JrS} (h : Wok n k d jo) (hn : 1 ≤ n) : Wok n (k + 1) (clrS j d).2 none := by
  unfold clrS
  split
  · exact h.drop.more (by omega)
  have h1 := write_len d 0 [0] (by rw [h.len]; simp; omega)
  have h2 := write_pend d 0 [0]
  have h3 := write_in h.inr 0 [0] (by simp; omega) (by omega)
  have hp := h.pend
  split
  · exact ⟨by rw [h1]; exact h.len, by omega, h3, fun j hj => by cases hj⟩
  · have h4 := sync_pend (d.write 0 [0]).2
    exact ⟨by rw [sync_len, h1]; exact h.len, by omega, sync_in h3, fun j hj => by cases hj⟩
theorem ers_ok {n k : Nat} {j : JrS} {d : DiskS} {jo : Option JrS} (h : Wok n k d jo) (hn : 1 ≤ n) : Wok n (k + 2) (ersS j d).2.2 (ersS j d).2.1 := by
  unfold ersS
  split
  · exact (clr_ok h hn).more (by omega)
  · exact (clr_ok (j := j) h hn).open hn
theorem cpt_ok {n k : Nat} {j : JrS} {d : DiskS} (h : Wok n k d (some j)) (hn : 1 ≤ n) (gen : Nat) (hg : gen ≤ 1000000000) (ls : List (List UInt8)) (hb : ls.any isBig = false) : Wok n (k + 3) (cptS j d gen ls).2.2 (some (cptS j d gen ls).2.1) := by
  have h1 := ers_ok (j := j) h hn
  unfold cptS
  cases hx : ersS j d with
  | mk e y =>
    obtain ⟨jo, d'⟩ := y
    rw [hx] at h1
    cases jo with
    | none => exact ⟨h1.len, by have := h1.pend; simp only at *; omega, h1.inr, h.jr⟩
    | some j' => exact h1.append _ (recs_long (by omega) hb)
theorem app_ok {n k : Nat} {j : JrS} {d : DiskS} (h : Wok n k d (some j)) (err : Int) (its ls : List (List UInt8)) : Wok n (k + 1) (appS j d err its ls).2.2.1 (some (appS j d err its ls).2.1) := by
  unfold appS
  split
  · exact h.more (by omega)
  rename_i hb
  split
  · exact h.more (by omega)
  · exact h.append _ (itm_long (by simpa using hb))
theorem app_len {j : JrS} {d : DiskS} (err : Int) (its ls : List (List UInt8)) (h : its.length ≤ j.rs.length) : (appS j d err its ls).2.2.2.length ≤ (appS j d err its ls).2.1.rs.length := by
  have hr := append_rs j d (ls.map itm)
  unfold appS
  split
  · exact h
  split
  · exact h
  · simp only
    split
    · rename_i h0
      rw [hr.1 h0, List.length_append, List.length_append, List.length_map]; omega
    · rename_i h0
      rw [hr.2 h0]; exact h
theorem CoOk.more {n1 n2 k k' : Nat} {c : Core} {da db : DiskS} (h : CoOk n1 n2 k c da db) (hk : k ≤ k') : CoOk n1 n2 k' c da db := ⟨h.wa.more hk, h.wb.more hk, h.g1, h.g2, h.ln⟩
theorem CoOk.app {n1 n2 k : Nat} {c : Core} {da db : DiskS} (h : CoOk n1 n2 k c da db) (ls : List (List UInt8)) : CoOk n1 n2 (k + 1) (c.app da db ls).2.1 (c.app da db ls).2.2.1 (c.app da db ls).2.2.2 := by
  have hl := h.ln
  unfold Core.app
  unfold Core.cur at hl
  split
  · rename_i hs
    rw [if_pos hs] at hl
    exact ⟨h.wa.more (by omega), app_ok h.wb _ _ _, h.g1, h.g2, by unfold Core.cur; simp only [hs, if_true]; exact app_len _ _ _ hl⟩
  · rename_i hs
    rw [if_neg hs] at hl
    exact ⟨app_ok h.wa _ _ _, h.wb.more (by omega), h.g1, h.g2, by unfold Core.cur; simp only [hs]; exact app_len _ _ _ hl⟩
theorem cpt_rs {j : JrS} {d : DiskS} {gen : Nat} {ls : List (List UInt8)} (h : (cptS j d gen ls).1 = 0) (he : ∀ x, ersS j d = x → x.2.1 = none → x.1 ≠ 0) : ls.length ≤ (cptS j d gen ls).2.1.rs.length := by
  revert h
  unfold cptS
  cases hx : ersS j d with
  | mk e y =>
    obtain ⟨jo, d'⟩ := y
    cases jo with
    | none => intro h; exact absurd h (he _ hx rfl)
    | some j' =>
      intro h
      simp only at h ⊢
      rw [(append_rs j' d' _).1 h]
      unfold recsOf
      simp; omega
theorem ers_code (j : JrS) (d : DiskS) : (∃ j', (ersS j d).2.1 = some j' ∧ (ersS j d).1 = 0) ∨ ((ersS j d).2.1 = none ∧ (ersS j d).1 ≠ 0) := by
  unfold ersS
  split
  · rename_i h; exact .inr ⟨rfl, h⟩
  · exact openJ_code _
theorem ers_none {j : JrS} {d : DiskS} : ∀ x, ersS j d = x → x.2.1 = none → x.1 ≠ 0 := by
  rintro x rfl h
  rcases ers_code j d with ⟨j', h1, _⟩ | ⟨_, h2⟩
  · rw [h] at h1; cases h1
  · exact h2
theorem CoOk.cpt {n1 n2 k : Nat} {c : Core} {da db : DiskS} (h : CoOk n1 n2 k c da db) (h1 : 1 ≤ n1) (h2 : 1 ≤ n2) (ls : List (List UInt8)) : CoOk n1 n2 (k + 3) (c.cpt da db ls).2.1 (c.cpt da db ls).2.2.1 (c.cpt da db ls).2.2.2 := by
  have hl := h.ln
  have hg := h.g2
  unfold Core.cpt
  unfold Core.cur at hl
  split
  · exact h.more (by omega)
  rename_i hb
  have hb1 : ls.any isBig = false := by
    cases hq : ls.any isBig with
    | false => rfl
    | true => exact absurd (.inl hq) hb
  have hb2 : c.gen < 1000000000 := by
    rcases Nat.lt_or_ge c.gen 1000000000 with h9 | h9
    · exact h9
    · exact absurd (.inr h9) hb
  split
  · exact h.more (by omega)
  split
  · rename_i hs
    rw [if_pos hs] at hl
    have hw := cpt_ok h.wa h1 c.gen hg ls hb1
    simp only
    split
    · exact ⟨hw, h.wb.more (by omega), h.g1, h.g2, by unfold Core.cur; simp only [hs, if_true]; exact hl⟩
    · rename_i h0
      exact ⟨hw, h.wb.more (by omega), by show 1 ≤ c.gen + 1; omega, by show c.gen + 1 ≤ 1000000000; omega, by unfold Core.cur; simp only [Bool.false_eq_true, if_false]; exact cpt_rs (Classical.not_not.1 h0) ers_none⟩
  · rename_i hs
    rw [if_neg hs] at hl
    have hw := cpt_ok h.wb h2 c.gen hg ls hb1
    simp only
    split
    · exact ⟨h.wa.more (by omega), hw, h.g1, h.g2, by unfold Core.cur; simp only [hs]; exact hl⟩
    · rename_i h0
      exact ⟨h.wa.more (by omega), hw, by show 1 ≤ c.gen + 1; omega, by show c.gen + 1 ≤ 1000000000; omega, by unfold Core.cur; simp only [if_true]; exact cpt_rs (Classical.not_not.1 h0) ers_none⟩
theorem rdL_len {rs : List (List UInt8)} {m : Nat} {l : List (List UInt8)} (h : rdL rs = some (m, l)) : m ≤ 1000000000 ∧ (m = 0 → rs = [] ∧ l = []) ∧ l.length ≤ rs.length := by
  cases rs with
  | nil => simp only [rdL, Option.some.injEq, Prod.mk.injEq] at h; obtain ⟨rfl, rfl⟩ := h; exact ⟨by omega, fun _ => ⟨rfl, rfl⟩, Nat.le_refl _⟩
  | cons r t =>
    rw [rdL_cons] at h
    split at h
    · cases h
    · rename_i n hn
      have h1 := rdH_le hn
      split at h
      · simp only [Option.some.injEq, Prod.mk.injEq] at h
        obtain ⟨rfl, rfl⟩ := h
        have h2 := itm_len t (true, [])
        exact ⟨by omega, fun h0 => by omega, by simp only [List.length_nil, List.length_cons] at *; omega⟩
      · cases h
/-- The world's two disks and their store are in order. -/
structure TwOk (n1 n2 k : Nat) (co : Option Core) (da db : DiskS) : Prop where
  wa : Wok n1 k da none
  wb : Wok n2 k db none
  co : ∀ c, co = some c → CoOk n1 n2 k c da db
theorem CoOk.tw {n1 n2 k : Nat} {c : Core} {da db : DiskS} (h : CoOk n1 n2 k c da db) : TwOk n1 n2 k (some c) da db := ⟨h.wa.drop, h.wb.drop, fun c' hc => by cases hc; exact h⟩
theorem open_ok {n1 n2 k : Nat} {jo1 jo2 : Option JrS} {da db : DiskS} (ha : Wok n1 k da jo1) (hb : Wok n2 k db jo2) (h1 : 1 ≤ n1) (h2 : 1 ≤ n2) : TwOk n1 n2 (k + 2) (openS da db).2.1 (openS da db).2.2.1 (openS da db).2.2.2 := by
  have ga := ha.open h1
  have gb := hb.open h2
  unfold openS
  cases hx : da.openJ with
  | mk e y =>
    obtain ⟨jo, da'⟩ := y
    rw [hx] at ga
    cases jo with
    | none => exact ⟨ga.drop.more (by omega), hb.drop.more (by omega), fun c hc => by cases hc⟩
    | some ja =>
      simp only
      cases hy : db.openJ with
      | mk f z =>
        obtain ⟨ko, db'⟩ := z
        rw [hy] at gb
        simp only at ga gb
        cases ko with
        | none => exact ⟨ga.drop.more (by omega), gb.drop.more (by omega), fun c hc => by cases hc⟩
        | some jb =>
          have none_ok : TwOk n1 n2 (k + 2) none da' db' := ⟨ga.drop.more (by omega), gb.drop.more (by omega), fun c hc => by cases hc⟩
          simp only
          split
          · rename_i m l n o hm hn
            have gm := rdL_len hm
            have gn := rdL_len hn
            split
            · exact none_ok
            split
            · exact CoOk.tw ⟨ga.more (by omega), gb.more (by omega), by show 1 ≤ n; omega, gn.1, gn.2.2⟩
            split
            · have gq := ga.append [hdr 1] (by intro r hr; rw [List.mem_singleton.1 hr]; have := hdr_len 1 (by decide); omega)
              split
              · exact ⟨gq.drop, gb.drop.more (by omega), fun c hc => by cases hc⟩
              · exact CoOk.tw ⟨gq, gb.more (by omega), Nat.le_refl _, by show 1 ≤ 1000000000; decide, by show 0 ≤ _; exact Nat.zero_le _⟩
            · exact CoOk.tw ⟨ga.more (by omega), gb.more (by omega), by show 1 ≤ m; omega, gm.1, gm.2.2⟩
          · exact none_ok

theorem head_at {r : List UInt8} (b : UInt8) (h : ¬ str r = ⟨#[]⟩) : (0 < r.length ∧ 0 < (str r).size) ∧ ((byteAt (str r) 0).toNat = b.toNat ↔ r.head? = some b) := by
  have hl : 0 < r.length := by
    cases r with
    | nil => exact absurd rfl h
    | cons x t => simp
  have hg := byte_get r 0 hl
  rw [str_size]
  refine ⟨⟨hl, hl⟩, ?_⟩
  rw [List.head?_eq_getElem?, hg, Option.some.injEq, ← UInt8.toNat_inj]
theorem head_no {r : List UInt8} (b : UInt8) (h : str r = ⟨#[]⟩) : r.head? ≠ some b := by
  cases r with
  | nil => simp
  | cons x t => exact absurd h (str_ne x t)
theorem int_any {r0 : List UInt8} (h : intV (decI r0 1) = intV (decI r0 1)) : ∃ (n e : Int) (k : Nat), intV (decI r0 1) = .tuple #[.int .i64 n, .int .i64 (k : Int), .int .i64 e] ∧ ((e = 0 ∧ decI r0 1 = some (n, k)) ∨ (e = 10 ∧ decI r0 1 = none)) := by
  cases hd : decI r0 1 with
  | none => exact ⟨0, 10, 0, rfl, .inr ⟨rfl, rfl⟩⟩
  | some p => exact ⟨p.1, 0, p.2, rfl, .inl ⟨rfl, rfl⟩⟩
theorem rdH_val {r0 : List UInt8} {n e : Int} {k : Nat} (hh : r0.head? = some 103) (hd : (e = 0 ∧ decI r0 1 = some (n, k)) ∨ (e = 10 ∧ decI r0 1 = none)) :
    if decide (e = 0 ∧ k = r0.length ∧ 1 ≤ n ∧ n ≤ 1000000000) = true then rdH r0 = some n else rdH r0 = none := by
  unfold rdH
  rw [if_pos hh]
  rcases hd with ⟨rfl, hd⟩ | ⟨rfl, hd⟩
  · rw [hd]
    simp only [true_and, decide_eq_true_eq]
    split <;> rfl
  · rw [hd, if_neg (by simp)]
theorem itm_step (x : Bool × List (List UInt8)) (r : List UInt8) : (x.1 = true → r.head? = some 105 → itmS x r = (true, x.2 ++ [r.tail])) ∧ (¬ (x.1 = true ∧ r.head? = some 105) → itmS x r = (false, x.2)) := by
  unfold itmS
  exact ⟨fun h1 h2 => by rw [if_pos ⟨h1, h2⟩], fun h => by rw [if_neg h]⟩
theorem tail_drop (r : List UInt8) : r.drop 1 = r.tail := by simp

theorem list_bad (j : JrS) (jp dp : Nat) (sj : List Chunk) (r0 : List UInt8) (t : List (List UInt8)) (hJ : JrR j jp dp sj) (hrs : j.rs = r0 :: t) (hh : r0.head? ≠ some 103) :
    Does Tryz.prog 69 #[.agg #[.pointer (some ⟨jp, 0, none⟩), .pointer (some ⟨dp, 0, none⟩)]] [sj] (fun r H' => r = .tuple #[.int .i64 0, .slice none 0 0, .bool false] ∧ H' = [sj]) := by
 have hml : maxLen = 9223372036854775807 := rfl
 have hss := str_size r0
 have hlen := hJ.2.1
 rw [hrs] at hlen
 have hl1 : (r0 :: t).length = t.length + 1 := rfl
 refine spec_enter func69 rfl ntmps69 rfl ?_
 intro u R
 refine Zb [0] ?_
 refine Zq <| Zg <| Ze (w_box Y (cs := #[_, _]) rfl) ?_
 rintro _ _ ⟨hb, rfl, rfl⟩
 refine Za Y <| Za Y <| Za Y <| Z0 <| Zx <| Zq <| Zg <| Zh 0 underlying144 rfl rfl sizeOf30 Y <| Zl isAgg30 Y ?_
 refine Zc [_] Y call39 Y rfl (jr_records j jp dp sj hJ) ?_
 rintro _ _ ⟨_, ⟨sr, hr, rfl⟩, rfl⟩
 rw [hrs] at hr
 obtain ⟨g, cap, cur, z, rfl, rfl, hin⟩ := row_in hr (by rw [List.length_map]; omega)
 obtain ⟨_, _, _, _, he1, he2, hcap, _⟩ := hr.some (by rw [List.length_map]; omega)
 injection he1 with he3 he4 he5
 subst he5
 rw [List.length_map] at hcap ⊢
 have hc0 : cur[0]? = some (.string (str r0)) := by have := cellAt hin (i := 0) (x := r0) rfl; rwa [Nat.zero_add] at this
 refine Za Y <| Z0 <| Zx <| Zq <| Zq <| Zg <| Zm Y <| Zv (p_len_slice underlying43 Y) ?_
 first | refine op_v (p_eql_nat (n := 0) Y Y) ?_ | refine op_v (p_eql Y Y) ?_
 refine Z0 <| Zx ?_
 first | refine at_if Y (fun hz => ?_) (fun hz => ?_) | refine at_if_bool Y (fun hz => ?_) (fun hz => ?_)
 ·
  exfalso; omega
 ·
  refine at_skip <| Zx <| Zq <| Zq <| Zg <| Zm Y ?_
  first | (refine op_v (p_indexAddr_nat0 (j := 0) underlying43 sizeOf9 Y Y ?_) ?_; (focus (first | exact hq.1.2 | omega))) | (refine op_v (p_indexAddr_nat1 (j := 0) underlying43 sizeOf9 Y Y ?_) ?_; (focus (first | exact hq.1.2 | omega)))
  refine Zl isAgg9 Y (hv := by exact hc0) ?_
  refine Zv (p_eql_str Y Y) <| Zm Y ?_
  first | refine ops_split (t := 23) Y rfl (fun hg1 => ?_) (fun hg1 => ?_) | refine ops_split_bool (t := 23) Y rfl (fun hg1 => ?_) (fun hg1 => ?_)
  ·
   refine op_skip Y rfl <| op_skip Y rfl <| op_skip Y rfl <| op_skip Y rfl <| op_skip Y rfl <| Zv (p_pick_t Y Y) <| Z0 <| Zn [5, 29] ?_
   refine Zx <| at_then Y <| Zq <| Zg <| Za Y <| Za Y <| Za Y <| Z0 <| Zx <| at_ret <| Zt ?_
   refine nx_end3 rfl results69 Y Y Y (by exact ⟨rfl, rfl⟩)
  ·
   have hq := head_at 103 hg1
   refine Zf Y Y ?_
   first | (refine op_wg Y (p_indexAddr_nat0 (j := 0) underlying43 sizeOf9 Y Y ?_) rfl rfl ?_; (focus (first | exact hq.1.2 | omega))) | (refine op_wg Y (p_indexAddr_nat1 (j := 0) underlying43 sizeOf9 Y Y ?_) rfl rfl ?_; (focus (first | exact hq.1.2 | omega)))
   refine op_rg Y (by repeat (first | exact Has.here _ | apply Has.there)) (p_load isAgg9 Y (by exact hc0)) rfl rfl ?_
   (refine op_wg Y (p_index_str (j := 0) underlying9 Y Y (byteAt_get _ _ ?_)) rfl rfl ?_; (focus (first | exact hq.1.2 | omega)))
   first | refine op_wg Y (p_neq_nat (n := 103) Y Y) rfl rfl ?_ | refine op_wg Y (p_neq Y Y) rfl rfl ?_
   refine Zv (p_pick_f Y Y) <| Z0 <| Zn [5, 29] ?_
   refine Zx ?_
   first | refine at_if Y (fun hg2 => ?_) (fun hg2 => ?_) | refine at_if_bool Y (fun hg2 => ?_) (fun hg2 => ?_)
   ·
    refine Zq <| Zg <| Za Y <| Za Y <| Za Y <| Z0 <| Zx <| at_ret <| Zt ?_
    refine nx_end3 rfl results69 Y Y Y (by exact ⟨rfl, rfl⟩)
   ·
    exfalso; exact hh (hq.2.1 (Classical.not_not.1 hg2))

theorem list_hdr (j : JrS) (jp dp : Nat) (sj : List Chunk) (r0 : List UInt8) (t : List (List UInt8)) (hJ : JrR j jp dp sj) (hrs : j.rs = r0 :: t) (hh : r0.head? = some 103) (hr0 : r0.length ≤ 65536) :
    Does Tryz.prog 69 #[.agg #[.pointer (some ⟨jp, 0, none⟩), .pointer (some ⟨dp, 0, none⟩)]] [sj] (fun r H' => ∃ (n : Int) (v : Value) (sv : List Chunk) (its : List (List UInt8)) (ok : Bool), r = .tuple #[.int .i64 n, v, .bool ok] ∧ LstR j.rs n its ok ∧ its.length ≤ t.length ∧ Row 9 v (its.map strV) sv ∧ H' = [sj, sv]) := by
 have hml : maxLen = 9223372036854775807 := rfl
 have hss := str_size r0
 have hlen := hJ.2.1
 rw [hrs] at hlen
 have hl1 : (r0 :: t).length = t.length + 1 := rfl
 have hp0 : ¬ str r0 = ⟨#[]⟩ := fun h => head_no 103 h hh
 have hq0 := head_at 103 hp0
 have hint := int_spec r0 1 (by omega) (by omega)
 obtain ⟨n0, e0, k0, hi0, hd0⟩ := int_any (r0 := r0) rfl
 rw [hi0] at hint
 have hk0 : e0 = 0 → k0 ≤ r0.length := by
   intro h
   rcases hd0 with ⟨_, h9⟩ | ⟨h9, _⟩
   · have := decI_at h9; omega
   · omega
 refine spec_enter func69 rfl ntmps69 rfl ?_
 intro u R
 refine Zb [0] ?_
 refine Zq <| Zg <| Ze (w_box Y (cs := #[_, _]) rfl) ?_
 rintro _ _ ⟨hb, rfl, rfl⟩
 refine Za Y <| Za Y <| Za Y <| Z0 <| Zx <| Zq <| Zg <| Zh 0 underlying144 rfl rfl sizeOf30 Y <| Zl isAgg30 Y ?_
 refine Zc [_] Y call39 Y rfl (jr_records j jp dp sj hJ) ?_
 rintro _ _ ⟨_, ⟨sr, hr, rfl⟩, rfl⟩
 rw [hrs] at hr
 obtain ⟨g, cap, cur, z, rfl, rfl, hin⟩ := row_in hr (by rw [List.length_map]; omega)
 obtain ⟨_, _, _, _, he1, he2, hcap, _⟩ := hr.some (by rw [List.length_map]; omega)
 injection he1 with he3 he4 he5
 subst he5
 rw [List.length_map] at hcap ⊢
 have hc0 : cur[0]? = some (.string (str r0)) := by have := cellAt hin (i := 0) (x := r0) rfl; rwa [Nat.zero_add] at this
 refine Za Y <| Z0 <| Zx <| Zq <| Zq <| Zg <| Zm Y <| Zv (p_len_slice underlying43 Y) ?_
 first | refine op_v (p_eql_nat (n := 0) Y Y) ?_ | refine op_v (p_eql Y Y) ?_
 refine Z0 <| Zx ?_
 first | refine at_if Y (fun hz => ?_) (fun hz => ?_) | refine at_if_bool Y (fun hz => ?_) (fun hz => ?_)
 ·
  exfalso; omega
 ·
  refine at_skip <| Zx <| Zq <| Zq <| Zg <| Zm Y ?_
  first | (refine op_v (p_indexAddr_nat0 (j := 0) underlying43 sizeOf9 Y Y ?_) ?_; (focus (first | exact hq0.1.2 | omega))) | (refine op_v (p_indexAddr_nat1 (j := 0) underlying43 sizeOf9 Y Y ?_) ?_; (focus (first | exact hq0.1.2 | omega)))
  refine Zl isAgg9 Y (hv := by exact hc0) ?_
  refine Zv (p_eql_str Y Y) <| Zm Y ?_
  first | refine ops_split (t := 23) Y rfl (fun hg1 => ?_) (fun hg1 => ?_) | refine ops_split_bool (t := 23) Y rfl (fun hg1 => ?_) (fun hg1 => ?_)
  ·
   exact absurd hg1 hp0
  ·
   refine Zf Y Y ?_
   first | (refine op_wg Y (p_indexAddr_nat0 (j := 0) underlying43 sizeOf9 Y Y ?_) rfl rfl ?_; (focus (first | exact hq0.1.2 | omega))) | (refine op_wg Y (p_indexAddr_nat1 (j := 0) underlying43 sizeOf9 Y Y ?_) rfl rfl ?_; (focus (first | exact hq0.1.2 | omega)))
   refine op_rg Y (by repeat (first | exact Has.here _ | apply Has.there)) (p_load isAgg9 Y (by exact hc0)) rfl rfl ?_
   (refine op_wg Y (p_index_str (j := 0) underlying9 Y Y (byteAt_get _ _ ?_)) rfl rfl ?_; (focus (first | exact hq0.1.2 | omega)))
   first | refine op_wg Y (p_neq_nat (n := 103) Y Y) rfl rfl ?_ | refine op_wg Y (p_neq Y Y) rfl rfl ?_
   refine Zv (p_pick_f Y Y) <| Z0 <| Zn [5, 29] ?_
   refine Zx ?_
   first | refine at_if Y (fun hg2 => ?_) (fun hg2 => ?_) | refine at_if_bool Y (fun hg2 => ?_) (fun hg2 => ?_)
   ·
    exact absurd (hq0.2.2 hh) hg2
   ·
    refine at_skip <| Zx <| Zq <| Zg <| Zm Y ?_
    first | (refine op_v (p_indexAddr_nat0 (j := 0) underlying43 sizeOf9 Y Y ?_) ?_; (focus (omega))) | (refine op_v (p_indexAddr_nat1 (j := 0) underlying43 sizeOf9 Y Y ?_) ?_; (focus (omega)))
    refine Zl isAgg9 Y (hv := by exact hc0) ?_
    refine Zr [_, _] Y call120 Y rfl (hint) ?_
    rintro _ _ ⟨rfl, rfl⟩
    refine Zm Y <| Zd Y rfl <| Zd Y rfl <| Zd Y rfl <| Za Y <| Za Y <| Za Y <| Z0 <| Zx <| Zb [7, 8, 5, 6] ?_
    refine at_cutB (e0 := [(7, _), (8, _)]) (H0 := [[(g, .cells cur 9 z)]]) (fun e H => ∃ (b : Bool), (if b = true then rdH r0 = some n0 else rdH r0 = none) ∧ e = [(9, .bool b)] ∧ H = [[(g, .cells cur 9 z)]]) (by repeat (first | exact Pull.nil _ | (apply Pull.cons; (focus (repeat (first | exact One.here _ _ | apply One.there)))))) ?hx_1 ?hy_1
    case hx_1 =>
     refine Zg <| Zm Y ?_
     first | refine op_v (p_eql_nat (n := 0) Y Y) ?_ | refine op_v (p_eql Y Y) ?_
     refine Zm Y ?_
     first | refine ops_split (t := 40) Y rfl (fun hk => ?_) (fun hk => ?_) | refine ops_split_bool (t := 40) Y rfl (fun hk => ?_) (fun hk => ?_)
     ·
      refine Zf Y Y <| Zf Y Y ?_
      first | (refine op_wg Y (p_indexAddr_nat0 (j := 0) underlying43 sizeOf9 Y Y ?_) rfl rfl ?_; (focus (omega))) | (refine op_wg Y (p_indexAddr_nat1 (j := 0) underlying43 sizeOf9 Y Y ?_) rfl rfl ?_; (focus (omega)))
      refine op_rg Y (by repeat (first | exact Has.here _ | apply Has.there)) (p_load isAgg9 Y (by exact hc0)) rfl rfl ?_
      refine op_wg Y (p_len_str underlying9 Y) rfl rfl ?_
      first | refine op_wg Y (p_eql_nat Y Y) rfl rfl ?_ | refine op_wg Y (p_eql Y Y) rfl rfl ?_
      refine Zv (p_pick_t Y Y) <| Zm Y ?_
      first | refine ops_split (t := 48) Y rfl (fun hk => ?_) (fun hk => ?_) | refine ops_split_bool (t := 48) Y rfl (fun hk => ?_) (fun hk => ?_)
      ·
       refine Zf Y Y ?_
       first | refine op_wg Y (p_geq_nat (n := 1) Y Y) rfl rfl ?_ | refine op_wg Y (p_geq Y Y) rfl rfl ?_
       refine Zv (p_pick_t Y Y) <| Zm Y ?_
       first | refine ops_split (t := 52) Y rfl (fun hk => ?_) (fun hk => ?_) | refine ops_split_bool (t := 52) Y rfl (fun hk => ?_) (fun hk => ?_)
       ·
        refine Zf Y Y ?_
        first | refine op_wg Y (p_leq_nat (n := 1000000000) Y Y) rfl rfl ?_ | refine op_wg Y (p_leq Y Y) rfl rfl ?_
        refine Zv (p_pick_t Y Y) <| Za Y <| Z0 <| Zn [9, 5, 6] ?_
        refine nx_cutB (e' := [(9, _)]) (H' := _) (by exact ⟨decide (e0 = 0 ∧ k0 = r0.length ∧ 1 ≤ n0 ∧ n0 ≤ 1000000000), rdH_val hh hd0, (by first | rw [decide_eq_false (p := e0 = 0 ∧ k0 = r0.length ∧ 1 ≤ n0 ∧ n0 ≤ 1000000000) (by omega)] | rw [show decide (e0 = 0 ∧ k0 = r0.length ∧ 1 ≤ n0 ∧ n0 ≤ 1000000000) = decide (n0 ≤ 1000000000) from decide_eq_decide.2 (by omega)]), rfl⟩)
       ·
        refine op_skip Y rfl <| op_skip Y rfl <| Zv (p_pick_f Y Y) <| Za Y <| Z0 <| Zn [9, 5, 6] ?_
        refine nx_cutB (e' := [(9, _)]) (H' := _) (by exact ⟨decide (e0 = 0 ∧ k0 = r0.length ∧ 1 ≤ n0 ∧ n0 ≤ 1000000000), rdH_val hh hd0, (by first | rw [decide_eq_false (p := e0 = 0 ∧ k0 = r0.length ∧ 1 ≤ n0 ∧ n0 ≤ 1000000000) (by omega)] | rw [show decide (e0 = 0 ∧ k0 = r0.length ∧ 1 ≤ n0 ∧ n0 ≤ 1000000000) = decide (n0 ≤ 1000000000) from decide_eq_decide.2 (by omega)]), rfl⟩)
      ·
       refine op_skip Y rfl <| op_skip Y rfl <| Zv (p_pick_f Y Y) <| Zm Y <| op_skip Y rfl <| op_skip Y rfl <| Zv (p_pick_f Y Y) <| Za Y <| Z0 <| Zn [9, 5, 6] ?_
       refine nx_cutB (e' := [(9, _)]) (H' := _) (by exact ⟨decide (e0 = 0 ∧ k0 = r0.length ∧ 1 ≤ n0 ∧ n0 ≤ 1000000000), rdH_val hh hd0, (by first | rw [decide_eq_false (p := e0 = 0 ∧ k0 = r0.length ∧ 1 ≤ n0 ∧ n0 ≤ 1000000000) (by omega)] | rw [show decide (e0 = 0 ∧ k0 = r0.length ∧ 1 ≤ n0 ∧ n0 ≤ 1000000000) = decide (n0 ≤ 1000000000) from decide_eq_decide.2 (by omega)]), rfl⟩)
     ·
      refine op_skip Y rfl <| op_skip Y rfl <| op_skip Y rfl <| op_skip Y rfl <| op_skip Y rfl <| op_skip Y rfl <| Zv (p_pick_f Y Y) <| Zm Y <| op_skip Y rfl <| op_skip Y rfl <| Zv (p_pick_f Y Y) <| Zm Y <| op_skip Y rfl <| op_skip Y rfl <| Zv (p_pick_f Y Y) <| Za Y <| Z0 <| Zn [9, 5, 6] ?_
      refine nx_cutB (e' := [(9, _)]) (H' := _) (by exact ⟨decide (e0 = 0 ∧ k0 = r0.length ∧ 1 ≤ n0 ∧ n0 ≤ 1000000000), rdH_val hh hd0, (by first | rw [decide_eq_false (p := e0 = 0 ∧ k0 = r0.length ∧ 1 ≤ n0 ∧ n0 ≤ 1000000000) (by omega)] | rw [show decide (e0 = 0 ∧ k0 = r0.length ∧ 1 ≤ n0 ∧ n0 ≤ 1000000000) = decide (n0 ≤ 1000000000) from decide_eq_decide.2 (by omega)]), rfl⟩)
    case hy_1 =>
     rintro _ _ ⟨b, hb1, rfl, rfl⟩
     refine Zq <| Zg <| Za Y <| Z0 <| Zx <| Zq <| Zq <| Zg <| Zm Y ?_
     (refine op_v (p_slice_slice_from (l := 1) underlying43 sizeOf9 Y Y ?_) ?_; (focus (omega)))
     refine Zv (p_len_slice underlying43 Y) <| Zm Y <| Z0 <| Zx <| at_block <| at_nil ?_
     refine Zb [9, 10, 59, 6, 57, 58] ?_
     refine at_loopB (e0 := [(9, _), (10, _), (59, _)]) (H0 := _) (n := _) (fun m e H => ∃ (i : Nat) (x : Bool × List (List UInt8)) (v : Value) (sv : List Chunk), m = t.length - i ∧ (i ≤ t.length ∧ x = (t.take i).foldl itmS (b, []) ∧ Row 9 v (x.2.map strV) sv) ∧ e = [(9, .bool x.1), (10, v), (59, .int .i64 (i : Int))] ∧ H = [sv]) (by exact ⟨0, (b, []), _, [], rfl, ⟨Nat.zero_le _, rfl, row_nil _⟩, rfl, rfl⟩) (by repeat (first | exact Pull.nil _ | (apply Pull.cons; (focus (repeat (first | exact One.here _ _ | apply One.there)))))) ?_
     rintro _ _ _ ⟨i, x, v, sv, rfl, ⟨hi, hx, hrv⟩, rfl, rfl⟩
     obtain ⟨gv, cv, rfl⟩ := hrv.form
     have htl : x.2.length ≤ i := by
       have h9 := itm_len (t.take i) (b, [])
       rw [← hx, List.length_take] at h9
       simp only [List.length_nil] at h9
       omega
     refine Zq <| Zg ?_
     first | refine op_v (p_lss_nat Y Y) ?_ | refine op_v (p_lss Y Y) ?_
     refine Z0 <| Zx <| Zq ?_
     first | refine at_if Y (fun hlt => ?_) (fun hlt => ?_) | refine at_if_bool Y (fun hlt => ?_) (fun hlt => ?_)
     ·
      refine at_skip <| Zx <| Zq <| at_block <| Zq ?_
      obtain ⟨y, hy⟩ : ∃ y, t[i]? = some y := ⟨_, List.getElem?_eq_getElem (by omega)⟩
      have hcx : cur[0 + 1 + i]? = some (.string (str y)) := by
        have := cellAt hin (i := i + 1) (x := y) (by rw [List.getElem?_cons_succ]; exact hy)
        rw [show 0 + 1 + i = 0 + (i + 1) by omega]; exact this
      have hsx := str_size y
      rw [cut_one g cap (by omega)]
      refine Zg ?_
      first | (refine op_v (p_indexAddr_nat0 underlying43 sizeOf9 Y Y ?_) ?_; (focus (omega))) | (refine op_v (p_indexAddr_nat1 underlying43 sizeOf9 Y Y ?_) ?_; (focus (omega)))
      refine Zl isAgg9 Y (hv := by first | exact hcx | (rw [Nat.mul_one]; exact hcx)) ?_
      refine Za Y <| Z0 <| Zx <| Zq <| Zg <| Zm Y <| Zm Y ?_
      refine ops_split_bool (t := 64) Y rfl (fun hm1 => ?_) (fun hm1 => ?_)
      ·
       refine Zf Y Y <| op_wg Y (p_neq_str Y Y) rfl rfl ?_
       refine Zv (p_pick_t Y Y) <| Zm Y ?_
       first | refine ops_split (t := 68) Y rfl (fun hm2 => ?_) (fun hm2 => ?_) | refine ops_split_bool (t := 68) Y rfl (fun hm2 => ?_) (fun hm2 => ?_)
       ·
        have hq := head_at 105 hm2
        refine Zf Y Y ?_
        (refine op_wg Y (p_index_str (j := 0) underlying9 Y Y (byteAt_get _ _ ?_)) rfl rfl ?_; (focus (exact hq.1.2)))
        first | refine op_wg Y (p_eql_nat (n := 105) Y Y) rfl rfl ?_ | refine op_wg Y (p_eql Y Y) rfl rfl ?_
        refine Zv (p_pick_t Y Y) <| Za Y <| Z0 <| Zn [6, 9, 10, 12, 57, 58, 59] ?_
        refine Zx <| Zq <| Zg <| Zm Y <| Z0 <| Zx ?_
        first | refine at_if Y (fun hb9 => ?_) (fun hb9 => ?_) | refine at_if_bool Y (fun hb9 => ?_) (fun hb9 => ?_)
        ·
         refine Zg <| Zm Y <| Zm Y <| op_w (p_slice_drop underlying9 (k := 1) Y Y (by omega)) rfl rfl ?_
         rw [tail_drop]
         refine Ze (w_buildSlice (vs := [_]) (cs := [_]) underlying43 sizeOf9 zeroValue9 Y rfl rfl rfl rfl rfl) ?_
         rintro _ _ ⟨b2, rfl, rfl⟩
         refine Ze (w_append (by_ := 16) (news := [_]) underlying43 (rfl : Tryz.prog.info? 9 = some Tryz.t9) rfl rfl rfl rfl Y hrv Y (by repeat (first | exact One.here _ _ | apply One.there)) (by repeat (first | exact Has.here _ | apply Has.there)) (by rfl) rfl (by simp [Value.oneCell']) (by decide) (by (simp only [List.length_map]; omega)) (by (simp only [List.length_map]; omega))) ?_
         rintro _ _ ⟨sq, hrq, rfl⟩
         obtain ⟨gq, cq, rfl⟩ := hrq.form
         refine Za Y <| Z0 <| nx_block_normal <| Zx <| Zg ?_
         first | (refine op_v (p_add_nat (n := 1) Y Y ?_) ?_; (focus (omega))) | (refine op_v (p_add Y Y (IntWalk.i64_in _ ?_)) ?_; (focus (omega)))
         refine Zm Y <| Z0 <| Zn [9, 10, 59, 6, 57, 58] ?_
         refine nx_againB (e' := [(9, _), (10, _), (59, _)]) (m := _) (H' := _) (by first | exact ⟨i + 1, (true, x.2 ++ [y.tail]), _, _, rfl, ⟨by omega, by rw [itm_next t i y hy, ← hx, (itm_step x y).1 hm1 (hq.2.1 hb9)], by rw [List.map_append]; exact hrq⟩, by rw [decide_eq_true hb9], rfl⟩ | exact ⟨i + 1, (false, x.2), _, _, rfl, ⟨by omega, by rw [itm_next t i y hy, ← hx, (itm_step x y).2 (by rintro ⟨h1, h2⟩; first | exact Bool.noConfusion (hm1.symm.trans h1) | exact hb9 (hq.2.2 h2) | exact head_no 105 (Classical.not_not.1 hm2) h2)], hrv⟩, by first | rfl | rw [decide_eq_false hb9], rfl⟩ )
        ·
         refine at_skip <| nx_block_normal <| Zx <| Zg ?_
         first | (refine op_v (p_add_nat (n := 1) Y Y ?_) ?_; (focus (omega))) | (refine op_v (p_add Y Y (IntWalk.i64_in _ ?_)) ?_; (focus (omega)))
         refine Zm Y <| Z0 <| Zn [9, 10, 59, 6, 57, 58] ?_
         refine nx_againB (e' := [(9, _), (10, _), (59, _)]) (m := _) (H' := _) (by first | exact ⟨i + 1, (true, x.2 ++ [y.tail]), _, _, rfl, ⟨by omega, by rw [itm_next t i y hy, ← hx, (itm_step x y).1 hm1 (hq.2.1 hb9)], by rw [List.map_append]; exact hrq⟩, by rw [decide_eq_true hb9], rfl⟩ | exact ⟨i + 1, (false, x.2), _, _, rfl, ⟨by omega, by rw [itm_next t i y hy, ← hx, (itm_step x y).2 (by rintro ⟨h1, h2⟩; first | exact Bool.noConfusion (hm1.symm.trans h1) | exact hb9 (hq.2.2 h2) | exact head_no 105 (Classical.not_not.1 hm2) h2)], hrv⟩, by first | rfl | rw [decide_eq_false hb9], rfl⟩ )
       ·
        refine op_skip Y rfl <| op_skip Y rfl <| op_skip Y rfl <| Zv (p_pick_f Y Y) <| Za Y <| Z0 <| Zn [6, 9, 10, 12, 57, 58, 59] ?_
        refine Zx <| Zq <| Zg <| Zm Y <| Z0 <| Zx <| at_else Y <| at_skip <| nx_block_normal <| Zx <| Zg ?_
        first | (refine op_v (p_add_nat (n := 1) Y Y ?_) ?_; (focus (omega))) | (refine op_v (p_add Y Y (IntWalk.i64_in _ ?_)) ?_; (focus (omega)))
        refine Zm Y <| Z0 <| Zn [9, 10, 59, 6, 57, 58] ?_
        refine nx_againB (e' := [(9, _), (10, _), (59, _)]) (m := _) (H' := _) (by first | exact ⟨i + 1, (true, x.2 ++ [y.tail]), _, _, rfl, ⟨by omega, by rw [itm_next t i y hy, ← hx, (itm_step x y).1 hm1 (hq.2.1 hb9)], by rw [List.map_append]; exact hrq⟩, by rw [decide_eq_true hb9], rfl⟩ | exact ⟨i + 1, (false, x.2), _, _, rfl, ⟨by omega, by rw [itm_next t i y hy, ← hx, (itm_step x y).2 (by rintro ⟨h1, h2⟩; first | exact Bool.noConfusion (hm1.symm.trans h1) | exact hb9 (hq.2.2 h2) | exact head_no 105 (Classical.not_not.1 hm2) h2)], hrv⟩, by first | rfl | rw [decide_eq_false hb9], rfl⟩ )
      ·
       refine op_skip Y rfl <| op_skip Y rfl <| Zv (p_pick_f Y Y) <| Zm Y <| op_skip Y rfl <| op_skip Y rfl <| op_skip Y rfl <| Zv (p_pick_f Y Y) <| Za Y <| Z0 <| Zn [6, 9, 10, 12, 57, 58, 59] ?_
       refine Zx <| Zq <| Zg <| Zm Y <| Z0 <| Zx <| at_else Y <| at_skip <| nx_block_normal <| Zx <| Zg ?_
       first | (refine op_v (p_add_nat (n := 1) Y Y ?_) ?_; (focus (omega))) | (refine op_v (p_add Y Y (IntWalk.i64_in _ ?_)) ?_; (focus (omega)))
       refine Zm Y <| Z0 <| Zn [9, 10, 59, 6, 57, 58] ?_
       refine nx_againB (e' := [(9, _), (10, _), (59, _)]) (m := _) (H' := _) (by first | exact ⟨i + 1, (true, x.2 ++ [y.tail]), _, _, rfl, ⟨by omega, by rw [itm_next t i y hy, ← hx, (itm_step x y).1 hm1 (hq.2.1 hb9)], by rw [List.map_append]; exact hrq⟩, by rw [decide_eq_true hb9], rfl⟩ | exact ⟨i + 1, (false, x.2), _, _, rfl, ⟨by omega, by rw [itm_next t i y hy, ← hx, (itm_step x y).2 (by rintro ⟨h1, h2⟩; first | exact Bool.noConfusion (hm1.symm.trans h1) | exact hb9 (hq.2.2 h2) | exact head_no 105 (Classical.not_not.1 hm2) h2)], hrv⟩, by first | rfl | rw [decide_eq_false hb9], rfl⟩ )
     ·
      have ei : i = t.length := by omega
      subst ei
      rw [List.take_length] at hx
      refine at_exit <| Zt <| Zt <| nx_block_exit <| Zx <| Zq <| Zg <| Zm Y <| Zm Y <| Zm Y <| Za Y <| Za Y <| Za Y <| Z0 <| Zx <| at_ret ?_
      refine nx_end3 rfl results69 Y Y Y (by exact ⟨n0, _, _, x.2, x.1, rfl, by rw [hrs, hx]; exact LstR.cons b hb1, by omega, hrv, rfl⟩)

theorem decS_short {s : List UInt8} {a : Nat} {r : List UInt8} {k : Nat} (h : decS s a = some (r, k)) : r.length ≤ 65536 := by
  unfold decS at h
  split at h
  · cases h
  · split at h
    · cases h
    · injection h with h
      injection h with h1 h2
      rw [← h1, List.length_take]; omega
theorem load_short {s : List UInt8} : ∀ (f : Nat) (rs : List (List UInt8)) (h : List UInt8) (sz : Nat) (rs' : List (List UInt8)) (h' : List UInt8) (sz' : Nat), loadL s f rs h sz = some (rs', h', sz') → (∀ r ∈ rs, r.length ≤ 65536) → ∀ r ∈ rs', r.length ≤ 65536
  | 0, rs, h, sz, rs', h', sz', hl, hz => by
    simp only [loadL, Option.some.injEq, Prod.mk.injEq] at hl
    obtain ⟨rfl, _, rfl⟩ := hl; exact hz
  | f + 1, rs, h, sz, rs', h', sz', hl, hz => by
    rw [loadL] at hl
    split at hl
    · simp only [Option.some.injEq, Prod.mk.injEq] at hl; obtain ⟨rfl, _, rfl⟩ := hl; exact hz
    · split at hl
      · simp only [Option.some.injEq, Prod.mk.injEq] at hl; obtain ⟨rfl, _, rfl⟩ := hl; exact hz
      · split at hl
        · split at hl
          · cases hl
          · split at hl
            · rename_i r k hd hc
              refine load_short f _ _ _ rs' h' sz' hl (fun x hx => ?_)
              rcases List.mem_append.1 hx with hx | hx
              · exact hz x hx
              · rw [List.mem_singleton.1 hx]; exact decS_short hd
            · cases hl
        · cases hl
theorem openJ_short {d : DiskS} {j : JrS} (h : d.openJ.2.1 = some j) : ∀ r ∈ j.rs, r.length ≤ 65536 := by
  revert h
  unfold DiskS.openJ
  split
  · intro h; cases h
  · split
    · intro h; cases h
    · rename_i rs hh sz hl
      have hs := load_short _ _ _ _ _ _ _ hl (by simp)
      split
      · intro h; cases h; exact hs
      · split
        · intro h; cases h; exact hs
        · intro h; cases h
theorem LstR.t {rs : List (List UInt8)} {n : Int} {its : List (List UInt8)} (h : LstR rs n its true) : ∃ k : Nat, n = (k : Int) ∧ rdL rs = some (k, its) := by
  unfold LstR at h
  split at h
  · cases h
  · rename_i m l hm
    obtain ⟨_, rfl, rfl⟩ := h
    exact ⟨m, rfl, hm⟩
theorem LstR.f {rs : List (List UInt8)} {n : Int} {its : List (List UInt8)} (h : LstR rs n its false) : rdL rs = none := by
  unfold LstR at h
  split at h
  · assumption
  · cases h.1
theorem list_gen (j : JrS) (jp dp : Nat) (sj : List Chunk) (hJ : JrR j jp dp sj) (hs : ∀ r ∈ j.rs, r.length ≤ 65536) :
    Does Tryz.prog 69 #[.agg #[.pointer (some ⟨jp, 0, none⟩), .pointer (some ⟨dp, 0, none⟩)]] [sj] (fun r H' => ∃ (n : Int) (v : Value) (sv : List Chunk) (its : List (List UInt8)) (ok : Bool), r = .tuple #[.int .i64 n, v, .bool ok] ∧ LstR j.rs n its ok ∧ its.length ≤ j.rs.length ∧ Row 9 v (its.map strV) sv ∧ H' = [sj, sv]) := by
  cases hrs : j.rs with
  | nil =>
    refine does_mono (list_nil j jp dp sj hJ hrs) ?_
    rintro r _ ⟨rfl, rfl⟩
    exact ⟨_, ⟨0, _, [], [], true, rfl, ⟨rfl, rfl, rfl⟩, Nat.le_refl _, row_nil _, rfl⟩, by simp⟩
  | cons r0 t =>
    by_cases hh : r0.head? = some 103
    · refine does_mono (list_hdr j jp dp sj r0 t hJ hrs hh (hs r0 (by rw [hrs]; simp))) ?_
      rintro r _ ⟨n, v, sv, its, ok, rfl, h1, h2, h3, rfl⟩
      exact ⟨_, ⟨n, v, sv, its, ok, rfl, by rw [← hrs]; exact h1, by rw [List.length_cons]; omega, h3, rfl⟩, rfl⟩
    · refine does_mono (list_bad j jp dp sj r0 t hJ hrs hh) ?_
      rintro r _ ⟨rfl, rfl⟩
      refine ⟨_, ⟨0, _, [], [], false, rfl, ?_, Nat.zero_le _, row_nil _, rfl⟩, by simp⟩
      unfold LstR
      rw [rdL_cons]
      unfold rdH
      rw [if_neg hh]
theorem JoP.ptr {jo : Option JrS} {dp : Nat} {v : Value} {s : List Chunk} (h : JoP jo dp v s) : ∃ q, v = .pointer q := by
  cases jo with
  | none => exact ⟨_, h.1⟩
  | some j => obtain ⟨jp, h, _⟩ := h; exact ⟨_, h⟩

theorem opened_any (d : DiskS) (dp : Nat) (sd : List Chunk) (pa : Addr) (Tx Tg : TypeId) (zx zg : Nat × Nat) (hR : DiskR d dp sd) (hk : d.pend.length ≤ 999990) :
    Does Tryz.prog 68 #[.pointer (some ⟨dp, 0, none⟩)] [sd, [(4, .cells (kTab.map u32v).toArray Tg zg)], [(0, .cells #[.iface 299 (.pointer (some pa))] Tx zx)]] (fun r H' => ∃ q sj sd', JoP d.openJ.2.1 dp (.pointer q) sj ∧ DiskR d.openJ.2.2 dp sd' ∧ r = .tuple #[.agg #[.pointer q, .pointer (some ⟨dp, 0, none⟩)], .int .i64 d.openJ.1] ∧ H' = [sj, sd', [(4, .cells (kTab.map u32v).toArray Tg zg)], [(0, .cells #[.iface 299 (.pointer (some pa))] Tx zx)]]) := by
 refine spec_enter func68 rfl ntmps68 rfl ?_
 intro u R
 refine Zb [0] ?_
 refine Zq <| Zg <| Ze (w_alloc zeroValue144 (cs := #[_, _]) rfl) ?_
 rintro _ _ ⟨ba, rfl, rfl⟩
 refine Za Y <| Z0 <| Zx <| Zq <| Zg <| Zm Y <| Zc [_] Y call10 Y rfl (popen_any d dp sd pa Tx Tg zx zg hR hk) ?_
 rintro _ _ ⟨_, ⟨v1, sj, sd2, hJ, hR2, rfl, rfl⟩, rfl⟩
 obtain ⟨q, rfl⟩ := hJ.ptr
 refine Zm Y <| Zd Y rfl <| Zd Y rfl <| Za Y <| Za Y <| Z0 <| Zx <| Zq <| Zg <| Zm Y <| Zm Y <| Zv (p_build (vs := [(0, _), (1, _)]) (cs := #[_, _]) Y (run_build_struct (pl := #[(0, 1), (1, 1)]) zeroValue144 underlying144 (fun _ => by kernel_rfl) rfl)) ?_
 refine Zm Y <| Ze (w_store_agg sizeOf144 Y Y (by first | (simp [Value.oneCell']; done) | (simp [Value.oneCell', Value.cells]; done)) (by repeat (first | exact Upd.here _ | apply Upd.there)) (by rfl) (by first | rfl | (simp; done)) (by first | decide | exact Nat.le_refl _ | (simp; done) | (simp; omega)) (by exact free_zero _)) ?_
 rintro _ _ ⟨rfl, rfl⟩
 refine Za Y <| Z0 <| Zn [2, 3] ?_
 refine Zx <| at_ret ?_
 refine nx_endct rfl results68 Y (by repeat (first | exact Has.here _ | apply Has.there)) (loadVar_agg isAgg144 sizeOf144 (by first | decide | exact Nat.le_refl _ | (simp; done) | (simp; omega)) (rfl)) Y (by exact ⟨q, sj, sd2, hJ, hR2, rfl, rfl⟩)

theorem ers_nil {j : JrS} {d : DiskS} (h : j.rs = []) : ersS j d = d.openJ := by
  unfold ersS clrS
  rw [if_pos h, if_neg (by simp)]
theorem ers_w {j : JrS} {d : DiskS} (h : j.rs ≠ []) (h1 : (d.write 0 [0]).1 ≠ 0) : ersS j d = ((d.write 0 [0]).1, none, (d.write 0 [0]).2) := by
  unfold ersS clrS
  rw [if_neg h, if_pos h1, if_pos h1]
theorem ers_s {j : JrS} {d : DiskS} (h : j.rs ≠ []) (h1 : ¬ (d.write 0 [0]).1 ≠ 0) (h2 : (d.write 0 [0]).2.sync.1 ≠ 0) : ersS j d = ((d.write 0 [0]).2.sync.1, none, (d.write 0 [0]).2.sync.2) := by
  unfold ersS clrS
  rw [if_neg h, if_neg h1, if_pos h2]
theorem ers_o {j : JrS} {d : DiskS} (h : j.rs ≠ []) (h1 : ¬ (d.write 0 [0]).1 ≠ 0) (h2 : ¬ (d.write 0 [0]).2.sync.1 ≠ 0) : ersS j d = (d.write 0 [0]).2.sync.2.openJ := by
  unfold ersS clrS
  rw [if_neg h, if_neg h1, if_neg h2]

theorem openS_a {da db : DiskS} (h : da.openJ.2.1 = none) : openS da db = (da.openJ.1, none, da.openJ.2.2, db) := by
  unfold openS
  revert h
  cases da.openJ with
  | mk e y =>
    obtain ⟨jo, d'⟩ := y
    rintro rfl
    rfl
theorem openS_ab {da db : DiskS} {ja : JrS} (h : da.openJ.2.1 = some ja) : openS da db =
    match db.openJ with
    | (f, none, db') => (f, none, da.openJ.2.2, db')
    | (_, some jb, db') =>
      match rdL ja.rs, rdL jb.rs with
      | some (m, l), some (n, o) =>
        if m = n ∧ 0 < m then (240, none, da.openJ.2.2, db') else
        if m < n then (0, some ⟨ja, jb, true, n, o, 0⟩, da.openJ.2.2, db') else
        if m = 0 then
          if (ja.append da.openJ.2.2 [hdr 1]).1 ≠ 0 then ((ja.append da.openJ.2.2 [hdr 1]).1, none, (ja.append da.openJ.2.2 [hdr 1]).2.2, db')
          else (0, some ⟨(ja.append da.openJ.2.2 [hdr 1]).2.1, jb, false, 1, [], 0⟩, (ja.append da.openJ.2.2 [hdr 1]).2.2, db')
        else (0, some ⟨ja, jb, false, m, l, 0⟩, da.openJ.2.2, db')
      | _, _ => (240, none, da.openJ.2.2, db') := by
  revert h
  unfold openS
  cases da.openJ with
  | mk e y =>
    obtain ⟨jo, d'⟩ := y
    rintro rfl
    rfl
theorem openS_b {da db : DiskS} {ja : JrS} (h : da.openJ.2.1 = some ja) (h2 : db.openJ.2.1 = none) : openS da db = (db.openJ.1, none, da.openJ.2.2, db.openJ.2.2) := by
  rw [openS_ab h]
  revert h2
  cases db.openJ with
  | mk e y =>
    obtain ⟨jo, d'⟩ := y
    rintro rfl
    rfl
theorem openS_c {da db : DiskS} {ja jb : JrS} (h : da.openJ.2.1 = some ja) (h2 : db.openJ.2.1 = some jb) : openS da db =
      match rdL ja.rs, rdL jb.rs with
      | some (m, l), some (n, o) =>
        if m = n ∧ 0 < m then (240, none, da.openJ.2.2, db.openJ.2.2) else
        if m < n then (0, some ⟨ja, jb, true, n, o, 0⟩, da.openJ.2.2, db.openJ.2.2) else
        if m = 0 then
          if (ja.append da.openJ.2.2 [hdr 1]).1 ≠ 0 then ((ja.append da.openJ.2.2 [hdr 1]).1, none, (ja.append da.openJ.2.2 [hdr 1]).2.2, db.openJ.2.2)
          else (0, some ⟨(ja.append da.openJ.2.2 [hdr 1]).2.1, jb, false, 1, [], 0⟩, (ja.append da.openJ.2.2 [hdr 1]).2.2, db.openJ.2.2)
        else (0, some ⟨ja, jb, false, m, l, 0⟩, da.openJ.2.2, db.openJ.2.2)
      | _, _ => (240, none, da.openJ.2.2, db.openJ.2.2) := by
  rw [openS_ab h]
  revert h2
  cases db.openJ with
  | mk e y =>
    obtain ⟨jo, d'⟩ := y
    rintro rfl
    rfl
theorem openS_bad1 {da db : DiskS} {ja jb : JrS} (h : da.openJ.2.1 = some ja) (h2 : db.openJ.2.1 = some jb) (h3 : rdL ja.rs = none) : openS da db = (240, none, da.openJ.2.2, db.openJ.2.2) := by
  rw [openS_c h h2, h3]
theorem openS_bad2 {da db : DiskS} {ja jb : JrS} (h : da.openJ.2.1 = some ja) (h2 : db.openJ.2.1 = some jb) (h3 : rdL jb.rs = none) : openS da db = (240, none, da.openJ.2.2, db.openJ.2.2) := by
  rw [openS_c h h2, h3]
  cases rdL ja.rs with
  | none => rfl
  | some p => rfl
section
variable {da db : DiskS} {ja jb : JrS} {m n : Nat} {l o : List (List UInt8)} (h : da.openJ.2.1 = some ja) (h2 : db.openJ.2.1 = some jb) (h3 : rdL ja.rs = some (m, l)) (h4 : rdL jb.rs = some (n, o))
include h h2 h3 h4
theorem openS_same (h5 : m = n) (h6 : 0 < m) : openS da db = (240, none, da.openJ.2.2, db.openJ.2.2) := by
  rw [openS_c h h2, h3, h4]
  exact if_pos ⟨h5, h6⟩
theorem openS_two (h5 : m < n) : openS da db = (0, some ⟨ja, jb, true, n, o, 0⟩, da.openJ.2.2, db.openJ.2.2) := by
  rw [openS_c h h2, h3, h4]
  simp only
  rw [if_neg (by omega), if_pos h5]
theorem openS_one (h5 : n < m) : openS da db = (0, some ⟨ja, jb, false, m, l, 0⟩, da.openJ.2.2, db.openJ.2.2) := by
  rw [openS_c h h2, h3, h4]
  simp only
  rw [if_neg (by omega), if_neg (by omega), if_neg (by omega)]
theorem openS_new (h5 : m = 0) (h6 : n = 0) (h7 : ¬ (ja.append da.openJ.2.2 [hdr 1]).1 ≠ 0) : openS da db = (0, some ⟨(ja.append da.openJ.2.2 [hdr 1]).2.1, jb, false, 1, [], 0⟩, (ja.append da.openJ.2.2 [hdr 1]).2.2, db.openJ.2.2) := by
  rw [openS_c h h2, h3, h4]
  simp only
  rw [if_neg (by omega), if_neg (by omega), if_pos h5, if_neg h7]
theorem openS_full (h5 : m = 0) (h6 : n = 0) (h7 : (ja.append da.openJ.2.2 [hdr 1]).1 ≠ 0) : openS da db = ((ja.append da.openJ.2.2 [hdr 1]).1, none, (ja.append da.openJ.2.2 [hdr 1]).2.2, db.openJ.2.2) := by
  rw [openS_c h h2, h3, h4]
  simp only
  rw [if_neg (by omega), if_neg (by omega), if_pos h5, if_pos h7]
end
theorem disk_cell {d : DiskS} {dp : Nat} {sd : List Chunk} (h : DiskR d dp sd) : ∃ cs, (dp, .cells cs 103 (0, 0)) ∈ sd := by
  obtain ⟨_, bd, bv, pv, sp, _, rfl⟩ := h
  exact ⟨_, List.mem_cons_self ..⟩
/-- The cells of a store. -/
def coC (sw : Bool) (ap bp a b gen : Nat) (v : Value) (err : Int) : Array Value :=
  if sw then #[.pointer (some ⟨bp, 0, none⟩), .pointer (some ⟨b, 0, none⟩), .pointer (some ⟨ap, 0, none⟩), .pointer (some ⟨a, 0, none⟩), .int .i64 (gen : Int), v, .int .i64 err]
  else #[.pointer (some ⟨ap, 0, none⟩), .pointer (some ⟨a, 0, none⟩), .pointer (some ⟨bp, 0, none⟩), .pointer (some ⟨b, 0, none⟩), .int .i64 (gen : Int), v, .int .i64 err]
/-- The memory of a store. -/
def CoR (c : Core) (sp a b : Nat) (ss sr sja sjb : List Chunk) : Prop := ∃ ap bp v cs, JrR c.ja ap a sja ∧ JrR c.jb bp b sjb ∧ Row 9 v (c.its.map strV) sr ∧
  cs = coC c.sw ap bp a b c.gen v c.err ∧ ss = [(sp, .cells cs 150 (0, 0))]
def CoO (co : Option Core) (a b : Nat) (v : Value) (ss sr sja sjb : List Chunk) : Prop :=
  match co with
  | none => v = .pointer none ∧ ss = [] ∧ sr = [] ∧ sja = [] ∧ sjb = []
  | some c => ∃ sp, v = .pointer (some ⟨sp, 0, none⟩) ∧ CoR c sp a b ss sr sja sjb

theorem fill_store (a b c d : Value) (k : IntKind) (n : Int) (p : Option Addr) (l m : Nat) : Instr.fill (fun x => (#[(0, 2), (2, 2), (4, 1), (5, 1), (6, 1)] : Array (Nat × Nat))[x]?) #[.pointer none, .pointer none, .pointer none, .pointer none, .int .i64 0, .slice none 0 0, .int .i64 0] [(0, .agg #[a, b]), (1, .agg #[c, d]), (2, .int k n), (3, .slice p l m)] = some #[a, b, c, d, .int k n, .slice p l m, .int .i64 0] := by
  simp [Instr.fill, Value.cells]

theorem sopen_any (a b n1 n2 k : Nat) (da db : DiskS) (jo1 jo2 : Option JrS) (sda sdb : List Chunk) (pa : Addr) (Tx Tg : TypeId) (zx zg : Nat × Nat) (hab : a ≠ b) (hRa : DiskR da a sda) (hRb : DiskR db b sdb) (hWa : Wok n1 k da jo1) (hWb : Wok n2 k db jo2) (h1 : 1 ≤ n1) (h2 : 1 ≤ n2) (h3 : n1 ≤ 4194304) (hk : k ≤ 900000) :
    Does Tryz.prog 23 #[.pointer (some ⟨a, 0, none⟩), .pointer (some ⟨b, 0, none⟩)] [sda, sdb, [(4, .cells (kTab.map u32v).toArray Tg zg)], [(0, .cells #[.iface 299 (.pointer (some pa))] Tx zx)]] (fun r H' => ∃ v ss sr sja sjb sda' sdb', r = .tuple #[v, .int .i64 (openS da db).1] ∧ CoO (openS da db).2.1 a b v ss sr sja sjb ∧ DiskR (openS da db).2.2.1 a sda' ∧ DiskR (openS da db).2.2.2 b sdb' ∧ H' = [ss, sr, sja, sjb, sda', sdb', [(4, .cells (kTab.map u32v).toArray Tg zg)], [(0, .cells #[.iface 299 (.pointer (some pa))] Tx zx)]]) := by
 obtain ⟨csa, hca⟩ := disk_cell hRa
 obtain ⟨csb, hcb⟩ := disk_cell hRb
 have hwa := hWa.open h1
 have hpa := hWa.pend
 have hpb := hWb.pend
 refine spec_enter func23 rfl ntmps23 rfl ?_
 intro u R
 refine Zb [0, 1] ?_
 refine Zq <| Zg <| Za Y <| Za Y <| Z0 <| Zx <| Zq <| at_block <| Zq <| Zg <| Zm Y ?_
 first | refine op_v (p_eql_nil_nil underlying26 Y Y) ?_ | refine op_v (p_eql_ptr_nil underlying26 Y Y) ?_
 refine Zm Y ?_
 refine ops_split_bool (t := 21) Y rfl (fun hq1 => ?_) (fun hq1 => ?_)
 ·
  cases hq1
 ·
  refine Zf Y Y ?_
  first | refine op_wg Y (p_eql_nil_nil underlying26 Y Y) rfl rfl ?_ | refine op_wg Y (p_eql_ptr_nil underlying26 Y Y) rfl rfl ?_
  refine Zv (p_pick_f Y Y) <| Za Y <| Z0 <| Zx ?_
  refine at_if_bool Y (fun hq2 => ?_) (fun hq2 => ?_)
  ·
   cases hq2
  ·
   refine Zq <| Zg <| Zm Y <| Zm Y ?_
   refine op_rm (cs := [(a, .cells csa 103 (0, 0)), (b, .cells csb 103 (0, 0))]) (by simp [hca, hcb]) (p_eql_ptr_ne underlying26 (rfl : Tryz.prog.info? 103 = some Tryz.t103) (by decide) hab Y Y) rfl rfl ?_
   refine Za Y <| Z0 <| Zn [0, 1, 25] ?_
   refine Zx ?_
   refine at_if_bool Y (fun hq3 => ?_) (fun hq3 => ?_)
   ·
    cases hq3
   ·
    refine at_skip <| nx_block_normal <| Zx <| Zq <| Zg <| Zm Y <| Zc [_] Y call68 Y rfl (opened_any da a sda pa Tx Tg zx zg hRa (by omega)) ?_
    rintro _ _ ⟨_, ⟨q1, sja, sda2, hJ1, hR1, rfl, rfl⟩, rfl⟩
    refine Zm Y <| Zd Y rfl <| Zd Y rfl <| Ze (w_alloc zeroValue144 (cs := #[_, _]) rfl) ?_
    rintro _ _ ⟨oa1, rfl, rfl⟩
    refine Ze (w_store_agg sizeOf144 Y Y (by first | (simp [Value.oneCell']; done) | (simp [Value.oneCell', Value.cells]; done)) (by repeat (first | exact Upd.here _ | apply Upd.there)) (by rfl) (by first | rfl | (simp; done)) (by first | decide | exact Nat.le_refl _ | (simp; done) | (simp; omega)) (by exact free_zero _)) ?_
    rintro _ _ ⟨rfl, rfl⟩
    refine Za Y <| Z0 <| Zx <| Zq <| Zq <| Zg <| Zm Y ?_
    first | refine op_v (p_neq_nat (n := 0) Y Y) ?_ | refine op_v (p_neq Y Y) ?_
    refine Z0 <| Zx ?_
    first | refine at_if Y (fun he1 => ?_) (fun he1 => ?_) | refine at_if_bool Y (fun he1 => ?_) (fun he1 => ?_)
    ·
     have hx1 : da.openJ.2.1 = none := by
       rcases openJ_code da with ⟨j, _, h9⟩ | ⟨h9, _⟩
       · exact absurd h9 he1
       · exact h9
     rw [openS_a hx1]
     rw [hx1] at hJ1
     obtain ⟨_, rfl⟩ := hJ1
     refine Zq <| at_nil ?_
     refine at_nil ?_
     refine at_nil ?_
     refine at_nil ?_
     refine Zg <| Zm Y <| Za Y <| Za Y <| Z0 <| Zn [4, 5] ?_
     refine Zx <| at_ret <| Zt ?_
     refine nx_end2 rfl results23 Y Y (by exact ⟨.pointer none, [], [], [], [], _, _, rfl, ⟨rfl, rfl, rfl, rfl, rfl⟩, hR1, hRb, by first | rfl | simp⟩)
    ·
     obtain ⟨j1, hx1⟩ : ∃ j, da.openJ.2.1 = some j := by
       rcases openJ_code da with ⟨j, h9, _⟩ | ⟨_, h9⟩
       · exact ⟨j, h9⟩
       · exact absurd h9 he1
     rw [hx1] at hJ1 hwa
     obtain ⟨ap, hq, hJa⟩ := hJ1
     injection hq with hq
     subst hq
     refine at_skip <| Zx <| Zq <| Zg <| Zm Y <| Zc [_] Y call68 Y rfl (opened_any db b sdb pa Tx Tg zx zg hRb (by omega)) ?_
     rintro _ _ ⟨_, ⟨q2, sjb, sdb2, hJ2, hR2, rfl, rfl⟩, rfl⟩
     refine Zm Y <| Zd Y rfl <| Zd Y rfl <| Ze (w_alloc zeroValue144 (cs := #[_, _]) rfl) ?_
     rintro _ _ ⟨ob1, rfl, rfl⟩
     refine Ze (w_store_agg sizeOf144 Y Y (by first | (simp [Value.oneCell']; done) | (simp [Value.oneCell', Value.cells]; done)) (by repeat (first | exact Upd.here _ | apply Upd.there)) (by rfl) (by first | rfl | (simp; done)) (by first | decide | exact Nat.le_refl _ | (simp; done) | (simp; omega)) (by exact free_zero _)) ?_
     rintro _ _ ⟨rfl, rfl⟩
     refine Za Y <| Z0 <| Zn [6, 7, 8] ?_
     refine Zx <| Zq <| Zq <| Zg <| Zm Y ?_
     first | refine op_v (p_neq_nat (n := 0) Y Y) ?_ | refine op_v (p_neq Y Y) ?_
     refine Z0 <| Zx ?_
     first | refine at_if Y (fun he2 => ?_) (fun he2 => ?_) | refine at_if_bool Y (fun he2 => ?_) (fun he2 => ?_)
     ·
      have hx2 : db.openJ.2.1 = none := by
        rcases openJ_code db with ⟨j, _, h9⟩ | ⟨h9, _⟩
        · exact absurd h9 he2
        · exact h9
      rw [openS_b hx1 hx2]
      rw [hx2] at hJ2
      obtain ⟨_, rfl⟩ := hJ2
      refine Zq <| at_nil ?_
      refine at_nil ?_
      refine at_nil ?_
      refine at_nil ?_
      refine Zg <| Zm Y <| Za Y <| Za Y <| Z0 <| Zx <| at_ret <| Zt ?_
      refine nx_end2 rfl results23 Y Y (by exact ⟨.pointer none, [], [], [], [], _, _, rfl, ⟨rfl, rfl, rfl, rfl, rfl⟩, hR1, hR2, by first | rfl | simp⟩)
     ·
      obtain ⟨j2, hx2⟩ : ∃ j, db.openJ.2.1 = some j := by
        rcases openJ_code db with ⟨j, h9, _⟩ | ⟨_, h9⟩
        · exact ⟨j, h9⟩
        · exact absurd h9 he2
      rw [hx2] at hJ2
      obtain ⟨bp, hq, hJb⟩ := hJ2
      injection hq with hq
      subst hq
      refine at_skip <| Zx <| Zq <| at_draw (n := 6) (0 :: 1 :: 0 :: 4 :: 3 :: 31 :: []) 0 (by kernel_rfl) (by kernel_rfl) rfl ?_
      refine lin_r (D' := 1) 0 rfl rfl rfl (by repeat (first | exact Has.here _ | apply Has.there)) (p_load_agg (cs := #[_, _]) isAgg144 sizeOf144 Y (by first | decide | exact Nat.le_refl _ | (simp; done) | (simp; omega)) (by rfl)) ?_
      refine Zi 3 1 rfl (p_makeFunc (vs := [_]) (us := []) Y Y) ?_
      refine lin_r (D' := 7) 2 rfl rfl rfl (by repeat (first | exact Has.here _ | apply Has.there)) (p_load_agg (cs := #[_, _]) isAgg144 sizeOf144 Y (by first | decide | exact Nat.le_refl _ | (simp; done) | (simp; omega)) (by rfl)) ?_
      refine Zi 15 3 rfl (p_makeFunc (vs := [_]) (us := []) Y Y) ?_
      refine Zi 31 4 rfl (p_assign Y) <| Zi 63 5 rfl (p_assign Y) <| lin_nil ?_
      refine Zx <| Zq <| Zg <| Zm Y <| Zc [] Y call69 Y rfl (list_gen j1 ap a sja hJa (openJ_short hx1)) ?_
      rintro _ _ ⟨_, ⟨mi, va, sva, ia, ok1, rfl, hL1, hl1, hva, rfl⟩, rfl⟩
      obtain ⟨gva, cva, rfl⟩ := hva.form
      refine Zm Y <| Zd Y rfl <| Zd Y rfl <| Zd Y rfl <| Za Y <| Za Y <| Za Y <| Z0 <| Zn [6, 8, 10, 11, 12, 13] ?_
      refine Zx <| Zq <| Zg <| Zm Y <| Zc [] Y call69 Y rfl (list_gen j2 bp b sjb hJb (openJ_short hx2)) ?_
      rintro _ _ ⟨_, ⟨ni, vb, svb, ib, ok2, rfl, hL2, hl2, hvb, rfl⟩, rfl⟩
      obtain ⟨gvb, cvb, rfl⟩ := hvb.form
      refine Zm Y <| Zd Y rfl <| Zd Y rfl <| Zd Y rfl <| Za Y <| Za Y <| Za Y <| Z0 <| Zx <| Zq <| at_block <| Zq <| Zg <| Zm Y ?_
      first | refine op_v (p_not_dec Y) ?_ | refine op_v (p_not Y) ?_
      refine Zm Y ?_
      refine ops_split_bool (t := 64) Y rfl (fun hg1 => ?_) (fun hg1 => ?_)
      ·
       have hf : ok1 = false := by simpa using hg1
       subst hf
       rw [openS_bad1 hx1 hx2 hL1.f]
       refine op_skip Y rfl <| op_skip Y rfl <| Zv (p_pick_t Y Y) <| Zm Y <| op_skip Y rfl <| op_skip Y rfl <| op_skip Y rfl <| op_skip Y rfl <| op_skip Y rfl <| op_skip Y rfl <| op_skip Y rfl <| Zv (p_pick_t Y Y) <| Za Y <| Z0 <| Zn [6, 8, 11, 12, 14, 15, 61] ?_
       refine Zx <| at_then Y <| Zq <| at_nil ?_
       refine at_nil ?_
       refine at_nil ?_
       refine at_nil ?_
       refine Zg <| Za Y <| Za Y <| Z0 <| Zx <| at_ret <| nx_block_ret <| Zt ?_
       refine nx_end2 rfl results23 Y Y (by exact ⟨.pointer none, [], [], [], [], _, _, rfl, ⟨rfl, rfl, rfl, rfl, rfl⟩, hR1, hR2, by first | rfl | simp⟩)
      ·
       have ht : ok1 = true := by simpa using hg1
       subst ht
       obtain ⟨m, rfl, hm⟩ := hL1.t
       refine Zf Y Y ?_
       first | refine op_wg Y (p_not_dec Y) rfl rfl ?_ | refine op_wg Y (p_not Y) rfl rfl ?_
       refine Zv (p_pick_f Y Y) <| Zm Y ?_
       refine ops_split_bool (t := 68) Y rfl (fun hg2 => ?_) (fun hg2 => ?_)
       ·
        have hf : ok2 = false := by simpa using hg2
        subst hf
        rw [openS_bad2 hx1 hx2 hL2.f]
        refine op_skip Y rfl <| op_skip Y rfl <| op_skip Y rfl <| op_skip Y rfl <| op_skip Y rfl <| op_skip Y rfl <| op_skip Y rfl <| Zv (p_pick_t Y Y) <| Za Y <| Z0 <| Zn [6, 8, 11, 12, 14, 15, 61] ?_
        refine Zx <| at_then Y <| Zq <| at_nil ?_
        refine at_nil ?_
        refine at_nil ?_
        refine at_nil ?_
        refine Zg <| Za Y <| Za Y <| Z0 <| Zx <| at_ret <| nx_block_ret <| Zt ?_
        refine nx_end2 rfl results23 Y Y (by exact ⟨.pointer none, [], [], [], [], _, _, rfl, ⟨rfl, rfl, rfl, rfl, rfl⟩, hR1, hR2, by first | rfl | simp⟩)
       ·
        have ht : ok2 = true := by simpa using hg2
        subst ht
        obtain ⟨n, rfl, hn⟩ := hL2.t
        refine Zf Y Y <| Zf Y Y ?_
        first | refine op_wg Y (p_eql_nat Y Y) rfl rfl ?_ | refine op_wg Y (p_eql Y Y) rfl rfl ?_
        refine Zf Y Y ?_
        first | refine ops_split (t := 72) Y rfl (fun hg3 => ?_) (fun hg3 => ?_) | refine ops_split_bool (t := 72) Y rfl (fun hg3 => ?_) (fun hg3 => ?_)
        ·
         refine Zf Y Y ?_
         first | refine op_wg Y (p_gtr_nat (n := 0) Y Y) rfl rfl ?_ | refine op_wg Y (p_gtr Y Y) rfl rfl ?_
         refine op_wg Y (p_pick_t Y Y) rfl rfl ?_
         refine Zv (p_pick_f Y Y) <| Za Y <| Z0 <| Zn [6, 8, 11, 12, 14, 15, 61] ?_
         refine Zx ?_
         first | refine at_if Y (fun hi => ?_) (fun hi => ?_) | refine at_if_bool Y (fun hi => ?_) (fun hi => ?_)
         ·
          rw [openS_same hx1 hx2 hm hn (by omega) (by omega)]
          refine Zq <| at_nil ?_
          refine at_nil ?_
          refine at_nil ?_
          refine at_nil ?_
          refine Zg <| Za Y <| Za Y <| Z0 <| Zx <| at_ret <| nx_block_ret <| Zt ?_
          refine nx_end2 rfl results23 Y Y (by exact ⟨.pointer none, [], [], [], [], _, _, rfl, ⟨rfl, rfl, rfl, rfl, rfl⟩, hR1, hR2, by first | rfl | simp⟩)
         ·
          refine Zq <| Zg <| Zm Y <| Zm Y ?_
          first | refine op_v (p_gtr_nat Y Y) ?_ | refine op_v (p_gtr Y Y) ?_
          refine Za Y <| Z0 <| Zx ?_
          first | refine at_if Y (fun hi8 => ?_) (fun hi8 => ?_) | refine at_if_bool Y (fun hi8 => ?_) (fun hi8 => ?_)
          ·
           exfalso; first | exact hi8 rfl | (cases hi8; done) | contradiction | omega | (simp at hi8; done) | (simp at hi8; omega) | (simp_all; done) | (simp_all; omega)
          ·
           refine Zq <| Zg <| Zm Y ?_
           first | refine op_v (p_eql_nat (n := 0) Y Y) ?_ | refine op_v (p_eql Y Y) ?_
           refine Za Y <| Z0 <| Zx ?_
           first | refine at_if Y (fun hi9 => ?_) (fun hi9 => ?_) | refine at_if_bool Y (fun hi9 => ?_) (fun hi9 => ?_)
           ·
            refine Zq <| Zg <| Za Y <| Z0 <| Zx <| Zq <| at_draw (n := 7) (0 :: 1 :: 0 :: 4 :: 12 :: 31 :: 63 :: []) 56 (by kernel_rfl) (by kernel_rfl) rfl ?_
            refine Zi 1 0 rfl (p_fieldAddr0 (off := 0) underlying144 rfl rfl sizeOf30 Y) <| Zj 3 1 rfl isAgg30 Y ?_
            refine Zi 7 2 rfl (p_move Y) <| Zz (l := [3]) ?_
            refine Zy 4 15 [1] [true] [(1, (_, _))] rfl Y rfl rfl rfl rfl (Zu [_] Y call70 Y rfl (header_spec 1 (by decide))) ?hk_6 (fun _ _ h => h.elim) ?hl_6
            case hk_6 =>
             rintro _ _ ⟨rfl, rfl⟩
             refine ⟨Zk (keep_nil), ?_⟩
             refine Zz (l := [4]) ?_
             refine Zy 12 31 [1] [true] [(1, (_, _))] rfl Y rfl rfl rfl rfl (w_buildSlice (vs := [_]) (cs := [_]) underlying43 sizeOf9 zeroValue9 Y rfl rfl rfl rfl rfl) ?hk_7 (fun _ _ h => h.elim) ?hl_7
             case hk_7 =>
              rintro _ _ ⟨gh, rfl, rfl⟩
              refine ⟨Zk (keep_nil), ?_⟩
              refine Zz (l := [5]) ?_
              refine Zy 31 63 [1] [false] [] rfl Y rfl rfl rfl rfl (Zw [_, _] Y call13 Y rfl (jr_app_any j1 _ ap a sja _ sda2 _ [hdr 1] Tg zg hwa h3 hJa hR1 (row_new _ gh ([hdr 1].map strV) 1 rfl (by decide)) (by omega) (by decide) (by intro r hr; rw [List.mem_singleton.1 hr]; have := hdr_len 1 (by decide); omega))) ?hk_8 no_pan ?hl_8
              case hk_8 =>
               rintro _ _ ⟨_, ⟨sj1, sd1, rfl, hJ1, hR1, rfl⟩, rfl⟩
               refine ⟨keep_nil, ?_⟩
               refine Zi 127 6 rfl (p_assign Y) <| lin_nil ?_
               refine Zn [6, 8, 11, 12, 17] ?_
               refine Zx <| Zq <| Zg <| Zm Y ?_
               first | refine op_v (p_neq_nat (n := 0) Y Y) ?_ | refine op_v (p_neq Y Y) ?_
               refine Z0 <| Zx ?_
               first | refine at_if Y (fun hq8 => ?_) (fun hq8 => ?_) | refine at_if_bool Y (fun hq8 => ?_) (fun hq8 => ?_)
               ·
                rw [openS_full hx1 hx2 hm hn (by omega) (by omega) hq8]
                refine Zq <| at_nil ?_
                refine at_nil ?_
                refine at_nil ?_
                refine at_nil ?_
                refine Zg <| Zm Y <| Za Y <| Za Y <| Z0 <| Zx <| at_ret <| nx_block_ret <| Zt ?_
                refine nx_end2 rfl results23 Y Y (by exact ⟨.pointer none, [], [], [], [], _, _, rfl, ⟨rfl, rfl, rfl, rfl, rfl⟩, hR1, hR2, by first | rfl | simp⟩)
               ·
                rw [openS_new hx1 hx2 hm hn (by omega) (by omega) hq8]
                obtain ⟨hjn, hln⟩ := (rdL_len hm).2.1 (by omega)
                subst hln
                refine at_skip <| nx_block_normal <| Zx <| Zq <| Zg <| Zo (by repeat (first | exact Has.here _ | apply Has.there)) (p_load_agg (cs := #[_, _]) isAgg144 sizeOf144 Y (by first | decide | exact Nat.le_refl _ | (simp; done) | (simp; omega)) (by rfl)) ?_
                refine Zo (by repeat (first | exact Has.here _ | apply Has.there)) (p_load_agg (cs := #[_, _]) isAgg144 sizeOf144 Y (by first | decide | exact Nat.le_refl _ | (simp; done) | (simp; omega)) (by rfl)) ?_
                refine Zm Y <| Zm Y <| op_w (p_build (vs := [(0, _), (1, _), (2, _), (3, _)]) Y (run_build_struct (pl := #[(0, 2), (2, 2), (4, 1), (5, 1), (6, 1)]) zeroValue150 underlying150 (fun _ => by kernel_rfl) (fill_store _ _ _ _ _ _ _ _ _))) rfl rfl ?_
                refine Ze (w_box Y (cs := #[_, _, _, _, _, _, _]) rfl) ?_
                rintro _ _ ⟨sp, rfl, rfl⟩
                refine Za Y <| Za Y <| Z0 <| Zx <| at_ret ?_
                refine nx_end2 rfl results23 Y Y (by first | exact ⟨.pointer (some ⟨sp, 0, none⟩), _, sva, sj1, sjb, _, _, rfl, ⟨sp, rfl, ap, bp, _, #[.pointer (some ⟨ap, 0, none⟩), .pointer (some ⟨a, 0, none⟩), .pointer (some ⟨bp, 0, none⟩), .pointer (some ⟨b, 0, none⟩), .int .i64 1, .slice gva (([] : List (List UInt8)).map strV).length cva, .int .i64 0], hJ1, hJb, hva, rfl, rfl⟩, hR1, hR2, rfl⟩ | exact ⟨.pointer (some ⟨sp, 0, none⟩), _, sva, sja, sjb, _, _, rfl, ⟨sp, rfl, ap, bp, _, #[.pointer (some ⟨ap, 0, none⟩), .pointer (some ⟨a, 0, none⟩), .pointer (some ⟨bp, 0, none⟩), .pointer (some ⟨b, 0, none⟩), .int .i64 (m : Int), .slice gva (ia.map strV).length cva, .int .i64 0], hJa, hJb, hva, rfl, rfl⟩, hR1, hR2, rfl⟩)
              case hl_8 =>
               exact each_nil
             case hl_7 =>
              exact each_nil
            case hl_6 =>
             exact each_nil
           ·
            exfalso; first | exact hi9 rfl | (cases hi9; done) | contradiction | omega | (simp at hi9; done) | (simp at hi9; omega) | (simp_all; done) | (simp_all; omega)
        ·
         refine op_skip Y rfl <| op_skip Y rfl <| op_wg Y (p_pick_f Y Y) rfl rfl ?_
         refine Zv (p_pick_f Y Y) <| Za Y <| Z0 <| Zn [6, 8, 11, 12, 14, 15, 61] ?_
         refine Zx <| at_else Y <| Zq <| Zg <| Zm Y <| Zm Y ?_
         first | refine op_v (p_gtr_nat Y Y) ?_ | refine op_v (p_gtr Y Y) ?_
         refine Za Y <| Z0 <| Zx ?_
         first | refine at_if Y (fun hi8 => ?_) (fun hi8 => ?_) | refine at_if_bool Y (fun hi8 => ?_) (fun hi8 => ?_)
         ·
          rw [openS_two hx1 hx2 hm hn (by omega)]
          refine Zq <| Zg <| Zo (by repeat (first | exact Has.here _ | apply Has.there)) (p_load_agg (cs := #[_, _]) isAgg144 sizeOf144 Y (by first | decide | exact Nat.le_refl _ | (simp; done) | (simp; omega)) (by rfl)) ?_
          refine Zo (by repeat (first | exact Has.here _ | apply Has.there)) (p_load_agg (cs := #[_, _]) isAgg144 sizeOf144 Y (by first | decide | exact Nat.le_refl _ | (simp; done) | (simp; omega)) (by rfl)) ?_
          refine Zm Y <| Zm Y <| op_w (p_build (vs := [(0, _), (1, _), (2, _), (3, _)]) Y (run_build_struct (pl := #[(0, 2), (2, 2), (4, 1), (5, 1), (6, 1)]) zeroValue150 underlying150 (fun _ => by kernel_rfl) (fill_store _ _ _ _ _ _ _ _ _))) rfl rfl ?_
          refine Ze (w_box Y (cs := #[_, _, _, _, _, _, _]) rfl) ?_
          rintro _ _ ⟨sp, rfl, rfl⟩
          refine Za Y <| Za Y <| Z0 <| Zx <| at_ret <| nx_block_ret <| Zt ?_
          refine nx_end2 rfl results23 Y Y (by exact ⟨.pointer (some ⟨sp, 0, none⟩), _, svb, sja, sjb, _, _, rfl, ⟨sp, rfl, ap, bp, _, #[.pointer (some ⟨bp, 0, none⟩), .pointer (some ⟨b, 0, none⟩), .pointer (some ⟨ap, 0, none⟩), .pointer (some ⟨a, 0, none⟩), .int .i64 (n : Int), .slice gvb (ib.map strV).length cvb, .int .i64 0], hJa, hJb, hvb, rfl, rfl⟩, hR1, hR2, rfl⟩)
         ·
          rw [openS_one hx1 hx2 hm hn (by omega)]
          refine Zq <| Zg <| Zm Y ?_
          first | refine op_v (p_eql_nat (n := 0) Y Y) ?_ | refine op_v (p_eql Y Y) ?_
          refine Za Y <| Z0 <| Zx ?_
          first | refine at_if Y (fun hi9 => ?_) (fun hi9 => ?_) | refine at_if_bool Y (fun hi9 => ?_) (fun hi9 => ?_)
          ·
           exfalso; first | exact hi9 rfl | (cases hi9; done) | contradiction | omega | (simp at hi9; done) | (simp at hi9; omega) | (simp_all; done) | (simp_all; omega)
          ·
           refine at_skip <| nx_block_normal <| Zx <| Zq <| Zg <| Zo (by repeat (first | exact Has.here _ | apply Has.there)) (p_load_agg (cs := #[_, _]) isAgg144 sizeOf144 Y (by first | decide | exact Nat.le_refl _ | (simp; done) | (simp; omega)) (by rfl)) ?_
           refine Zo (by repeat (first | exact Has.here _ | apply Has.there)) (p_load_agg (cs := #[_, _]) isAgg144 sizeOf144 Y (by first | decide | exact Nat.le_refl _ | (simp; done) | (simp; omega)) (by rfl)) ?_
           refine Zm Y <| Zm Y <| op_w (p_build (vs := [(0, _), (1, _), (2, _), (3, _)]) Y (run_build_struct (pl := #[(0, 2), (2, 2), (4, 1), (5, 1), (6, 1)]) zeroValue150 underlying150 (fun _ => by kernel_rfl) (fill_store _ _ _ _ _ _ _ _ _))) rfl rfl ?_
           refine Ze (w_box Y (cs := #[_, _, _, _, _, _, _]) rfl) ?_
           rintro _ _ ⟨sp, rfl, rfl⟩
           refine Za Y <| Za Y <| Z0 <| Zn [4, 5] ?_
           refine Zx <| at_ret ?_
           refine nx_end2 rfl results23 Y Y (by first | exact ⟨.pointer (some ⟨sp, 0, none⟩), _, sva, sj1, sjb, _, _, rfl, ⟨sp, rfl, ap, bp, _, #[.pointer (some ⟨ap, 0, none⟩), .pointer (some ⟨a, 0, none⟩), .pointer (some ⟨bp, 0, none⟩), .pointer (some ⟨b, 0, none⟩), .int .i64 1, .slice gva (([] : List (List UInt8)).map strV).length cva, .int .i64 0], hJ1, hJb, hva, rfl, rfl⟩, hR1, hR2, rfl⟩ | exact ⟨.pointer (some ⟨sp, 0, none⟩), _, sva, sja, sjb, _, _, rfl, ⟨sp, rfl, ap, bp, _, #[.pointer (some ⟨ap, 0, none⟩), .pointer (some ⟨a, 0, none⟩), .pointer (some ⟨bp, 0, none⟩), .pointer (some ⟨b, 0, none⟩), .int .i64 (m : Int), .slice gva (ia.map strV).length cva, .int .i64 0], hJa, hJb, hva, rfl, rfl⟩, hR1, hR2, rfl⟩)

end Go.Proofs.YthbadolcncojbaaGreatDoor
