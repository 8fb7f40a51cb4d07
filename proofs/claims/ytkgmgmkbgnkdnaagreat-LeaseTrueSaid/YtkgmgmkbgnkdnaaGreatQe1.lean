/- Queries: their results on a state, and which changes touch them. -/
import Derived.Test.YtkgmgmkbgnkdnaaGreatEz
import Derived.Test.YtkgmgmkbgnkdnaaGreatRu1
namespace Go.Proofs.YtkgmgmkbgnkdnaaGreat
open Go.Proofs.Tryz
open Go Go.RowKit Gw
set_option linter.unusedVariables false
set_option linter.unusedSimpArgs false
set_option maxRecDepth 100000
attribute [local irreducible] Gw.At Gw.Nx Gw.Ops
structure QM where
  kd : Int
  tb : Int
  cl : Int
  lo : Int
  hi : Int
  bq : Int
  ot : Int
deriving DecidableEq
structure ResM where
  rows : List RowM
  val : Int
  fnd : Bool
deriving DecidableEq
def inQ (q : QM) (r : RowM) : Bool := decide (r.t = q.tb ∧ q.lo ≤ valL r q.cl ∧ valL r q.cl ≤ q.hi)
def ValidQ (q : QM) : Prop := (0 ≤ q.tb ∧ q.tb ≤ 3) ∧ (0 ≤ q.cl ∧ q.cl ≤ 3) ∧ (-1000000000 ≤ q.lo ∧ q.lo ≤ q.hi ∧ q.hi ≤ 1000000000) ∧
  ((q.kd = 1 ∧ q.cl = 0 ∧ q.lo = q.hi ∧ (1 ≤ q.lo ∧ q.lo ≤ 1000000) ∧ q.bq = 0 ∧ q.ot = 0) ∨ ((q.kd = 2 ∨ q.kd = 3) ∧ q.bq = 0 ∧ q.ot = 0) ∨
   ((q.kd = 4 ∨ q.kd = 5 ∨ q.kd = 6) ∧ (1 ≤ q.bq ∧ q.bq ≤ 3) ∧ q.ot = 0) ∨ (q.kd = 7 ∧ (1 ≤ q.bq ∧ q.bq ≤ 3) ∧ (0 ≤ q.ot ∧ q.ot ≤ 3)))
instance (q : QM) : Decidable (ValidQ q) := by unfold ValidQ; infer_instance
def ResM.none : ResM := ⟨[], 0, false⟩
def sumT (ms : List Int) : Int := ms.foldl (· + ·) 0
def extT (lt : Int → Int → Bool) (ms : List Int) : ResM := ms.foldl (fun r n => ⟨r.rows, if !r.fnd || lt n r.val then n else r.val, true⟩) ResM.none
def partQ (q : QM) (others : List RowM) (k : Int) : Option RowM := others.find? (fun x => decide (x.t = q.ot ∧ x.k = k))
def pairQ (q : QM) (others : List RowM) (r : RowM) : List RowM := match partQ q others (valL r q.bq) with
  | some x => [r, x]
  | none => []
def joinQ (q : QM) (rows others : List RowM) : List RowM := rows.flatMap (pairQ q others)
def measT (q : QM) (rows : List RowM) : List Int := rows.map fun r => valL r q.bq
def fromQ (q : QM) (rows others : List RowM) : ResM :=
  if q.kd = 3 then ⟨[], rows.length, false⟩ else if q.kd = 4 then ⟨[], sumT (measT q rows), false⟩
  else if q.kd = 5 then extT (fun a b => decide (a < b)) (measT q rows) else if q.kd = 6 then extT (fun a b => decide (b < a)) (measT q rows)
  else if q.kd = 7 then ⟨joinQ q rows others, 0, false⟩ else ⟨rows, 0, false⟩
def scanL (rs : List RowM) (q : QM) : List RowM := rangeL rs q.tb q.cl.toNat q.lo q.hi
def evalT (rs : List RowM) (q : QM) : ResM := fromQ q (scanL rs q) (tabL rs q.ot)
def oldC (c : Chg) : List RowM := if c.had then [⟨c.t, c.k, c.o⟩] else []
def optQ (q : QM) (b : Bool) (r : RowM) : Option RowM := if b && inQ q r then some r else none
def bfQ (q : QM) (c : Chg) : Option RowM := optQ q c.had ⟨c.t, c.k, c.o⟩
def afQ (q : QM) (c : Chg) : Option RowM := optQ q c.has ⟨c.t, c.k, c.n⟩
def mQ (q : QM) : Option RowM → Int
  | some r => valL r q.bq
  | none => 0
def anyQ (q : QM) (c : Chg) : Bool := (bfQ q c).isSome || (afQ q c).isSome
def oneQ (q : QM) (c : Chg) : Bool := (bfQ q c).isSome != (afQ q c).isSome
def touchQ (q : QM) (c : Chg) : Bool :=
  if q.kd = 1 ∨ q.kd = 2 then anyQ q c else if q.kd = 3 then oneQ q c else if q.kd = 4 then decide (mQ q (bfQ q c) ≠ mQ q (afQ q c))
  else if q.kd = 5 ∨ q.kd = 6 then oneQ q c || decide (mQ q (bfQ q c) ≠ mQ q (afQ q c)) else anyQ q c || decide (c.t = q.ot)
theorem put_parts {rs : List RowM} {c : Chg} (hf : fitC rs c) : ∃ A B, rs = A ++ oldC c ++ B ∧ putL rs c = A ++ newC c ++ B := by
  refine ⟨rs.take (placeL rs c.t c.k), (rs.drop (placeL rs c.t c.k)).drop (if c.had then 1 else 0), ?_, rfl⟩
  unfold oldC
  cases hh : c.had with
  | false => simp
  | true =>
    have h1 : (getL rs c.t c.k).2 = true := by rw [hf.1, hh]
    obtain ⟨r, hr, hi, hp, he⟩ := get_some h1
    have hv := hf.2 h1
    rw [he] at hv
    have e : r = ⟨c.t, c.k, c.o⟩ := by
      obtain ⟨t, k, v⟩ := r
      obtain ⟨h5, h6⟩ := hi
      simp only at h5 h6 hv
      subst h5 h6 hv; rfl
    rw [e] at hp
    obtain ⟨hk, hp2⟩ := List.getElem?_eq_some_iff.1 hp
    simp only [if_true, List.append_assoc]
    conv => lhs; rw [← List.take_append_drop (placeL rs c.t c.k) rs, List.drop_eq_getElem_cons hk, hp2]
    rw [List.singleton_append, List.drop_eq_getElem_cons hk]
    rfl
theorem inQ_R {q : QM} (h : ValidQ q) (r : RowM) : inR q.tb q.cl.toNat q.lo q.hi r = inQ q r := by
  have hc := h.2.1
  have := valL_N r q.cl.toNat (by omega)
  rw [show ((q.cl.toNat : Nat) : Int) = q.cl by omega] at this
  unfold inR inQ
  rw [this]
theorem scan_filter {q : QM} (h : ValidQ q) (rs : List RowM) : scanL rs q = (rs.filter (inQ q)).foldl (insV q.cl.toNat) [] := by
  unfold scanL rangeL
  rw [List.filter_congr fun r _ => inQ_R h r]
theorem scan_perm {q : QM} (h : ValidQ q) (rs : List RowM) : (scanL rs q).Perm (rs.filter (inQ q)) := by
  have := rangeL_perm rs q.tb q.cl.toNat q.lo q.hi
  rwa [List.filter_congr fun r _ => inQ_R h r] at this
theorem old_filter (q : QM) (c : Chg) : (oldC c).filter (inQ q) = (bfQ q c).toList := by
  unfold oldC bfQ optQ
  cases c.had with
  | false => rfl
  | true => simp only [if_true, Bool.true_and, List.filter_cons, List.filter_nil]; split <;> rfl
theorem new_filter (q : QM) (c : Chg) : (newC c).filter (inQ q) = (afQ q c).toList := by
  unfold newC afQ optQ
  cases c.has with
  | false => rfl
  | true => simp only [if_true, Bool.true_and, List.filter_cons, List.filter_nil]; split <;> rfl
def sumI : List Int → Int
  | [] => 0
  | x :: l => x + sumI l
theorem foldl_sum (l : List Int) : ∀ a, l.foldl (· + ·) a = a + sumI l := by
  induction l with
  | nil => intro a; simp [sumI]
  | cons x l ih => intro a; rw [List.foldl_cons, ih]; simp only [sumI]; omega
theorem sumI_app (a b : List Int) : sumI (a ++ b) = sumI a + sumI b := by
  induction a with
  | nil => simp [sumI]
  | cons x a ih => simp only [List.cons_append, sumI, ih]; omega
theorem sumI_perm {a b : List Int} (h : a.Perm b) : sumI a = sumI b := by
  induction h with
  | nil => rfl
  | cons x _ ih => simp only [sumI, ih]
  | swap x y l => simp only [sumI]; omega
  | trans _ _ ih1 ih2 => exact ih1.trans ih2
theorem extT_go (lt : Int → Int → Bool) (hlt : ∀ a b c, lt b a = false → lt c b = false → lt c a = false) (hirr : ∀ a, lt a a = false) (hasy : ∀ a b, lt a b = true → lt b a = false) (l : List Int) : ∀ (m : Int), ∃ x, (x = m ∨ x ∈ l) ∧ lt m x = false ∧ (∀ y ∈ l, lt y x = false) ∧ l.foldl (fun (r : ResM) n => (⟨r.rows, if !r.fnd || lt n r.val then n else r.val, true⟩ : ResM)) ⟨[], m, true⟩ = ⟨[], x, true⟩ := by
  induction l with
  | nil => intro m; exact ⟨m, .inl rfl, hirr m, by simp, rfl⟩
  | cons z l ih =>
    intro m
    rw [List.foldl_cons]
    cases hz : lt z m with
    | true =>
      obtain ⟨x, h1, h2, h3, h4⟩ := ih z
      simp only [Bool.not_true, Bool.false_or, hz, if_true]
      refine ⟨x, .inr (by rcases h1 with h | h; rw [h]; simp; exact List.mem_cons_of_mem _ h), hlt x z m h2 (hasy z m hz), fun y hy => ?_, h4⟩
      rcases List.mem_cons.1 hy with rfl | hy
      · exact h2
      · exact h3 y hy
    | false =>
      obtain ⟨x, h1, h2, h3, h4⟩ := ih m
      simp only [Bool.not_true, Bool.false_or, hz, Bool.false_eq_true, if_false]
      refine ⟨x, by rcases h1 with h | h; exact .inl h; exact .inr (List.mem_cons_of_mem _ h), h2, fun y hy => ?_, h4⟩
      rcases List.mem_cons.1 hy with rfl | hy
      · exact hlt x m y h2 hz
      · exact h3 y hy
theorem extT_cons (lt : Int → Int → Bool) (hlt : ∀ a b c, lt b a = false → lt c b = false → lt c a = false) (hirr : ∀ a, lt a a = false) (hasy : ∀ a b, lt a b = true → lt b a = false) (z : Int) (l : List Int) : ∃ x ∈ z :: l, (∀ y ∈ z :: l, lt y x = false) ∧ extT lt (z :: l) = ⟨[], x, true⟩ := by
  obtain ⟨x, h1, h2, h3, h4⟩ := extT_go lt hlt hirr hasy l z
  refine ⟨x, by rcases h1 with h | h; rw [h]; simp; exact List.mem_cons_of_mem _ h, fun y hy => ?_, ?_⟩
  · rcases List.mem_cons.1 hy with rfl | hy
    · exact h2
    · exact h3 y hy
  · unfold extT
    rw [List.foldl_cons]
    exact h4
theorem extT_mem (lt : Int → Int → Bool) (hlt : ∀ a b c, lt b a = false → lt c b = false → lt c a = false) (hirr : ∀ a, lt a a = false) (hasy : ∀ a b, lt a b = true → lt b a = false) (htot : ∀ a b, lt a b = false → lt b a = false → a = b) {l l' : List Int} (h : ∀ y, y ∈ l ↔ y ∈ l') : extT lt l = extT lt l' := by
  match l, l', h with
  | [], [], _ => rfl
  | [], y :: l', h => have := (h y).2 (by simp); cases this
  | y :: l, [], h => have := (h y).1 (by simp); cases this
  | y :: l, y' :: l', h =>
    obtain ⟨x, a1, a2, a3⟩ := extT_cons lt hlt hirr hasy y l
    obtain ⟨x', b1, b2, b3⟩ := extT_cons lt hlt hirr hasy y' l'
    rw [a3, b3, htot x x' (b2 x ((h x).1 a1)) (a2 x' ((h x').2 b1))]
theorem tab_put {rs : List RowM} {c : Chg} (hf : fitC rs c) {t : Int} (h : c.t ≠ t) : tabL (putL rs c) t = tabL rs t := by
  obtain ⟨A, B, e1, e2⟩ := put_parts hf
  have z1 : (oldC c).filter (inT t) = [] := by
    unfold oldC
    split
    · simp [inT, h]
    · rfl
  have z2 : (newC c).filter (inT t) = [] := by
    unfold newC
    split
    · simp [inT, h]
    · rfl
  unfold tabL
  rw [e2]
  conv => rhs; rw [e1]
  simp only [List.filter_append, z1, z2, List.append_nil]
theorem toList_nil {o : Option RowM} (h : o.isSome = false) : o.toList = [] := by
  cases o with
  | none => rfl
  | some x => cases h
theorem eval_put {rs : List RowM} {c : Chg} {q : QM} (hq : ValidQ q) (hf : fitC rs c) (h : touchQ q c = false) : evalT (putL rs c) q = evalT rs q := by
  obtain ⟨A, B, e1, e2⟩ := put_parts hf
  have f1 : rs.filter (inQ q) = A.filter (inQ q) ++ (bfQ q c).toList ++ B.filter (inQ q) := by
    conv => lhs; rw [e1]
    rw [List.filter_append, List.filter_append, old_filter]
  have f2 : (putL rs c).filter (inQ q) = A.filter (inQ q) ++ (afQ q c).toList ++ B.filter (inQ q) := by
    rw [e2, List.filter_append, List.filter_append, new_filter]
  have p1 := scan_perm hq rs
  have p2 := scan_perm hq (putL rs c)
  rw [f1] at p1
  rw [f2] at p2
  have same : (bfQ q c).isSome = false → (afQ q c).isSome = false → scanL (putL rs c) q = scanL rs q := fun h1 h2 => by
    rw [scan_filter hq, scan_filter hq, f1, f2, toList_nil h1, toList_nil h2]
  unfold touchQ at h
  unfold evalT fromQ
  split at h
  · rename_i hk
    unfold anyQ at h
    rw [Bool.or_eq_false_iff] at h
    rw [same h.1 h.2, if_neg (by omega), if_neg (by omega), if_neg (by omega), if_neg (by omega), if_neg (by omega), if_neg (by omega), if_neg (by omega), if_neg (by omega), if_neg (by omega), if_neg (by omega)]
  · split at h
    · rename_i hk
      rw [if_pos hk, if_pos hk]
      have hl : (scanL (putL rs c) q).length = (scanL rs q).length := by
        rw [p1.length_eq, p2.length_eq]
        simp only [List.length_append]
        unfold oneQ at h
        cases hb : bfQ q c <;> cases ha : afQ q c <;> simp [hb, ha] at h ⊢
      rw [hl]
    · split at h
      · rename_i hk3 hk
        rw [if_neg hk3, if_neg hk3, if_pos hk, if_pos hk]
        have hs : sumT (measT q (scanL (putL rs c) q)) = sumT (measT q (scanL rs q)) := by
          unfold sumT measT
          rw [foldl_sum, foldl_sum, sumI_perm (p1.map _), sumI_perm (p2.map _)]
          simp only [List.map_append, sumI_app]
          have hm := of_decide_eq_false h
          have key : ∀ o : Option RowM, sumI (o.toList.map fun r => valL r q.bq) = mQ q o := fun o => by
            cases o with
            | none => rfl
            | some x => simp [sumI, mQ]
          rw [key, key]
          omega
        rw [hs]
      · split at h
        · rename_i hk3 hk4 hk
          rw [Bool.or_eq_false_iff] at h
          have hm := of_decide_eq_false h.2
          have hone := h.1
          have hmem : ∀ y, y ∈ measT q (scanL (putL rs c) q) ↔ y ∈ measT q (scanL rs q) := fun y => by
            unfold measT
            rw [(p1.map _).mem_iff, (p2.map _).mem_iff]
            unfold oneQ at hone
            cases hb : bfQ q c <;> cases ha : afQ q c <;> simp [hb, ha] at hone ⊢
            simp [hb, ha, mQ] at hm
            rw [hm]
          rw [if_neg hk3, if_neg hk3, if_neg hk4, if_neg hk4]
          rcases hk with hk | hk
          · rw [if_pos hk, if_pos hk]
            exact extT_mem _ (by intro a b c; simp; omega) (by intro a; simp) (by intro a b; simp; omega) (by intro a b; simp; omega) hmem
          · rw [if_neg (show ¬ q.kd = 5 by omega), if_neg (show ¬ q.kd = 5 by omega), if_pos hk, if_pos hk]
            exact extT_mem _ (by intro a b c; simp; omega) (by intro a; simp) (by intro a b; simp; omega) (by intro a b; simp; omega) hmem
        · rw [Bool.or_eq_false_iff] at h
          have ha := h.1
          unfold anyQ at ha
          rw [Bool.or_eq_false_iff] at ha
          rw [same ha.1 ha.2, tab_put hf (of_decide_eq_false h.2)]
theorem eval_putAll {rs : List RowM} {cs : List Chg} {q : QM} (hq : ValidQ q) (hs : SortedR rs) (ha : AscC cs) (hf : ∀ c ∈ cs, fitC rs c) (h : ∀ c ∈ cs, touchQ q c = false) : ∀ i, i ≤ cs.length → evalT (putAllR rs (cs.take i)) q = evalT rs q
  | 0, _ => rfl
  | i + 1, hi => by
    obtain ⟨y, hy⟩ : ∃ y, cs[i]? = some y := ⟨_, List.getElem?_eq_getElem (by omega)⟩
    rw [putAllR_next rs cs i y hy, eval_put hq ((fold_inv hs ha hf i (by omega)).2 i y (Nat.le_refl _) hy) (h y (List.mem_of_getElem? hy))]
    exact eval_putAll hq hs ha hf h i (by omega)
theorem eval_log {l : List RecM} (hl : LogOk l) {q : QM} (hq : ValidQ q) (b : Nat) : ∀ c, b ≤ c → c ≤ l.length → (∀ (i : Nat) (r : RecM), b ≤ i → i < c → l[i]? = some r → ∀ x ∈ r.cs, touchQ q x = false) → evalT (rowsOf (l.take c)) q = evalT (rowsOf (l.take b)) q
  | 0, h1, _, _ => by obtain rfl : b = 0 := by omega
                      rfl
  | c + 1, h1, h2, h => by
    rcases Nat.lt_or_ge b (c + 1) with h3 | h3
    · obtain ⟨r, hr⟩ : ∃ r, l[c]? = some r := ⟨_, List.getElem?_eq_getElem (by omega)⟩
      rw [List.take_add_one, hr, Option.toList_some, rowsOf_snoc]
      obtain ⟨hA, _⟩ := hl c r hr
      have hs := (hl.rows c (by omega)).1
      have := eval_putAll hq hs (asc_of hA.ok.ord) hA.fit (h c r (by omega) (by omega) hr) r.cs.length (Nat.le_refl _)
      rw [List.take_length] at this
      rw [this]
      exact eval_log hl hq b c (by omega) (by omega) fun i r h4 h5 => h i r h4 (by omega)
    · obtain rfl : b = c + 1 := by omega
      rfl

end Go.Proofs.YtkgmgmkbgnkdnaaGreat
