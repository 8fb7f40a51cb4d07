/- Contracts: slices.ContainsFunc at Append, the four calls of Append. The four calls of journal.Append and the two of journal.Open. -/
import Derived.Test.YthbadolcncojbaaGreatDoorEz
import Derived.Test.YthbadolcncojbaaGreatDoorBu1
namespace Go.Proofs.YthbadolcncojbaaGreatDoor
open Go.Proofs.Tryz
open Go Go.RowKit Gw
set_option linter.unusedVariables false
set_option linter.unusedSimpArgs false
set_option maxRecDepth 100000
attribute [local irreducible] Gw.At Gw.Nx Gw.Ops
def isLong (r : List UInt8) : Bool := decide (r.length > 65536)
theorem any_take (ls : List (List UInt8)) (i : Nat) (x : List UInt8) (h : ls[i]? = some x) : (ls.take (i + 1)).any isLong = ((ls.take i).any isLong || isLong x) := by
  rw [List.take_add_one, h]; simp
theorem any_at (ls : List (List UInt8)) (i : Nat) (x : List UInt8) (h : ls[i]? = some x) (hx : isLong x = true) : ls.any isLong = true := by
  rw [List.any_eq_true]
  exact ⟨x, List.mem_of_getElem? h, hx⟩

theorem index_none (f : Value) : DoesR Tryz.prog 108 #[.slice none 0 0, f] [] (.int .i64 (-1)) := by
 refine spec_enter func108 rfl ntmps108 rfl ?_
 intro u R
 refine Zb [0, 1] ?_
 refine Zq <| Zg <| Za Y <| Z0 <| Zx <| Zq <| Zq <| Zg <| Zm Y <| Zv (p_len_slice underlying43 Y) <| Zm Y <| Z0 <| Zx <| at_block <| Zb [8, 0, 1, 7] ?_
 refine at_loopB (e0 := [(8, _)]) (H0 := _) (n := _) (fun m e H => ∃ (i : Nat), m = 0 + i ∧ (True) ∧ e = [(8, .int .i64 (i : Int))] ∧ H = []) (by exact ⟨0, rfl, trivial, rfl, rfl⟩) (by repeat (first | exact Pull.nil _ | (apply Pull.cons; (focus (repeat (first | exact One.here _ _ | apply One.there)))))) ?_
 rintro _ _ _ ⟨i, rfl, _, rfl, rfl⟩
 refine Zq <| Zg ?_
 first | refine op_v (p_lss_nat Y Y) ?_ | refine op_v (p_lss Y Y) ?_
 refine Z0 <| Zx <| Zq ?_
 first | refine at_if Y (fun hc1 => ?_) (fun hc1 => ?_) | refine at_if_bool Y (fun hc1 => ?_) (fun hc1 => ?_)
 ·
  exfalso; omega
 ·
  refine at_exit <| Zt <| Zt <| nx_block_exit <| Zx <| Zq <| Zg <| Za Y <| Z0 <| Zx <| at_ret ?_
  refine nx_end1 rfl results108 Y (by exact ⟨rfl, rfl⟩)

theorem contains_none (f : Value) : DoesR Tryz.prog 54 #[.slice none 0 0, f] [] (.bool false) := by
 refine spec_enter func54 rfl ntmps54 rfl ?_
 intro u R
 refine Zb [0, 1] ?_
 refine Zq <| Zg <| Za Y <| Z0 <| Zx <| Zq <| Zg <| Zm Y <| Zm Y <| Zr [_, _] Y call108 Y rfl (index_none _) ?_
 rintro _ _ ⟨rfl, rfl⟩
 first | refine op_v (p_geq_nat (n := 0) Y Y) ?_ | refine op_v (p_geq Y Y) ?_
 refine Za Y <| Z0 <| Zx <| at_ret ?_
 refine nx_end1 rfl results54 Y (by exact ⟨rfl, rfl⟩)

theorem index_some (g cap : Nat) (cur : Array Value) (T : TypeId) (z : Nat × Nat) (ls : List (List UInt8)) (hin : CellsIn cur 0 (ls.map strV)) (hn : ls.length ≤ 1073741824) :
    Does Tryz.prog 108 #[.slice (some ⟨g, 0, none⟩) ls.length cap, .func (.func 53) #[] #[]] [[(g, .cells cur T z)]] (fun r H' => ∃ k : Int, r = .int .i64 k ∧ decide (0 ≤ k) = ls.any isLong ∧ H' = [[(g, .cells cur T z)]]) := by
 refine spec_enter func108 rfl ntmps108 rfl ?_
 intro u R
 refine Zb [0, 1] ?_
 refine Zq <| Zg <| Za Y <| Z0 <| Zx <| Zq <| Zq <| Zg <| Zm Y <| Zv (p_len_slice underlying43 Y) <| Zm Y <| Z0 <| Zx <| at_block <| Zb [8, 0, 1, 7] ?_
 refine at_loopB (e0 := [(8, _)]) (H0 := _) (n := _) (fun m e H => ∃ (i : Nat), m = ls.length - i ∧ (i ≤ ls.length ∧ (ls.take i).any isLong = false) ∧ e = [(8, .int .i64 (i : Int))] ∧ H = []) (by exact ⟨0, rfl, ⟨Nat.zero_le _, rfl⟩, rfl, rfl⟩) (by repeat (first | exact Pull.nil _ | (apply Pull.cons; (focus (repeat (first | exact One.here _ _ | apply One.there)))))) ?_
 rintro _ _ _ ⟨i, rfl, ⟨hi, hany⟩, rfl, rfl⟩
 refine Zq <| Zg ?_
 first | refine op_v (p_lss_nat Y Y) ?_ | refine op_v (p_lss Y Y) ?_
 refine Z0 <| Zx <| Zq ?_
 first | refine at_if Y (fun hlt => ?_) (fun hlt => ?_) | refine at_if_bool Y (fun hlt => ?_) (fun hlt => ?_)
 ·
  refine at_skip <| Zx <| Zq <| at_block <| Zq <| Zg <| Zm Y <| Za Y <| Z0 <| Zx <| Zq ?_
  obtain ⟨x, hx⟩ : ∃ x, ls[i]? = some x := ⟨_, List.getElem?_eq_getElem hlt⟩
  have hcell : cur[i]? = some (strV x) := by
    have := hin.get i (strV x) (by rw [List.getElem?_map, hx]; rfl)
    rwa [Nat.zero_add] at this
  refine Zg <| Zm Y <| Zm Y <| Zm Y ?_
  first | (refine op_v (p_indexAddr_nat0 underlying43 sizeOf9 Y Y ?_) ?_; (focus (omega))) | (refine op_v (p_indexAddr_nat1 underlying43 sizeOf9 Y Y ?_) ?_; (focus (omega)))
  refine Zl isAgg9 Y (hv := by exact hcell) ?_
  refine Zr [_] Y call53 Y rfl (long_spec x) ?_
  rintro _ _ ⟨rfl, rfl⟩
  refine Z0 <| Zx ?_
  refine at_if_bool Y (fun hlx => ?_) (fun hlx => ?_)
  ·
   refine Zq <| Zg <| Zm Y <| Za Y <| Z0 <| Zx <| at_ret <| nx_block_ret <| Zt <| Zt <| nx_block_ret <| Zt ?_
   refine nx_end1 rfl results108 Y (by exact ⟨(i : Int), rfl, by rw [any_at ls i x hx hlx]; exact decide_eq_true (by omega), rfl⟩)
  ·
   refine at_skip <| nx_block_normal <| Zx <| Zg ?_
   first | (refine op_v (p_add_nat (n := 1) Y Y ?_) ?_; (focus (omega))) | (refine op_v (p_add Y Y (IntWalk.i64_in _ ?_)) ?_; (focus (omega)))
   refine Zm Y <| Z0 <| Zn [8, 0, 1, 7] ?_
   refine nx_againB (e' := [(8, _)]) (m := _) (H' := _) (by exact ⟨i + 1, rfl, ⟨by omega, by rw [any_take ls i x hx, hany]; exact hlx⟩, rfl, rfl⟩)
 ·
  have ei : i = ls.length := by omega
  subst ei
  rw [List.take_length] at hany
  refine at_exit <| Zt <| Zt <| nx_block_exit <| Zx <| Zq <| Zg <| Za Y <| Z0 <| Zx <| at_ret ?_
  refine nx_end1 rfl results108 Y (by exact ⟨-1, rfl, by rw [hany]; rfl, rfl⟩)

theorem contains_some (g cap : Nat) (cur : Array Value) (T : TypeId) (z : Nat × Nat) (ls : List (List UInt8)) (hin : CellsIn cur 0 (ls.map strV)) (hn : ls.length ≤ 1073741824) :
    DoesR Tryz.prog 54 #[.slice (some ⟨g, 0, none⟩) ls.length cap, .func (.func 53) #[] #[]] [[(g, .cells cur T z)]] (.bool (ls.any isLong)) := by
 refine spec_enter func54 rfl ntmps54 rfl ?_
 intro u R
 refine Zb [0, 1] ?_
 refine Zq <| Zg <| Za Y <| Z0 <| Zx <| Zq <| Zg <| Zm Y <| Zm Y <| Zc [_, _] Y call108 Y rfl (index_some g cap cur T z ls hin hn) ?_
 rintro _ _ ⟨_, ⟨k, rfl, hk, rfl⟩, rfl⟩
 first | refine op_v (p_geq_nat (n := 0) Y Y) ?_ | refine op_v (p_geq Y Y) ?_
 refine Za Y <| Z0 <| Zx <| at_ret ?_
 refine nx_end1 rfl results54 Y (by exact ⟨by rw [← hk], rfl⟩)

theorem does_seg {P : Program} {f : FuncId} {args : Array Value} {H1 : Hp} {X s : List Chunk} {Q QQ : Value → Hp → Prop} (h : Does P f args H1 Q) (hp : s.Perm (H1.flatten ++ X)) (hq : ∀ v H2, Q v H2 → ∃ s2, (H2.flatten ++ X).Perm s2 ∧ QQ v [s2]) : Does P f args [s] QQ :=
  does_perm (H := H1 ++ [X]) (Q := fun v H' => ∃ H2, Q v H2 ∧ H' = H2 ++ [X]) (does_frame h [X] rfl) (by simpa using hp) (by
    rintro v _ ⟨H2, hQ, rfl⟩
    obtain ⟨s2, h1, h2⟩ := hq v H2 hQ
    exact ⟨[s2], h2, by simpa using h1⟩)
def DiskS.app (d : DiskS) (sz : Nat) (out : List UInt8) : Int × DiskS :=
  let p1 := d.write (sz + 1) out.tail
  if p1.1 ≠ 0 then p1 else
  let p2 := p1.2.sync
  if p2.1 ≠ 0 then p2 else
  let p3 := p2.2.write sz (out.take 1)
  if p3.1 ≠ 0 then p3 else p3.2.sync
theorem write_len (d : DiskS) (o : Nat) (s : List UInt8) (h : o + s.length ≤ d.vi.length) : (d.write o s).2.vi.length = d.vi.length := by
  unfold DiskS.write; split
  · rfl
  · exact splice_len _ _ _ h
theorem write_pend (d : DiskS) (o : Nat) (s : List UInt8) : (d.write o s).2.pend.length ≤ d.pend.length + 1 := by
  unfold DiskS.write; split <;> simp
theorem sync_len (d : DiskS) : d.sync.2.vi.length = d.vi.length := by unfold DiskS.sync; split <;> rfl
theorem sync_pend (d : DiskS) : d.sync.2.pend.length ≤ d.pend.length := by unfold DiskS.sync; split <;> simp
/-- What stands beside the disk: the two closures' variables, the journal. -/
abbrev cloC (b1 b2 b3 jp : Nat) (T1 T2 T3 : TypeId) (o : Int) (s : ByteArray) : List Chunk := [(b1, .cells #[.pointer (some ⟨jp, 0, none⟩)] T1 (0, 0)), (b2, .cells #[.int .i64 o] T2 (0, 0)), (b3, .cells #[.string s] T3 (0, 0))]
abbrev jrC (jp dp : Nat) (v hv zv bv : Value) (Tt : TypeId) : Chunk := (jp, .cells #[v, hv, zv, .pointer (some ⟨dp, 0, none⟩), bv] Tt (0, 0))
theorem one_write (b1 b2 b3 jp dp : Nat) (T1 T2 T3 Tt : TypeId) (v hv zv bv : Value) (d : DiskS) (o : Nat) (b : List UInt8) (sd X s : List Chunk) (hR : DiskR d dp sd) (h : o + b.length ≤ d.vi.length) (ho : o < d.vi.length) (hk : d.pend.length ≤ 1000000)
    (hs : s.Perm (cloC b1 b2 b3 jp T1 T2 T3 (o : Int) (str b) ++ jrC jp dp v hv zv bv Tt :: sd ++ X)) (QQ : Value → Hp → Prop) (p : Int × DiskS) (hp : p = d.write o b) (f : List Chunk → List Chunk) (hq : ∀ s', DiskR p.2 dp s' → QQ (.int .i64 p.1) [f s']) (hf : ∀ s', (cloC b1 b2 b3 jp T1 T2 T3 (o : Int) (str b) ++ jrC jp dp v hv zv bv Tt :: s' ++ X).Perm (f s')) :
    Does Tryz.prog 100 #[.pointer (some ⟨b1, 0, none⟩), .pointer (some ⟨b2, 0, none⟩), .pointer (some ⟨b3, 0, none⟩)] [s] QQ := by
  subst hp
  refine does_seg (X := X) (writing_in b1 b2 b3 jp dp T1 T2 T3 v hv zv bv Tt (o : Int) (str b) sd (fun r s' => r = .int .i64 (d.write o b).1 ∧ DiskR (d.write o b).2 dp s') (does_mono (disk_write d dp sd hR o b h ho hk) ?_)) ?_ ?_
  · rintro r _ ⟨s', rfl, h1, h2⟩
    exact ⟨[s'], ⟨s', rfl, h1, h2⟩, rfl⟩
  · refine hs.trans (List.Perm.of_eq ?_); simp
  · rintro r _ ⟨s', ⟨rfl, h2⟩, rfl⟩
    refine ⟨f s', (List.Perm.of_eq ?_).trans (hf s'), hq s' h2⟩
    simp
theorem does_weak {P : Program} {f : FuncId} {args : Array Value} {H : Hp} {Q Q' : Value → Hp → Prop} (h : Does P f args H Q) (hq : ∀ v H1, Q v H1 → ∃ H2, Q' v H2 ∧ Amid H2 H1) : Does P f args H Q' := fun u R w hs =>
  Calls.mono (h u R w hs) fun ed w' he => by
    rcases he with ⟨v, H1, h1, h2, h3⟩ | ⟨_, _, _, h, _⟩
    · obtain ⟨H2, h4, X, h5⟩ := hq v H1 h2
      refine .inl ⟨v, H2, h1, h4, h3.sub ⟨X, ?_⟩⟩
      simp only [List.flatten_append]
      refine (h5.append_right _).trans ?_
      rw [List.append_assoc, List.append_assoc]
      exact (List.perm_append_comm).append_left _
    · exact h.elim
theorem perm_mid {A C X : List Chunk} : (A ++ (C ++ X)).Perm (A ++ X ++ C) := by
  rw [List.append_assoc]
  exact List.perm_append_comm.append_left A
theorem append_calls (g b1 b2 b3 c1 c2 c3 jp dp sz : Nat) (T T1 T2 T3 U1 U2 U3 Tt : TypeId) (v hv zv bv : Value) (out : List UInt8) (d : DiskS) (sd : List Chunk) (hR : DiskR d dp sd) (hfit : sz + out.length ≤ d.vi.length) (ho2 : 2 ≤ out.length) (hk : d.pend.length ≤ 999990) :
    Does Tryz.prog 46 #[.slice (some ⟨g, 0, none⟩) 4 4] [[(g, .cells #[.func (.func 100) #[] #[.pointer (some ⟨b1, 0, none⟩), .pointer (some ⟨b2, 0, none⟩), .pointer (some ⟨b3, 0, none⟩)], .func (.func 48) #[.pointer (some ⟨dp, 0, none⟩)] #[], .func (.func 100) #[] #[.pointer (some ⟨c1, 0, none⟩), .pointer (some ⟨c2, 0, none⟩), .pointer (some ⟨c3, 0, none⟩)], .func (.func 48) #[.pointer (some ⟨dp, 0, none⟩)] #[]] T (0, 0))],
        cloC b1 b2 b3 jp T1 T2 T3 ((sz + 1 : Nat) : Int) (str out.tail), cloC c1 c2 c3 jp U1 U2 U3 (sz : Int) (str (out.take 1)), [jrC jp dp v hv zv bv Tt], sd]
      (fun r H' => ∃ s', r = .int .i64 (d.app sz out).1 ∧ DiskR (d.app sz out).2 dp s' ∧ H' = [[jrC jp dp v hv zv bv Tt], s']) := by
  have hvi : d.vi.length ≤ 4194304 := hR.1.2.2.1
  obtain ⟨A, hA⟩ : ∃ A, A = cloC b1 b2 b3 jp T1 T2 T3 ((sz + 1 : Nat) : Int) (str out.tail) := ⟨_, rfl⟩
  obtain ⟨C, hC⟩ : ∃ C, C = cloC c1 c2 c3 jp U1 U2 U3 (sz : Int) (str (out.take 1)) := ⟨_, rfl⟩
  obtain ⟨j, hj⟩ : ∃ j, j = jrC jp dp v hv zv bv Tt := ⟨_, rfl⟩
  obtain ⟨p1, hp1⟩ : ∃ p, p = d.write (sz + 1) out.tail := ⟨_, rfl⟩
  obtain ⟨p2, hp2⟩ : ∃ p, p = p1.2.sync := ⟨_, rfl⟩
  obtain ⟨p3, hp3⟩ : ∃ p, p = p2.2.write sz (out.take 1) := ⟨_, rfl⟩
  obtain ⟨p4, hp4⟩ : ∃ p, p = p3.2.sync := ⟨_, rfl⟩
  have happ : d.app sz out = if p1.1 ≠ 0 then p1 else if p2.1 ≠ 0 then p2 else if p3.1 ≠ 0 then p3 else p4 := by
    subst hp4 hp3 hp2 hp1; rfl
  have htl : out.tail.length = out.length - 1 := List.length_tail
  have ht1 : (out.take 1).length = 1 := by rw [List.length_take]; exact Nat.min_eq_left (by omega)
  have l1 : p1.2.vi.length = d.vi.length := by rw [hp1]; exact write_len d _ _ (by omega)
  have l2 : p2.2.vi.length = d.vi.length := by rw [hp2, sync_len, l1]
  have k1 : p1.2.pend.length ≤ 999991 := by rw [hp1]; exact Nat.le_trans (write_pend d _ _) (by omega)
  have k2 : p2.2.pend.length ≤ 999991 := by rw [hp2]; exact Nat.le_trans (sync_pend _) k1
  let F : List Chunk → List Chunk := fun s' => A ++ (C ++ (j :: s'))
  let I : Nat → List Chunk → Prop := fun i s => ∃ s', s = F s' ∧ match i with
    | 0 => DiskR d dp s'
    | 1 => p1.1 = 0 ∧ DiskR p1.2 dp s'
    | 2 => p1.1 = 0 ∧ p2.1 = 0 ∧ DiskR p2.2 dp s'
    | 3 => p1.1 = 0 ∧ p2.1 = 0 ∧ p3.1 = 0 ∧ DiskR p3.2 dp s'
    | _ => p1.1 = 0 ∧ p2.1 = 0 ∧ p3.1 = 0 ∧ p4.1 = 0 ∧ DiskR p4.2 dp s'
  let E : Int → List Chunk → Prop := fun e s => (d.app sz out).1 = e ∧ ∃ s', s = F s' ∧ DiskR (d.app sz out).2 dp s'
  let fid : Nat → FuncId := fun | 0 => 100 | 1 => 48 | 2 => 100 | _ => 48
  let fst : Nat → Array Value := fun | 0 => #[] | 1 => #[.pointer (some ⟨dp, 0, none⟩)] | 2 => #[] | _ => #[.pointer (some ⟨dp, 0, none⟩)]
  let cps : Nat → Array Value := fun | 0 => #[.pointer (some ⟨b1, 0, none⟩), .pointer (some ⟨b2, 0, none⟩), .pointer (some ⟨b3, 0, none⟩)] | 1 => #[] | 2 => #[.pointer (some ⟨c1, 0, none⟩), .pointer (some ⟨c2, 0, none⟩), .pointer (some ⟨c3, 0, none⟩)] | _ => #[]
  have lt4 : ∀ i, i < 4 → i = 0 ∨ i = 1 ∨ i = 2 ∨ i = 3 := fun i h => by omega
  have sync_of : ∀ (q : DiskS) (s' : List Chunk) (QQ : Value → Hp → Prop), DiskR q dp s' → (∀ s2, DiskR q.sync.2 dp s2 → QQ (.int .i64 q.sync.1) [F s2]) → Does Tryz.prog 48 #[.pointer (some ⟨dp, 0, none⟩)] [F s'] QQ := fun q s' QQ hq hQ => by
    refine does_seg (X := A ++ (C ++ [j])) (disk_sync q dp s' hq) ?_ ?_
    · show (A ++ (C ++ (j :: s'))).Perm _
      have e : A ++ (C ++ (j :: s')) = (A ++ (C ++ [j])) ++ s' := by simp
      rw [e]
      simpa using (List.perm_append_comm (l₁ := A ++ (C ++ [j])) (l₂ := s'))
    · rintro r _ ⟨s2, rfl, rfl, h2⟩
      refine ⟨F s2, ?_, hQ s2 h2⟩
      show List.Perm _ (A ++ (C ++ (j :: s2)))
      have e : A ++ (C ++ (j :: s2)) = (A ++ (C ++ [j])) ++ s2 := by simp
      rw [e]
      simpa using (List.perm_append_comm (l₁ := s2) (l₂ := A ++ (C ++ [j])))
  have hmain := first_spec g 4 4 #[.func (.func 100) #[] #[.pointer (some ⟨b1, 0, none⟩), .pointer (some ⟨b2, 0, none⟩), .pointer (some ⟨b3, 0, none⟩)], .func (.func 48) #[.pointer (some ⟨dp, 0, none⟩)] #[], .func (.func 100) #[] #[.pointer (some ⟨c1, 0, none⟩), .pointer (some ⟨c2, 0, none⟩), .pointer (some ⟨c3, 0, none⟩)], .func (.func 48) #[.pointer (some ⟨dp, 0, none⟩)] #[]] T (0, 0) fid fst cps I E (by decide) (fun i hi => by rcases lt4 i hi with rfl | rfl | rfl | rfl <;> rfl)
    (fun i hi args w => by rcases lt4 i hi with rfl | rfl | rfl | rfl <;> first | exact call100 args w | exact call48 args w)
    (fun i hi s hI => by
      rcases lt4 i hi with rfl | rfl | rfl | rfl
      · obtain ⟨s', rfl, hd⟩ := hI
        refine one_write b1 b2 b3 jp dp T1 T2 T3 Tt v hv zv bv d (sz + 1) out.tail s' C (F s') hd (by omega) (by omega) (by omega) ?_ _ p1 hp1 F ?_ ?_
        · subst hA hC hj; exact perm_mid
        · intro s2 h2
          refine ⟨p1.1, F s2, rfl, rfl, ?_⟩
          by_cases h : p1.1 = 0
          · exact .inl ⟨h, s2, rfl, h, h2⟩
          · have e : d.app sz out = p1 := by rw [happ, if_pos h]
            exact .inr ⟨h, by rw [e], s2, rfl, by rw [e]; exact h2⟩
        · intro s2; subst hA hC hj; exact perm_mid.symm
      · obtain ⟨s', rfl, g1, hd⟩ := hI
        refine sync_of p1.2 s' _ hd ?_
        intro s2 h2
        rw [← hp2] at h2 ⊢
        refine ⟨p2.1, F s2, rfl, rfl, ?_⟩
        by_cases h : p2.1 = 0
        · exact .inl ⟨h, s2, rfl, g1, h, h2⟩
        · have e : d.app sz out = p2 := by rw [happ, if_neg (fun hh => hh g1), if_pos h]
          exact .inr ⟨h, by rw [e], s2, rfl, by rw [e]; exact h2⟩
      · obtain ⟨s', rfl, g1, g2, hd⟩ := hI
        refine one_write c1 c2 c3 jp dp U1 U2 U3 Tt v hv zv bv p2.2 sz (out.take 1) s' A (F s') hd (by omega) (by omega) (by omega) ?_ _ p3 hp3 F ?_ ?_
        · subst hA hC hj; exact List.perm_append_comm
        · intro s2 h2
          refine ⟨p3.1, F s2, rfl, rfl, ?_⟩
          by_cases h : p3.1 = 0
          · exact .inl ⟨h, s2, rfl, g1, g2, h, h2⟩
          · have e : d.app sz out = p3 := by rw [happ, if_neg (fun hh => hh g1), if_neg (fun hh => hh g2), if_pos h]
            exact .inr ⟨h, by rw [e], s2, rfl, by rw [e]; exact h2⟩
        · intro s2; subst hA hC hj; exact List.perm_append_comm
      · obtain ⟨s', rfl, g1, g2, g3, hd⟩ := hI
        refine sync_of p3.2 s' _ hd ?_
        intro s2 h2
        rw [← hp4] at h2 ⊢
        refine ⟨p4.1, F s2, rfl, rfl, ?_⟩
        by_cases h : p4.1 = 0
        · exact .inl ⟨h, s2, rfl, g1, g2, g3, h, h2⟩
        · have e : d.app sz out = p4 := by rw [happ, if_neg (fun hh => hh g1), if_neg (fun hh => hh g2), if_neg (fun hh => hh g3)]
          exact .inr ⟨h, by rw [e], s2, rfl, by rw [e]; exact h2⟩) (F sd) ⟨sd, rfl, hR⟩
  have key : ∀ s', Amid [[j], s'] [[(g, Obj.cells #[.func (.func 100) #[] #[.pointer (some ⟨b1, 0, none⟩), .pointer (some ⟨b2, 0, none⟩), .pointer (some ⟨b3, 0, none⟩)], .func (.func 48) #[.pointer (some ⟨dp, 0, none⟩)] #[], .func (.func 100) #[] #[.pointer (some ⟨c1, 0, none⟩), .pointer (some ⟨c2, 0, none⟩), .pointer (some ⟨c3, 0, none⟩)], .func (.func 48) #[.pointer (some ⟨dp, 0, none⟩)] #[]] T (0, 0))], F s'] := fun s' => ⟨(g, Obj.cells #[.func (.func 100) #[] #[.pointer (some ⟨b1, 0, none⟩), .pointer (some ⟨b2, 0, none⟩), .pointer (some ⟨b3, 0, none⟩)], .func (.func 48) #[.pointer (some ⟨dp, 0, none⟩)] #[], .func (.func 100) #[] #[.pointer (some ⟨c1, 0, none⟩), .pointer (some ⟨c2, 0, none⟩), .pointer (some ⟨c3, 0, none⟩)], .func (.func 48) #[.pointer (some ⟨dp, 0, none⟩)] #[]] T (0, 0)) :: (A ++ C), by
    simp only [List.flatten_cons, List.flatten_nil, List.append_nil, List.singleton_append]
    show (_ :: (A ++ (C ++ (j :: s')))).Perm _
    have e : A ++ (C ++ (j :: s')) = (A ++ C) ++ (j :: s') := by simp
    rw [e]
    exact ((List.perm_append_comm (l₁ := A ++ C) (l₂ := j :: s')).cons _).trans (List.perm_middle (l₁ := j :: s') (l₂ := A ++ C)).symm⟩
  refine does_weak (does_flat (by subst hA hC hj; simp [F]) hmain) ?_
  rintro r _ ⟨e, s', rfl, rfl, ⟨rfl, s2, rfl, g1, g2, g3, g4, hd⟩ | ⟨he, h1, s2, rfl, hd⟩⟩
  · have e : d.app sz out = p4 := by rw [happ, if_neg (fun hh => hh g1), if_neg (fun hh => hh g2), if_neg (fun hh => hh g3)]
    exact ⟨[[j], s2], ⟨s2, by rw [e, g4], by rw [e]; exact hd, by rw [hj]⟩, key s2⟩
  · exact ⟨[[j], s2], ⟨s2, by rw [h1], hd, by rw [hj]⟩, key s2⟩

end Go.Proofs.YthbadolcncojbaaGreatDoor
