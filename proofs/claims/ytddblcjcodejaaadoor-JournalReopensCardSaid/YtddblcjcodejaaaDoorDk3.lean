/- Package disk over a plain state. -/
import Derived.Test.YtddblcjcodejaaaDoorDk2
namespace Go.Proofs.YtddblcjcodejaaaDoor
open Go Go.RowKit Gw
set_option linter.unusedVariables false
set_option maxRecDepth 100000
attribute [local irreducible] Gw.At Gw.Nx Gw.Ops
/-- The state of a disk. -/
structure DiskS where
  off : Bool
  left : Nat
  du : List UInt8
  vi : List UInt8
  pend : List (Nat × List UInt8)
def pendC (l : List (Nat × List UInt8)) : List Value := l.flatMap fun p => [.int .i64 (p.1 : Int), .string (str p.2)]
def DiskS.ok (d : DiskS) : Prop := d.du.length = d.vi.length ∧ 1 ≤ d.vi.length ∧ d.vi.length ≤ 4194304 ∧ d.left ≤ 4194304
/-- The memory s is a disk in the state d. -/
def DiskR (d : DiskS) (dp : Nat) (s : List Chunk) : Prop := d.ok ∧ ∃ bd bv pv sp, RowS 2 76 pv d.pend.length (pendC d.pend) sp ∧
  s = (dp, .cells (dkc d.off d.left bd bv d.vi.length pv) 51 (0, 0)) :: (bd, .cells (byc d.du) 5 (0, 0)) :: (bv, .cells (byc d.vi) 5 (0, 0)) :: sp
def DiskS.write (d : DiskS) (o : Nat) (s : List UInt8) : Int × DiskS := if d.off then (221, d) else (0, ⟨usedOff false d.left, usedLeft d.left, d.du, splice d.vi o s, d.pend ++ [(o, s)]⟩)
def DiskS.sync (d : DiskS) : Int × DiskS := if d.off then (221, d) else (0, { d with du := d.vi, pend := [] })
def DiskS.cut (d : DiskS) (m : Nat) : Int × DiskS := if d.off then (221, d) else (0, { d with off := decide (m = 0), left := m })
def DiskS.new (n : Nat) : DiskS := ⟨false, 0, List.replicate n 0, List.replicate n 0, []⟩
theorem does_flat {P : Program} {f : FuncId} {args : Array Value} {H H' : Hp} {Q : Value → Hp → Prop} (e : H.flatten = H'.flatten) (h : Does P f args H Q) : Does P f args H' Q := fun u R w hs =>
  h u R w (hs.sub ⟨[], by simp [e]⟩)
theorem does_mono {P : Program} {f : FuncId} {args : Array Value} {H : Hp} {Q Q' : Value → Hp → Prop} (h : Does P f args H Q) (hq : ∀ v H1, Q v H1 → ∃ H2, Q' v H2 ∧ H1.flatten = H2.flatten) : Does P f args H Q' := fun u R w hs =>
  Calls.mono (h u R w hs) fun e w' he => by
    rcases he with ⟨v, H1, h1, h2, h3⟩ | ⟨_, _, _, h, _⟩
    · obtain ⟨H2, h4, h5⟩ := hq v H1 h2
      exact .inl ⟨v, H2, h1, h4, h3.sub ⟨[], by simp [h5]⟩⟩
    · exact h.elim
/-- The rest of the memory is framed off. -/
theorem does_frame {P : Program} {f : FuncId} {args : Array Value} {H H1 : Hp} {Q : Value → Hp → Prop} (h : Does P f args H1 Q) (R1 : Hp) (e : H.flatten = (H1 ++ R1).flatten) : Does P f args H (fun v H' => ∃ H2, Q v H2 ∧ H' = H2 ++ R1) := fun u R w hs =>
  Calls.mono (h u (R1 ++ R) w (hs.sub ⟨[], by simp only [List.flatten_append, List.append_nil] at e ⊢; rw [e]; simp⟩)) fun ed w' he => by
    rcases he with ⟨v, H2, h1, h2, h3⟩ | ⟨_, _, _, h, _⟩
    · exact .inl ⟨v, H2 ++ R1, h1, ⟨H2, h2, rfl⟩, h3.sub ⟨[], by simp⟩⟩
    · exact h.elim
theorem does_perm {P : Program} {f : FuncId} {args : Array Value} {H H' : Hp} {Q Q' : Value → Hp → Prop} (h : Does P f args H Q) (e : H'.flatten.Perm H.flatten) (hq : ∀ v H1, Q v H1 → ∃ H2, Q' v H2 ∧ H1.flatten.Perm H2.flatten) : Does P f args H' Q' := fun u R w hs =>
  Calls.mono (h u R w (hs.perm (by simp only [List.flatten_append]; exact e.append_right _))) fun ed w' he => by
    rcases he with ⟨v, H1, h1, h2, h3⟩ | ⟨_, _, _, h, _⟩
    · obtain ⟨H2, h4, h5⟩ := hq v H1 h2
      exact .inl ⟨v, H2, h1, h4, h3.perm (by simp only [List.flatten_append]; exact h5.append_right _)⟩
    · exact h.elim
theorem pendC_len (l : List (Nat × List UInt8)) : (pendC l).length = l.length * 2 := by
  induction l with
  | nil => rfl
  | cons a l ih => simp [pendC] at ih ⊢; omega
theorem disk_write (d : DiskS) (dp : Nat) (s : List Chunk) (hR : DiskR d dp s) (o : Nat) (b : List UInt8) (h : o + b.length ≤ d.vi.length) (ho : o < d.vi.length) (hk : d.pend.length ≤ 1000000) :
    Does Tryd.prog 19 #[.pointer (some ⟨dp, 0, none⟩), .int .i64 (o : Int), .string (str b)] [s] (fun r H' => ∃ s', H' = [s'] ∧ r = .int .i64 (d.write o b).1 ∧ DiskR (d.write o b).2 dp s') := by
  obtain ⟨⟨hl, h1, h4, hlf⟩, bd, bv, pv, sp, hr, rfl⟩ := hR
  obtain ⟨off, left, du, vi, pend⟩ := d
  simp only at *
  cases off with
  | true =>
    refine does_mono (does_frame (write_off left dp bd bv vi.length o (str b) pv 51) [(bd, .cells (byc du) 5 (0, 0)) :: (bv, .cells (byc vi) 5 (0, 0)) :: sp] (by simp)) ?_
    rintro v _ ⟨H2, ⟨rfl, rfl⟩, rfl⟩
    exact ⟨[_], ⟨_, rfl, rfl, ⟨hl, h1, h4, hlf⟩, bd, bv, pv, sp, hr, rfl⟩, by simp [DiskS.write]⟩
  | false =>
    refine does_mono (does_flat ?_ (write_spec left dp bd bv vi.length pend.length pv (pendC pend) sp du vi hl rfl h4 hr o b h ho hlf hk)) ?_
    · simp
    · rintro v _ ⟨rfl, pv', sp', hr', rfl⟩
      refine ⟨[_], ⟨_, rfl, rfl, ⟨?_, ?_, ?_, ?_⟩, bd, bv, pv', sp', ?_, rfl⟩, ?_⟩
      · simp only [DiskS.write, Bool.false_eq_true, if_false]; rw [splice_len _ _ _ h]; exact hl
      · simp only [DiskS.write, Bool.false_eq_true, if_false]; rw [splice_len _ _ _ h]; exact h1
      · simp only [DiskS.write, Bool.false_eq_true, if_false]; rw [splice_len _ _ _ h]; exact h4
      · simp only [DiskS.write, Bool.false_eq_true, if_false]; unfold usedLeft; omega
      · simp only [DiskS.write, Bool.false_eq_true, if_false, List.length_append, List.length_cons, List.length_nil]
        have : pendC (pend ++ [(o, b)]) = pendC pend ++ [.int .i64 (o : Int), .string (str b)] := by simp [pendC]
        rw [this]; exact hr'
      · simp [DiskS.write, splice_len _ _ _ h]
theorem disk_sync (d : DiskS) (dp : Nat) (s : List Chunk) (hR : DiskR d dp s) :
    Does Tryd.prog 26 #[.pointer (some ⟨dp, 0, none⟩)] [s] (fun r H' => ∃ s', H' = [s'] ∧ r = .int .i64 d.sync.1 ∧ DiskR d.sync.2 dp s') := by
  obtain ⟨⟨hl, h1, h4, hlf⟩, bd, bv, pv, sp, hr, rfl⟩ := hR
  obtain ⟨off, left, du, vi, pend⟩ := d
  simp only at *
  cases off with
  | true =>
    refine does_mono (does_frame (sync_off left dp bd bv vi.length pv 51) [(bd, .cells (byc du) 5 (0, 0)) :: (bv, .cells (byc vi) 5 (0, 0)) :: sp] (by simp)) ?_
    rintro v _ ⟨H2, ⟨rfl, rfl⟩, rfl⟩
    exact ⟨[_], ⟨_, rfl, rfl, ⟨hl, h1, h4, hlf⟩, bd, bv, pv, sp, hr, rfl⟩, by simp [DiskS.sync]⟩
  | false =>
    refine does_mono (does_flat ?_ (sync_spec left dp bd bv vi.length pend.length pv (pendC pend) sp du vi hl rfl h4 hr)) ?_
    · simp
    · rintro v _ ⟨rfl, b, c, sp', hr', rfl⟩
      exact ⟨[_], ⟨_, rfl, rfl, ⟨rfl, h1, h4, hlf⟩, bd, bv, .slice b 0 c, sp', hr', rfl⟩, by simp [DiskS.sync]⟩
theorem disk_cut (d : DiskS) (dp : Nat) (s : List Chunk) (hR : DiskR d dp s) (ho : d.off = false) (m : Nat) (hm : m ≤ 4194304) :
    Does Tryd.prog 15 #[.pointer (some ⟨dp, 0, none⟩), .int .i64 (m : Int)] [s] (fun r H' => ∃ s', H' = [s'] ∧ r = .int .i64 (d.cut m).1 ∧ DiskR (d.cut m).2 dp s') := by
  obtain ⟨⟨hl, h1, h4, hlf⟩, bd, bv, pv, sp, hr, rfl⟩ := hR
  obtain ⟨off, left, du, vi, pend⟩ := d
  simp only at *
  subst ho
  refine does_mono (does_frame (cut_spec m dp left bd bv vi.length pv 51) [(bd, .cells (byc du) 5 (0, 0)) :: (bv, .cells (byc vi) 5 (0, 0)) :: sp] (by simp)) ?_
  rintro v _ ⟨H2, ⟨rfl, rfl⟩, rfl⟩
  exact ⟨[_], ⟨_, rfl, rfl, ⟨hl, h1, h4, hm⟩, bd, bv, pv, sp, hr, rfl⟩, by simp [DiskS.cut]⟩
theorem disk_size (d : DiskS) (dp : Nat) (s : List Chunk) (hR : DiskR d dp s) : DoesR Tryd.prog 21 #[.pointer (some ⟨dp, 0, none⟩)] [s] (.int .i64 (d.vi.length : Int)) := by
  obtain ⟨hok, bd, bv, pv, sp, hr, rfl⟩ := hR
  refine does_mono (does_frame (size_spec d.off dp d.left bd bv d.vi.length pv 51) [(bd, .cells (byc d.du) 5 (0, 0)) :: (bv, .cells (byc d.vi) 5 (0, 0)) :: sp] (by simp)) ?_
  rintro v _ ⟨H2, ⟨rfl, rfl⟩, rfl⟩
  exact ⟨_, ⟨rfl, rfl⟩, by simp⟩
theorem disk_pending (d : DiskS) (dp : Nat) (s : List Chunk) (hR : DiskR d dp s) : DoesR Tryd.prog 17 #[.pointer (some ⟨dp, 0, none⟩)] [s] (.int .i64 (d.pend.length : Int)) := by
  obtain ⟨hok, bd, bv, pv, sp, hr, rfl⟩ := hR
  obtain ⟨b, c, rfl⟩ := hr.form
  refine does_mono (does_frame (pending_spec d.off dp d.left bd bv d.vi.length d.pend.length c b 51) [(bd, .cells (byc d.du) 5 (0, 0)) :: (bv, .cells (byc d.vi) 5 (0, 0)) :: sp] (by simp)) ?_
  rintro v _ ⟨H2, ⟨rfl, rfl⟩, rfl⟩
  exact ⟨_, ⟨rfl, rfl⟩, by simp⟩
theorem disk_read (d : DiskS) (dp : Nat) (s : List Chunk) (hR : DiskR d dp s) (o m : Nat) (h : o + m ≤ d.vi.length) (ho : o < d.vi.length) :
    DoesR Tryd.prog 20 #[.pointer (some ⟨dp, 0, none⟩), .int .i64 (o : Int), .int .i64 (m : Int)] [s] (if d.off then .tuple #[.string (str []), .int .i64 221] else .tuple #[.string (str ((d.vi.drop o).take m)), .int .i64 0]) := by
  obtain ⟨⟨hl, h1, h4, hlf⟩, bd, bv, pv, sp, hr, rfl⟩ := hR
  obtain ⟨off, left, du, vi, pend⟩ := d
  simp only at *
  cases off with
  | true =>
    refine does_mono (does_frame (read_off left dp bd bv vi.length pv 51 o m) [(bd, .cells (byc du) 5 (0, 0)) :: (bv, .cells (byc vi) 5 (0, 0)) :: sp] (by simp)) ?_
    rintro v _ ⟨H2, ⟨rfl, rfl⟩, rfl⟩
    exact ⟨_, ⟨rfl, rfl⟩, by simp⟩
  | false =>
    have hp : ∀ (x y z : Chunk) (t : List Chunk), (x :: y :: z :: t).Perm (x :: z :: y :: t) := fun x y z t => (List.Perm.swap z y t).cons x
    refine does_perm (does_frame (H := [(dp, .cells (dkc false left bd bv vi.length pv) 51 (0, 0)) :: (bv, .cells (byc vi) 5 (0, 0)) :: (bd, .cells (byc du) 5 (0, 0)) :: sp]) (read_spec left dp bd bv vi.length pv vi 51 5 rfl h4 o m h ho) [[(bd, .cells (byc du) 5 (0, 0))], sp] (by simp)) ?_ ?_
    · simp only [List.flatten_cons, List.flatten_nil, List.append_nil]; exact hp _ _ _ _
    · rintro v _ ⟨H2, ⟨rfl, rfl⟩, rfl⟩
      refine ⟨_, ⟨rfl, rfl⟩, ?_⟩
      simp only [List.flatten_cons, List.flatten_nil, List.append_nil, List.cons_append, List.nil_append]; exact hp _ _ _ _

end Go.Proofs.YtddblcjcodejaaaDoor
