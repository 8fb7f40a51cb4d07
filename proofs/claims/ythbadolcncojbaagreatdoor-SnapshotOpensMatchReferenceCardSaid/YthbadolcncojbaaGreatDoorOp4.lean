/- Contracts: the two calls of journal.Open, Open where the tail is not zeros. -/
import Derived.Test.YthbadolcncojbaaGreatDoorEz
import Derived.Test.YthbadolcncojbaaGreatDoorOp3
import Derived.Test.YthbadolcncojbaaGreatDoorEr1

namespace Go.Proofs.YthbadolcncojbaaGreatDoor
open Go.Proofs.Tryz
open Go Go.RowKit Gw
set_option linter.unusedVariables false
set_option maxRecDepth 100000
attribute [local irreducible] Gw.At Gw.Nx Gw.Ops
theorem drop_some (l : List UInt8) (h : ¬ ∀ x ∈ l, x = 0) : ∃ a t, l.dropWhile (· == 0) = a :: t ∧ a ≠ 0 := by
  induction l with
  | nil => exact absurd (by simp) h
  | cons a l ih =>
    by_cases ha : a = 0
    · subst ha
      rw [List.dropWhile_cons_of_pos (by simp)]
      exact ih (fun hh => h (by intro x hx; rcases List.mem_cons.1 hx with rfl | hx; rfl; exact hh x hx))
    · rw [List.dropWhile_cons_of_neg (by simpa using ha)]
      exact ⟨a, l, rfl, ha⟩
theorem trim_ne (l : List UInt8) (h : ¬ ∀ x ∈ l, x = 0) : Lib.trimB l 0 ≠ [] := by
  obtain ⟨a, t, h1, ha⟩ := drop_some l.reverse (fun hh => h (fun x hx => hh x (List.mem_reverse.2 hx)))
  have hr : Lib.trimRightB l 0 = t.reverse ++ [a] := by
    unfold Lib.trimRightB
    rw [show l.reverse.dropWhile (· == 0) = a :: t from h1]; simp
  unfold Lib.trimB
  rw [hr]
  obtain ⟨b, t2, h3, _⟩ := drop_some (t.reverse ++ [a]) (fun hh => ha (hh a (by simp)))
  unfold Lib.trimLeftB
  intro hc
  rw [show (t.reverse ++ [a]).dropWhile (· == 0) = b :: t2 from h3] at hc
  cases hc
theorem trim_any (l : List UInt8) (hl : l.length ≤ 9223372036854775807) : DoesR Tryz.prog 45 #[.string (str l), .string ⟨#[0]⟩] [] (.string (str (Lib.trimB l 0))) :=
  spec_below (Rl := fun v => v = .string (str (Lib.trimB l 0))) (fun w _ => (Tryz.strings_Trim_one (str l) 0 (by decide) w (by rw [str_size]; exact hl)).mono (by
    rintro e w' ⟨rfl, h2⟩
    refine ⟨_, rfl, ?_, ?_⟩
    · rw [str_list]; rfl
    · rcases h2 with rfl | rfl
      · exact Below.refl _ _
      · exact ⟨rfl, rfl, rfl, Nat.le_refl _, fun _ _ => rfl⟩)) (fun v hv => ⟨hv, rfl⟩)
def DiskS.zero (d : DiskS) (sz : Nat) : Int × DiskS :=
  let p1 := d.write sz (List.replicate (d.vi.length - sz) 0)
  if p1.1 ≠ 0 then p1 else p1.2.sync
theorem open_calls (g b1 b2 b3 jp dp sz : Nat) (T T1 T2 T3 Tt : TypeId) (v hv zv bv : Value) (d : DiskS) (sd : List Chunk) (hR : DiskR d dp sd) (hfit : sz < d.vi.length) (hk : d.pend.length ≤ 999990) :
    Does Tryz.prog 46 #[.slice (some ⟨g, 0, none⟩) 2 2] [[(g, .cells #[.func (.func 100) #[] #[.pointer (some ⟨b1, 0, none⟩), .pointer (some ⟨b2, 0, none⟩), .pointer (some ⟨b3, 0, none⟩)], .func (.func 48) #[.pointer (some ⟨dp, 0, none⟩)] #[]] T (0, 0))],
        cloC b1 b2 b3 jp T1 T2 T3 (sz : Int) (str (List.replicate (d.vi.length - sz) 0)), [jrC jp dp v hv zv bv Tt], sd]
      (fun r H' => ∃ s', r = .int .i64 (d.zero sz).1 ∧ DiskR (d.zero sz).2 dp s' ∧ H' = [[jrC jp dp v hv zv bv Tt], s']) := by
  have hvi : d.vi.length ≤ 4194304 := hR.1.2.2.1
  obtain ⟨A, hA⟩ : ∃ A, A = cloC b1 b2 b3 jp T1 T2 T3 (sz : Int) (str (List.replicate (d.vi.length - sz) 0)) := ⟨_, rfl⟩
  obtain ⟨j, hj⟩ : ∃ j, j = jrC jp dp v hv zv bv Tt := ⟨_, rfl⟩
  obtain ⟨p1, hp1⟩ : ∃ p, p = d.write sz (List.replicate (d.vi.length - sz) 0) := ⟨_, rfl⟩
  obtain ⟨p2, hp2⟩ : ∃ p, p = p1.2.sync := ⟨_, rfl⟩
  have happ : d.zero sz = if p1.1 ≠ 0 then p1 else p2 := by
    subst hp2 hp1; rfl
  let F : List Chunk → List Chunk := fun s' => A ++ (j :: s')
  let I : Nat → List Chunk → Prop := fun i s => ∃ s', s = F s' ∧ match i with
    | 0 => DiskR d dp s'
    | 1 => p1.1 = 0 ∧ DiskR p1.2 dp s'
    | _ => p1.1 = 0 ∧ p2.1 = 0 ∧ DiskR p2.2 dp s'
  let E : Int → List Chunk → Prop := fun e s => (d.zero sz).1 = e ∧ ∃ s', s = F s' ∧ DiskR (d.zero sz).2 dp s'
  let fid : Nat → FuncId := fun | 0 => 100 | _ => 48
  let fst : Nat → Array Value := fun | 0 => #[] | _ => #[.pointer (some ⟨dp, 0, none⟩)]
  let cps : Nat → Array Value := fun | 0 => #[.pointer (some ⟨b1, 0, none⟩), .pointer (some ⟨b2, 0, none⟩), .pointer (some ⟨b3, 0, none⟩)] | _ => #[]
  have lt2 : ∀ i, i < 2 → i = 0 ∨ i = 1 := fun i h => by omega
  have sync_of : ∀ (q : DiskS) (s' : List Chunk) (QQ : Value → Hp → Prop), DiskR q dp s' → (∀ s2, DiskR q.sync.2 dp s2 → QQ (.int .i64 q.sync.1) [F s2]) → Does Tryz.prog 48 #[.pointer (some ⟨dp, 0, none⟩)] [F s'] QQ := fun q s' QQ hq hQ => by
    refine does_seg (X := A ++ [j]) (disk_sync q dp s' hq) ?_ ?_
    · show (A ++ (j :: s')).Perm _
      have e : A ++ (j :: s') = (A ++ [j]) ++ s' := by simp
      rw [e]
      simpa using (List.perm_append_comm (l₁ := A ++ [j]) (l₂ := s'))
    · rintro r _ ⟨s2, rfl, rfl, h2⟩
      refine ⟨F s2, ?_, hQ s2 h2⟩
      show List.Perm _ (A ++ (j :: s2))
      have e : A ++ (j :: s2) = (A ++ [j]) ++ s2 := by simp
      rw [e]
      simpa using (List.perm_append_comm (l₁ := s2) (l₂ := A ++ [j]))
  have hmain := first_spec g 2 2 #[.func (.func 100) #[] #[.pointer (some ⟨b1, 0, none⟩), .pointer (some ⟨b2, 0, none⟩), .pointer (some ⟨b3, 0, none⟩)], .func (.func 48) #[.pointer (some ⟨dp, 0, none⟩)] #[]] T (0, 0) fid fst cps I E (by decide) (fun i hi => by rcases lt2 i hi with rfl | rfl <;> rfl)
    (fun i hi args w => by rcases lt2 i hi with rfl | rfl <;> first | exact call100 args w | exact call48 args w)
    (fun i hi s hI => by
      rcases lt2 i hi with rfl | rfl
      · obtain ⟨s', rfl, hd⟩ := hI
        refine one_write b1 b2 b3 jp dp T1 T2 T3 Tt v hv zv bv d sz (List.replicate (d.vi.length - sz) 0) s' [] (F s') hd (by rw [List.length_replicate]; omega) (by omega) (by omega) ?_ _ p1 hp1 F ?_ ?_
        · subst hA hj; simp only [List.append_nil, F]; exact List.Perm.refl _
        · intro s2 h2
          refine ⟨p1.1, F s2, rfl, rfl, ?_⟩
          by_cases h : p1.1 = 0
          · exact .inl ⟨h, s2, rfl, h, h2⟩
          · have e : d.zero sz = p1 := by rw [happ, if_pos h]
            exact .inr ⟨h, by rw [e], s2, rfl, by rw [e]; exact h2⟩
        · intro s2; subst hA hj; simp only [List.append_nil, F]; exact List.Perm.refl _
      · obtain ⟨s', rfl, g1, hd⟩ := hI
        refine sync_of p1.2 s' _ hd ?_
        intro s2 h2
        rw [← hp2] at h2 ⊢
        refine ⟨p2.1, F s2, rfl, rfl, ?_⟩
        by_cases h : p2.1 = 0
        · exact .inl ⟨h, s2, rfl, g1, h, h2⟩
        · have e : d.zero sz = p2 := by rw [happ, if_neg (fun hh => hh g1)]
          exact .inr ⟨h, by rw [e], s2, rfl, by rw [e]; exact h2⟩) (F sd) ⟨sd, rfl, hR⟩
  have key : ∀ s', Amid [[j], s'] [[(g, Obj.cells #[.func (.func 100) #[] #[.pointer (some ⟨b1, 0, none⟩), .pointer (some ⟨b2, 0, none⟩), .pointer (some ⟨b3, 0, none⟩)], .func (.func 48) #[.pointer (some ⟨dp, 0, none⟩)] #[]] T (0, 0))], F s'] := fun s' => ⟨(g, Obj.cells #[.func (.func 100) #[] #[.pointer (some ⟨b1, 0, none⟩), .pointer (some ⟨b2, 0, none⟩), .pointer (some ⟨b3, 0, none⟩)], .func (.func 48) #[.pointer (some ⟨dp, 0, none⟩)] #[]] T (0, 0)) :: A, by
    simp only [List.flatten_cons, List.flatten_nil, List.append_nil, List.singleton_append]
    show (_ :: (A ++ (j :: s'))).Perm _
    exact ((List.perm_append_comm (l₁ := A) (l₂ := j :: s')).cons _).trans (List.perm_middle (l₁ := j :: s') (l₂ := A)).symm⟩
  refine does_weak (does_flat (by subst hA hj; simp [F]) hmain) ?_
  rintro r _ ⟨e, s', rfl, rfl, ⟨rfl, s2, rfl, g1, g2, hd⟩ | ⟨he, h1, s2, rfl, hd⟩⟩
  · have e : d.zero sz = p2 := by rw [happ, if_neg (fun hh => hh g1)]
    exact ⟨[[j], s2], ⟨s2, by rw [e, g2], by rw [e]; exact hd, by rw [hj]⟩, key s2⟩
  · exact ⟨[[j], s2], ⟨s2, by rw [h1], hd, by rw [hj]⟩, key s2⟩
theorem open_calls' (g b1 b2 b3 jp dp sz : Nat) (T T1 T2 T3 Tt : TypeId) (v hv zv bv : Value) (d : DiskS) (sd : List Chunk) (hR : DiskR d dp sd) (hfit : sz < d.vi.length) (hk : d.pend.length ≤ 999990) :
    Does Tryz.prog 46 #[.slice (some ⟨g, 0, none⟩) 2 2] [[(g, .cells #[.func (.func 100) #[] #[.pointer (some ⟨b1, 0, none⟩), .pointer (some ⟨b2, 0, none⟩), .pointer (some ⟨b3, 0, none⟩)], .func (.func 48) #[.pointer (some ⟨dp, 0, none⟩)] #[]] T (0, 0))],
        [(b1, .cells #[.pointer (some ⟨jp, 0, none⟩)] T1 (0, 0))], [(b2, .cells #[.int .i64 (sz : Int)] T2 (0, 0))], [(b3, .cells #[.string (str (List.replicate (d.vi.length - sz) 0))] T3 (0, 0))], [jrC jp dp v hv zv bv Tt], sd]
      (fun r H' => ∃ s', r = .int .i64 (d.zero sz).1 ∧ DiskR (d.zero sz).2 dp s' ∧ H' = [[jrC jp dp v hv zv bv Tt], s']) :=
  does_flat (by simp) (open_calls g b1 b2 b3 jp dp sz T T1 T2 T3 Tt v hv zv bv d sd hR hfit hk)

theorem open_tail (dp : Nat) (d : DiskS) (sd : List Chunk) (pa : Addr) (Tx Tg : TypeId) (zx zg : Nat × Nat) (hR : DiskR d dp sd) (hoff : d.off = false) (hk : d.pend.length ≤ 999990) (rs : List (List UInt8)) (h : List UInt8) (sz : Nat) (hl : loadL d.vi (d.vi.length + 1) [] zero32 0 = some (rs, h, sz)) (hz : ¬ ∀ x ∈ d.vi.drop sz, x = 0) : Does Tryz.prog 10 #[.pointer (some ⟨dp, 0, none⟩)] [sd, [(4, .cells (kTab.map u32v).toArray Tg zg)], [(0, .cells #[.iface 299 (.pointer (some pa))] Tx zx)]]
      (fun r H' => ∃ v sr jp sd', h.length = 32 ∧ sz ≤ d.vi.length ∧ rs.length ≤ sz ∧ Row 9 v (rs.map strV) sr ∧ DiskR (d.zero sz).2 dp sd' ∧
        (((d.zero sz).1 = 0 ∧ r = .tuple #[.pointer (some ⟨jp, 0, none⟩), .int .i64 0] ∧ H' = [[(jp, .cells #[v, .string (str h), .int .i64 (sz : Int), .pointer (some ⟨dp, 0, none⟩), .bool false] 109 (0, 0))], sr, sd', [(4, .cells (kTab.map u32v).toArray Tg zg)], [(0, .cells #[.iface 299 (.pointer (some pa))] Tx zx)]]) ∨
         ((d.zero sz).1 ≠ 0 ∧ r = .tuple #[.pointer none, .int .i64 (d.zero sz).1] ∧ H' = [sd', [(4, .cells (kTab.map u32v).toArray Tg zg)], [(0, .cells #[.iface 299 (.pointer (some pa))] Tx zx)]]))) := by
 have hvi : d.vi.length ≤ 4194304 := hR.1.2.2.1
 refine spec_enter func10 rfl ntmps10 rfl ?_
 intro u R
 refine Zb [0] ?_
 refine Zq <| Zg <| Za Y <| Za Y <| Z0 <| Zx <| Zq <| Zq <| Zg <| Zm Y ?_
 first | refine op_v (p_eql_nil_nil underlying26 Y Y) ?_ | refine op_v (p_eql_ptr_nil underlying26 Y Y) ?_
 refine Z0 <| Zx ?_
 refine at_if_bool Y (fun hc1 => ?_) (fun hc1 => ?_)
 ·
  cases hc1
 ·
  refine at_skip <| Zx <| Zq <| Zg <| Zm Y <| Zm Y <| Zr [_] Y call43 Y rfl (disk_size d dp sd hR) ?_
  rintro _ _ ⟨rfl, rfl⟩
  refine Zr [_, _, _] Y call16 Y rfl ((by have h := disk_read d dp sd hR 0 d.vi.length (by omega) (by have := hR.1.2.1; omega); rw [hoff] at h; simp only [Bool.false_eq_true, if_false, List.drop_zero, List.take_length] at h; exact h : DoesR Tryz.prog 16 #[.pointer (some ⟨dp, 0, none⟩), .int .i64 ((0 : Nat) : Int), .int .i64 (d.vi.length : Int)] [sd] (.tuple #[.string (str d.vi), .int .i64 0]))) ?_
  rintro _ _ ⟨rfl, rfl⟩
  refine Zm Y <| Zd Y rfl <| Zd Y rfl <| Za Y <| Za Y <| Z0 <| Zn [0, 4, 5] ?_
  refine Zx <| Zq <| Zq <| Zg <| Zm Y ?_
  first | refine op_v (p_neq_nat (n := 0) Y Y) ?_ | refine op_v (p_neq Y Y) ?_
  refine Z0 <| Zx ?_
  first | refine at_if Y (fun hc2 => ?_) (fun hc2 => ?_) | refine at_if_bool Y (fun hc2 => ?_) (fun hc2 => ?_)
  ·
   exact absurd rfl hc2
  ·
   refine at_skip <| Zx <| Zq <| Zg <| Zm Y <| Zm Y ?_
   refine ops_eff Y (fits_of rfl) rfl (w_call (vs := [_, _]) Y call44 Y rfl ((does_mono (Q' := fun r H' => ∃ v sr jp, h.length = 32 ∧ sz ≤ d.vi.length ∧ rs.length ≤ sz ∧ Row 9 v (rs.map strV) sr ∧ r = .tuple #[.pointer (some ⟨jp, 0, none⟩), .int .i64 0] ∧ H' = [[(jp, .cells #[v, .string (str h), .int .i64 (sz : Int), .pointer (some ⟨dp, 0, none⟩), .bool false] 109 (0, 0))], sr, [(4, .cells (kTab.map u32v).toArray Tg zg)], [(0, .cells #[.iface 299 (.pointer (some pa))] Tx zx)]]) (open_spec dp d.vi pa Tx Tg zx zg hvi) (by
      rintro r H1 (⟨rs2, h2, sz2, v, sr, jp, hl2, g1, g2, g3, g4, rfl, rfl⟩ | ⟨hl2, _⟩)
      · rw [hl] at hl2; injection hl2 with e; injection e with e1 e2; injection e2 with e2 e3; subst e1 e2 e3; exact ⟨_, ⟨v, sr, jp, g1, g2, g3, g4, rfl, rfl⟩, rfl⟩
      · rw [hl] at hl2; cases hl2))) (by repeat (first | exact Pull.nil _ | (apply Pull.cons; (focus (repeat (first | exact One.here _ _ | apply One.there))))))) ?_ no_pan
   rintro _ _ ⟨_, ⟨v, sr, jp, g1, g2, g3, g4, rfl, rfl⟩, rfl⟩
   have hlt : sz < d.vi.length := by
     rcases Nat.lt_or_ge sz d.vi.length with h9 | h9
     · exact h9
     · exact absurd (by rw [List.drop_of_length_le h9]; simp) hz
   refine Zm Y <| Zd Y rfl <| Zd Y rfl <| Za Y <| Za Y <| Z0 <| Zx <| Zq <| Zq <| Zg <| Zm Y ?_
   first | refine op_v (p_neq_nat (n := 0) Y Y) ?_ | refine op_v (p_neq Y Y) ?_
   refine Z0 <| Zx ?_
   first | refine at_if Y (fun hc3 => ?_) (fun hc3 => ?_) | refine at_if_bool Y (fun hc3 => ?_) (fun hc3 => ?_)
   ·
    exact absurd rfl hc3
   ·
    refine at_skip <| Zx <| Zq <| Zq <| Zg <| Zm Y <| Zm Y <| Zp Y rfl <| Zh 0 underlying109 rfl rfl sizeOf107 Y <| Zv (p_fieldAddr1 (off := 2) underlying107 rfl rfl sizeOf3 Y) <| Zl isAgg3 Y ?_
    refine op_w (p_slice_drop underlying9 Y Y g2) rfl rfl ?_
    refine Zr [_, _] Y call45 Y rfl (trim_any _ (by rw [List.length_drop]; omega)) ?_
    rintro _ _ ⟨rfl, rfl⟩
    refine Zv (p_neq_str Y Y) <| Z0 <| Zn [0, 4, 5, 6, 36] ?_
    refine Zx ?_
    first | refine at_if Y (fun htr => ?_) (fun htr => ?_) | refine at_if_bool Y (fun htr => ?_) (fun htr => ?_)
    ·
     refine at_draw (n := 22) (0 :: 0 :: 2 :: 6 :: 14 :: 30 :: 0 :: 64 :: 0 :: 256 :: 768 :: 1792 :: 3840 :: 8128 :: 16320 :: 32704 :: 65535 :: 0 :: 131072 :: 524287 :: 1048575 :: 2097151 :: []) 1654784 (by kernel_rfl) (by kernel_rfl) rfl ?_
     refine Zi 1 0 rfl (p_move Y) <| Zi 3 1 rfl (p_move Y) <| Zi 7 2 rfl (p_nilChk Y rfl) <| Zi 15 3 rfl (p_fieldAddr0 (off := 0) underlying109 rfl rfl sizeOf107 Y) <| Zi 31 4 rfl (p_fieldAddr1 (off := 2) underlying107 rfl rfl sizeOf3 Y) <| Zj 63 5 rfl isAgg3 Y ?_
     refine Zi 127 6 rfl (p_move Y) <| lin_w (D' := 255) 7 rfl rfl rfl (p_len_strL underlying9 Y) ?_
     refine Zi 511 8 rfl (p_move Y) <| Zi 1023 9 rfl (p_nilChk Y rfl) <| Zi 2047 10 rfl (p_fieldAddr0 (off := 0) underlying109 rfl rfl sizeOf107 Y) <| Zi 4095 11 rfl (p_fieldAddr1 (off := 2) underlying107 rfl rfl sizeOf3 Y) <| Zj 8191 12 rfl isAgg3 Y ?_
     first | (refine lin_v (D' := 16383) 13 (p_sub_nat Y Y ?_ ?_) ?_; (focus (omega)); (focus (omega))) | (refine lin_v (D' := 16383) 13 (p_sub Y Y (IntWalk.i64_in _ ?_)) ?_; (focus (omega)))
     refine Zi 147455 17 rfl (p_move Y) <| Zi 409599 18 rfl (p_makeFunc (vs := [_]) (us := []) Y Y) ?_
     refine Zz (l := [14]) ?_
     refine Zy 16320 425983 [12, 5] [false, true] [(5, (_, _))] rfl Y rfl rfl rfl rfl (w_makeSlice (by_ := 1) underlying36 (rfl : Tryz.prog.info? 5 = some Tryz.t5) rfl rfl rfl rfl Y Y ?_ ?_ ?_) ?hk_1 (fun _ _ h => h.elim) ?hl_1
     (focus (omega))
     (focus (omega))
     (focus (omega))
     case hk_1 =>
      rintro _ _ ⟨gm, rfl, rfl⟩
      refine ⟨Zk (keep_nil), ?_⟩
      refine lin_r (D' := 458751) 15 rfl rfl rfl (by repeat (first | exact Has.here _ | apply Has.there)) (p_conv_bytes_str underlying36 underlying5 underlying9 Y (by exact (show (_ = List.map u8v (List.replicate (d.vi.length - sz) 0)) ∧ _ from ⟨by simp [u8v], by simp⟩))) ?_
      refine Zz (l := [16]) ?_
      refine Zy 65535 524287 [15, 5] [false, false] [] rfl Y rfl rfl rfl rfl (Zw [_, _, _] Y call47 Y rfl (writing_spec _ _ _)) ?hk_2 no_pan ?hl_2
      case hk_2 =>
       rintro _ _ ⟨_, ⟨b1, b2, b3, rfl, rfl⟩, rfl⟩
       refine ⟨keep_nil, ?_⟩
       refine Zz (l := [19]) ?_
       refine Zy 524287 1048575 [] [] [] rfl Y rfl rfl rfl rfl (w_buildSlice (vs := [_, _]) (cs := [_, _]) underlying181 sizeOf111 zeroValue111 Y rfl rfl rfl rfl rfl) ?hk_3 (fun _ _ h => h.elim) ?hl_3
       case hk_3 =>
        rintro _ _ ⟨gf, rfl, rfl⟩
        refine ⟨keep_nil, ?_⟩
        refine Zz (l := [20]) ?_
        refine Zy 1048575 2097151 [] [] [] rfl Y rfl rfl rfl rfl (Zw [_] Y call46 Y rfl (open_calls' gf b1 b2 b3 jp dp sz _ _ _ _ _ _ _ _ _ d sd hR hlt hk)) ?hk_4 no_pan ?hl_4
        case hk_4 =>
         rintro _ _ ⟨_, ⟨s2, rfl, hR2, rfl⟩, rfl⟩
         refine ⟨keep_nil, ?_⟩
         refine Zi 4194303 21 rfl (p_assign Y) <| lin_nil ?_
         refine Zn [5, 6] ?_
         refine Zx <| Zq <| Zq <| Zg <| Zm Y ?_
         first | refine op_v (p_neq_nat (n := 0) Y Y) ?_ | refine op_v (p_neq Y Y) ?_
         refine Z0 <| Zx ?_
         first | refine at_if Y (fun hq0 => ?_) (fun hq0 => ?_) | refine at_if_bool Y (fun hq0 => ?_) (fun hq0 => ?_)
         ·
          refine Zq <| Zg <| Zm Y <| Za Y <| Za Y <| Z0 <| Zx <| at_ret <| Zt ?_
          refine nx_end2 rfl results10 Y Y (by exact ⟨v, sr, jp, s2, g1, g2, g3, g4, hR2, .inr ⟨hq0, rfl, rfl⟩⟩)
         ·
          refine at_skip <| Zx <| Zq <| Zg <| Zm Y <| Za Y <| Za Y <| Z0 <| Zx <| at_ret ?_
          refine nx_end2 rfl results10 Y Y (by exact ⟨v, sr, jp, s2, g1, g2, g3, g4, hR2, .inl ⟨Classical.not_not.1 hq0, rfl, rfl⟩⟩)
        case hl_4 =>
         exact each_nil
       case hl_3 =>
        exact each_nil
      case hl_2 =>
       exact each_nil
     case hl_1 =>
      exact each_nil
    ·
     exact absurd (fun e => trim_ne _ hz (by have h9 := congrArg (fun t : ByteArray => t.data.toList) e; simpa [str] using h9)) htr

end Go.Proofs.YthbadolcncojbaaGreatDoor
