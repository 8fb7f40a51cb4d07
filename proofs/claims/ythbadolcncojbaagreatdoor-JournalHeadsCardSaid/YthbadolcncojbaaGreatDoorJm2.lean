/- The journal over plain states. The journal over plain states: Open, Records, Room. -/
import Derived.Test.YthbadolcncojbaaGreatDoorPl3
namespace Go.Proofs.YthbadolcncojbaaGreatDoor
open Go Go.RowKit Gw
set_option linter.unusedVariables false
set_option linter.unusedSimpArgs false
set_option maxRecDepth 100000
attribute [local irreducible] Gw.At Gw.Nx Gw.Ops
/-- The memory s is a journal in the state j, on the disk dp. -/
def JrR (j : JrS) (jp dp : Nat) (s : List Chunk) : Prop := j.h.length = 32 ∧ j.rs.length ≤ 4194304 ∧ ∃ v sr, Row 9 v (j.rs.map strV) sr ∧ s = (jp, .cells #[v, .string (str j.h), .int .i64 (j.sz : Int), .pointer (some ⟨dp, 0, none⟩), .bool j.br] 109 (0, 0)) :: sr
theorem jr_append (j : JrS) (d : DiskS) (jp dp : Nat) (sj sl sd : List Chunk) (v : Value) (ls : List (List UInt8)) (Tg : TypeId) (zg : Nat × Nat) (hJ : JrR j jp dp sj) (hR : DiskR d dp sd) (hl : Row 9 v (ls.map strV) sl) (hbr : j.br = false) (hz : j.sz ≤ d.vi.length) (hk : d.pend.length ≤ 999990) (hls : ls.length ≤ 1000000) (hany : ls.any isLong = false) :
    Does Tryz.prog 13 #[.pointer (some ⟨jp, 0, none⟩), v] [sj, sl, sd, [(4, .cells (kTab.map u32v).toArray Tg zg)]] (fun r H' => ∃ v' sr' sd', r = .int .i64 (j.append d ls).1 ∧ Row 9 v' ((j.append d ls).2.1.rs.map strV) sr' ∧ DiskR (j.append d ls).2.2 dp sd' ∧
      H' = [(jp, .cells #[v', .string (str (j.append d ls).2.1.h), .int .i64 ((j.append d ls).2.1.sz : Int), .pointer (some ⟨dp, 0, none⟩), .bool (j.append d ls).2.1.br] 109 (0, 0)) :: sr', sl, sd', [(4, .cells (kTab.map u32v).toArray Tg zg)]]) := by
  obtain ⟨rs, h, sz, br⟩ := j
  simp only at hbr hz
  subst hbr
  obtain ⟨hh, hn, v0, sr, hrow, rfl⟩ := hJ
  simp only at hh hn hrow
  rcases hl with ⟨rfl, hx, rfl⟩ | ⟨g, cap, cur, z, rfl, rfl, hle, hcm, hcs, htk, hfr⟩
  · have hls0 : ls = [] := by simpa using hx
    subst hls0
    have he : JrS.append ⟨rs, h, sz, false⟩ d [] = (0, ⟨rs, h, sz, false⟩, d) := by
      unfold JrS.append
      simp only [outL, List.length_nil, Nat.add_zero, List.any_nil]
      rw [if_neg (by simp), if_neg (by omega), if_pos trivial]
    rw [he]
    refine does_mono (does_frame (append_none jp dp sz v0 rs sr sd h d 109 hrow hz hn hR) [[(4, .cells (kTab.map u32v).toArray Tg zg)]] (by simp)) ?_
    rintro r _ ⟨H2, ⟨rfl, rfl⟩, rfl⟩
    exact ⟨_, ⟨v0, sr, sd, rfl, hrow, hR, rfl⟩, by simp⟩
  · rw [List.length_map] at htk hle ⊢
    have hin : CellsIn cur 0 (ls.map strV) := by unfold CellsIn; rw [List.drop_zero, List.length_map]; exact htk
    refine does_mono (does_flat (by simp) (append_main jp dp sz g cap v0 rs ls sr sd h d cur 109 9 Tg z zg hrow hh hz hn hR hk hin hls hany _ rfl)) ?_
    rintro r _ ⟨v', sr', s', rfl, h1, h2, rfl⟩
    exact ⟨_, ⟨v', sr', s', rfl, h1, h2, rfl⟩, by simp⟩

theorem jr_open (j : JrS) (d : DiskS) (dp : Nat) (sd : List Chunk) (pa : Addr) (Tx Tg : TypeId) (zx zg : Nat × Nat) (hD : JD j d) (hR : DiskR d dp sd) :
    Does Tryz.prog 10 #[.pointer (some ⟨dp, 0, none⟩)] [sd, [(4, .cells (kTab.map u32v).toArray Tg zg)], [(0, .cells #[.iface 299 (.pointer (some pa))] Tx zx)]] (fun r H' => ∃ jp sj, r = .tuple #[.pointer (some ⟨jp, 0, none⟩), .int .i64 0] ∧ JrR j jp dp sj ∧ H' = [sj, sd, [(4, .cells (kTab.map u32v).toArray Tg zg)], [(0, .cells #[.iface 299 (.pointer (some pa))] Tx zx)]]) := by
  obtain ⟨rs, h, sz, br⟩ := j
  have hbr := hD.br
  simp only at hbr
  subst hbr
  have hvi : d.vi.length ≤ 4194304 := hR.1.2.2.1
  refine does_mono (open_clean dp d sd pa Tx Tg zx zg hR hD.off rs h sz hD.load.1 hD.load.2) ?_
  rintro r _ ⟨v, sr, jp, g1, g2, g3, g4, rfl, rfl⟩
  exact ⟨_, ⟨jp, _, rfl, ⟨g1, by simp only; omega, v, sr, g4, rfl⟩, rfl⟩, by simp⟩
theorem jr_records (j : JrS) (jp dp : Nat) (sj : List Chunk) (hJ : JrR j jp dp sj) :
    Does Tryz.prog 39 #[.pointer (some ⟨jp, 0, none⟩)] [sj] (fun r H' => ∃ sr', Row 9 r (j.rs.map strV) sr' ∧ H' = [sj, sr']) := by
  obtain ⟨hh, hn, v, sr, hrow, rfl⟩ := hJ
  refine does_perm (records_spec jp v (.string (str j.h)) (.int .i64 (j.sz : Int)) (.pointer (some ⟨dp, 0, none⟩)) (.bool j.br) j.rs sr 109 hrow (by omega)) (by simp) ?_
  rintro r _ ⟨sr', h1, rfl⟩
  refine ⟨_, ⟨sr', h1, rfl⟩, ?_⟩
  simp only [List.flatten_cons, List.flatten_nil, List.append_nil, List.singleton_append, List.cons_append, List.nil_append]
  exact List.Perm.cons _ List.perm_append_comm
theorem jr_room (j : JrS) (d : DiskS) (jp dp : Nat) (sj sd : List Chunk) (hJ : JrR j jp dp sj) (hR : DiskR d dp sd) (hz : j.sz ≤ d.vi.length) :
    DoesR Tryz.prog 17 #[.pointer (some ⟨jp, 0, none⟩)] [sj, sd] (.int .i64 ((d.vi.length : Int) - (j.sz : Int))) := by
  obtain ⟨hh, hn, v, sr, hrow, rfl⟩ := hJ
  have hvi : d.vi.length ≤ 4194304 := hR.1.2.2.1
  have hp : ∀ (x : Chunk) (A B : List Chunk), (x :: (A ++ B)).Perm (x :: (B ++ A)) := fun x A B => List.Perm.cons _ List.perm_append_comm
  refine does_perm (does_frame (H := [[(jp, .cells #[v, .string (str j.h), .int .i64 (j.sz : Int), .pointer (some ⟨dp, 0, none⟩), .bool j.br] 109 (0, 0))], sd, sr]) (room_spec jp j.sz dp v j.h j.br 109 d sd hR (by omega)) [sr] rfl) ?_ ?_
  · simp only [List.flatten_cons, List.flatten_nil, List.append_nil, List.singleton_append, List.cons_append, List.nil_append]; exact List.Perm.cons _ List.perm_append_comm
  · rintro r _ ⟨H2, ⟨rfl, rfl⟩, rfl⟩
    refine ⟨_, ⟨rfl, rfl⟩, ?_⟩
    simp only [List.flatten_cons, List.flatten_nil, List.flatten_append, List.append_nil, List.singleton_append, List.cons_append, List.nil_append]; exact List.Perm.cons _ List.perm_append_comm

end Go.Proofs.YthbadolcncojbaaGreatDoor
