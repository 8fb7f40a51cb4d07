/- The journal over plain states. -/
import Derived.Test.YtddblcjcodejaaaDoorPl3
namespace Go.Proofs.YtddblcjcodejaaaDoor
open Go Go.RowKit Gw
set_option linter.unusedVariables false
set_option maxRecDepth 100000
attribute [local irreducible] Gw.At Gw.Nx Gw.Ops
/-- The memory s is a journal in the state j, on the disk dp. -/
def JrR (j : JrS) (jp dp : Nat) (s : List Chunk) : Prop := j.h.length = 32 ∧ j.rs.length ≤ 4194304 ∧ ∃ v sr, Row 9 v (j.rs.map strV) sr ∧ s = (jp, .cells #[v, .string (str j.h), .int .i64 (j.sz : Int), .pointer (some ⟨dp, 0, none⟩), .bool j.br] 58 (0, 0)) :: sr
theorem jr_append (j : JrS) (d : DiskS) (jp dp : Nat) (sj sl sd : List Chunk) (v : Value) (ls : List (List UInt8)) (Tg : TypeId) (zg : Nat × Nat) (hJ : JrR j jp dp sj) (hR : DiskR d dp sd) (hl : Row 9 v (ls.map strV) sl) (hbr : j.br = false) (hz : j.sz ≤ d.vi.length) (hk : d.pend.length ≤ 999990) (hls : ls.length ≤ 1000000) (hany : ls.any isLong = false) :
    Does Tryd.prog 11 #[.pointer (some ⟨jp, 0, none⟩), v] [sj, sl, sd, [(4, .cells (kTab.map u32v).toArray Tg zg)]] (fun r H' => ∃ v' sr' sd', r = .int .i64 (j.append d ls).1 ∧ Row 9 v' ((j.append d ls).2.1.rs.map strV) sr' ∧ DiskR (j.append d ls).2.2 dp sd' ∧
      H' = [(jp, .cells #[v', .string (str (j.append d ls).2.1.h), .int .i64 ((j.append d ls).2.1.sz : Int), .pointer (some ⟨dp, 0, none⟩), .bool (j.append d ls).2.1.br] 58 (0, 0)) :: sr', sl, sd', [(4, .cells (kTab.map u32v).toArray Tg zg)]]) := by
  obtain ⟨rs, h, sz, br⟩ := j
  simp only at hbr hz
  subst hbr
  obtain ⟨hh, hn, v0, sr, hrow, rfl⟩ := hJ
  simp only at hh hn hrow
  rcases hl with ⟨rfl, hx, rfl⟩ | ⟨g, cap, cur, z, rfl, rfl, hle, hcm, hcs, htk, hfr⟩
  · have hls0 : ls = [] := by simpa using hx
    subst hls0
    have he : JrS.append ⟨rs, h, sz, false⟩ d [] = (0, ⟨rs, h, sz, false⟩, d) := by
      unfold JrS.append
      simp only [outL, List.length_nil, Nat.add_zero, List.any_nil]
      rw [if_neg (by simp), if_neg (by omega), if_pos trivial]
    rw [he]
    refine does_mono (does_frame (append_none jp dp sz v0 rs sr sd h d 58 hrow hz hn hR) [[(4, .cells (kTab.map u32v).toArray Tg zg)]] (by simp)) ?_
    rintro r _ ⟨H2, ⟨rfl, rfl⟩, rfl⟩
    exact ⟨_, ⟨v0, sr, sd, rfl, hrow, hR, rfl⟩, by simp⟩
  · rw [List.length_map] at htk hle ⊢
    have hin : CellsIn cur 0 (ls.map strV) := by unfold CellsIn; rw [List.drop_zero, List.length_map]; exact htk
    refine does_mono (does_flat (by simp) (append_main jp dp sz g cap v0 rs ls sr sd h d cur 58 9 Tg z zg hrow hh hz hn hR hk hin hls hany _ rfl)) ?_
    rintro r _ ⟨v', sr', s', rfl, h1, h2, rfl⟩
    exact ⟨_, ⟨v', sr', s', rfl, h1, h2, rfl⟩, by simp⟩

end Go.Proofs.YtddblcjcodejaaaDoor
