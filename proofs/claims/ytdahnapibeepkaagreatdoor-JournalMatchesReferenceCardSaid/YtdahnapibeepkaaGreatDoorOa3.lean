/- JournalOpensAnything: the law. -/
import Derived.Test.YtdahnapibeepkaaGreatDoorOa2
import Derived.Test.YtdahnapibeepkaaGreatDoorJm6
import Derived.Test.YtdahnapibeepkaaGreatDoorTl2
import Derived.Test.YtdahnapibeepkaaGreatDoorEx12
namespace Go.Proofs.YtdahnapibeepkaaGreatDoor
open Go Go.RowKit Gw
set_option linter.unusedVariables false
set_option maxRecDepth 100000
attribute [local irreducible] Gw.At Gw.Nx Gw.Ops
theorem jr_appendR (j : JrS) (d : DiskS) (jp dp : Nat) (sj sl sd : List Chunk) (v : Value) (ls : List (List UInt8)) (Tg : TypeId) (zg : Nat × Nat) (hJ : JrR j jp dp sj) (hR : DiskR d dp sd) (hl : Row 9 v (ls.map strV) sl) (hbr : j.br = false) (hz : j.sz ≤ d.vi.length) (hk : d.pend.length ≤ 999990) (hls : ls.length ≤ 1000000) (hs : ∀ r ∈ ls, r.length ≤ 65536) (hb : (j.append d ls).2.1.rs.length ≤ 4194304) :
    Does Tryz.prog 8 #[.pointer (some ⟨jp, 0, none⟩), v] [sj, sl, sd, [(4, .cells (kTab.map u32v).toArray Tg zg)]] (fun r H' => ∃ sj' sd', r = .int .i64 (j.append d ls).1 ∧ JrR (j.append d ls).2.1 jp dp sj' ∧ DiskR (j.append d ls).2.2 dp sd' ∧ H' = [sj', sl, sd', [(4, .cells (kTab.map u32v).toArray Tg zg)]]) := by
  refine does_mono (jr_append j d jp dp sj sl sd v ls Tg zg hJ hR hl hbr hz hk hls (isLong_none hs)) ?_
  rintro r _ ⟨v', sr', sd', rfl, h1, h2, rfl⟩
  have hh : (j.append d ls).2.1.h.length = 32 := by
    have h32 := hJ.1
    unfold JrS.append
    repeat' split
    all_goals first | exact h32 | exact headL_len ls j.h h32
  exact ⟨_, ⟨_, sd', rfl, ⟨hh, hb, v', sr', h1, rfl⟩, h2, rfl⟩, by simp⟩
theorem wopen_any (wp dp rp : Nat) (v1 v2 : Value) (d : DiskS) (sd sr : List Chunk) (pa : Addr) (Tx Tg : TypeId) (zx zg : Nat × Nat) (hR : DiskR d dp sd) (hr : RdR d rp sr) (hk : d.pend.length ≤ 999990) :
    Does Tryz.prog 15 #[.pointer (some ⟨wp, 0, none⟩)] [[(wp, .cells #[.pointer (some ⟨dp, 0, none⟩), v1, .pointer (some ⟨rp, 0, none⟩), v2] 32 (0, 0))], sd, sr, [(4, .cells (kTab.map u32v).toArray Tg zg)], [(0, .cells #[.iface 274 (.pointer (some pa))] Tx zx)]]
      (fun r H' => ∃ sd' sr', r = .bool true ∧ DiskR d.openJ.2.2 dp sd' ∧ RdR d.openJ.2.2 rp sr' ∧ ((∃ j jp kp sj sk, d.openJ.2.1 = some j ∧ JrR j jp dp sj ∧ KrR j kp rp sk ∧ H' = [[(wp, .cells #[.pointer (some ⟨dp, 0, none⟩), .pointer (some ⟨jp, 0, none⟩), .pointer (some ⟨rp, 0, none⟩), .pointer (some ⟨kp, 0, none⟩)] 32 (0, 0))], sj, sk, sd', sr', [(4, .cells (kTab.map u32v).toArray Tg zg)], [(0, .cells #[.iface 274 (.pointer (some pa))] Tx zx)]]) ∨ (d.openJ.2.1 = none ∧ H' = [[(wp, .cells #[.pointer (some ⟨dp, 0, none⟩), .pointer none, .pointer (some ⟨rp, 0, none⟩), .pointer none] 32 (0, 0))], sd', sr', [(4, .cells (kTab.map u32v).toArray Tg zg)], [(0, .cells #[.iface 274 (.pointer (some pa))] Tx zx)]]))) := by
  rcases openJ_code d with ⟨j, hj, he⟩ | ⟨hj, he⟩
  · refine does_mono (wopen_some wp dp rp v1 v2 d sd sr pa Tx Tg zx zg hR hr hk j hj he) ?_
    rintro r _ ⟨jp, kp, sj, sk, sd', sr', rfl, hJ, hK, hR', hr', rfl⟩
    exact ⟨_, ⟨sd', sr', rfl, hR', hr', .inl ⟨j, jp, kp, sj, sk, hj, hJ, hK, rfl⟩⟩, rfl⟩
  · refine does_mono (wopen_none wp dp rp v1 v2 d sd sr pa Tx Tg zx zg hR hr hk hj he) ?_
    rintro r _ ⟨sd', sr', rfl, hR', hr', rfl⟩
    exact ⟨_, ⟨sd', sr', rfl, hR', hr', .inr ⟨hj, rfl⟩⟩, rfl⟩
end Go.Proofs.YtdahnapibeepkaaGreatDoor
