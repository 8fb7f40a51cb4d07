/- The journal over plain states: Open, Records, Room. -/
import Derived.Test.YtddblcjcodejaaaDoorJm1
namespace Go.Proofs.YtddblcjcodejaaaDoor
open Go Go.RowKit Gw
set_option linter.unusedVariables false
set_option maxRecDepth 100000
attribute [local irreducible] Gw.At Gw.Nx Gw.Ops
theorem jr_open (j : JrS) (d : DiskS) (dp : Nat) (sd : List Chunk) (pa : Addr) (Tx Tg : TypeId) (zx zg : Nat × Nat) (hD : JD j d) (hR : DiskR d dp sd) :
    Does Tryd.prog 8 #[.pointer (some ⟨dp, 0, none⟩)] [sd, [(4, .cells (kTab.map u32v).toArray Tg zg)], [(0, .cells #[.iface 155 (.pointer (some pa))] Tx zx)]] (fun r H' => ∃ jp sj, r = .tuple #[.pointer (some ⟨jp, 0, none⟩), .int .i64 0] ∧ JrR j jp dp sj ∧ H' = [sj, sd, [(4, .cells (kTab.map u32v).toArray Tg zg)], [(0, .cells #[.iface 155 (.pointer (some pa))] Tx zx)]]) := by
  obtain ⟨rs, h, sz, br⟩ := j
  have hbr := hD.br
  simp only at hbr
  subst hbr
  have hvi : d.vi.length ≤ 4194304 := hR.1.2.2.1
  refine does_mono (open_clean dp d sd pa Tx Tg zx zg hR hD.off rs h sz hD.load.1 hD.load.2) ?_
  rintro r _ ⟨v, sr, jp, g1, g2, g3, g4, rfl, rfl⟩
  exact ⟨_, ⟨jp, _, rfl, ⟨g1, by simp only; omega, v, sr, g4, rfl⟩, rfl⟩, by simp⟩
theorem jr_records (j : JrS) (jp dp : Nat) (sj : List Chunk) (hJ : JrR j jp dp sj) :
    Does Tryd.prog 13 #[.pointer (some ⟨jp, 0, none⟩)] [sj] (fun r H' => ∃ sr', Row 9 r (j.rs.map strV) sr' ∧ H' = [sj, sr']) := by
  obtain ⟨hh, hn, v, sr, hrow, rfl⟩ := hJ
  refine does_perm (records_spec jp v (.string (str j.h)) (.int .i64 (j.sz : Int)) (.pointer (some ⟨dp, 0, none⟩)) (.bool j.br) j.rs sr 58 hrow (by omega)) (by simp) ?_
  rintro r _ ⟨sr', h1, rfl⟩
  refine ⟨_, ⟨sr', h1, rfl⟩, ?_⟩
  simp only [List.flatten_cons, List.flatten_nil, List.append_nil, List.singleton_append, List.cons_append, List.nil_append]
  exact List.Perm.cons _ List.perm_append_comm
theorem jr_room (j : JrS) (d : DiskS) (jp dp : Nat) (sj sd : List Chunk) (hJ : JrR j jp dp sj) (hR : DiskR d dp sd) (hz : j.sz ≤ d.vi.length) :
    DoesR Tryd.prog 12 #[.pointer (some ⟨jp, 0, none⟩)] [sj, sd] (.int .i64 ((d.vi.length : Int) - (j.sz : Int))) := by
  obtain ⟨hh, hn, v, sr, hrow, rfl⟩ := hJ
  have hvi : d.vi.length ≤ 4194304 := hR.1.2.2.1
  have hp : ∀ (x : Chunk) (A B : List Chunk), (x :: (A ++ B)).Perm (x :: (B ++ A)) := fun x A B => List.Perm.cons _ List.perm_append_comm
  refine does_perm (does_frame (H := [[(jp, .cells #[v, .string (str j.h), .int .i64 (j.sz : Int), .pointer (some ⟨dp, 0, none⟩), .bool j.br] 58 (0, 0))], sd, sr]) (room_spec jp j.sz dp v j.h j.br 58 d sd hR (by omega)) [sr] rfl) ?_ ?_
  · simp only [List.flatten_cons, List.flatten_nil, List.append_nil, List.singleton_append, List.cons_append, List.nil_append]; exact List.Perm.cons _ List.perm_append_comm
  · rintro r _ ⟨H2, ⟨rfl, rfl⟩, rfl⟩
    refine ⟨_, ⟨rfl, rfl⟩, ?_⟩
    simp only [List.flatten_cons, List.flatten_nil, List.flatten_append, List.append_nil, List.singleton_append, List.cons_append, List.nil_append]; exact List.Perm.cons _ List.perm_append_comm

end Go.Proofs.YtddblcjcodejaaaDoor
