/- StatetreeSmaller as its card wants it. -/
import Derived.Test.YtcbjoojdfelgaaaGreatDoorLd1
import Derived.Test.YtcbjoojdfelgaaaGreatDoorTr19

namespace Go.Proofs.YtcbjoojdfelgaaaGreatDoor
open Go Go.RowKit Gw
set_option linter.unusedVariables false
set_option linter.unusedSimpArgs false
set_option maxRecDepth 100000
attribute [local irreducible] Gw.At Gw.Nx Gw.Ops
theorem smaller_card (p : Option Addr) (cap : Nat) (ys : List (List Int)) (M : List Chunk) (hX : SixIn M (.slice p ys.length cap) ys) (a b c d : Int) (ha : -9223372036854775808 ≤ a ∧ a ≤ 9223372036854775807) (hb : -9223372036854775808 ≤ b ∧ b ≤ 9223372036854775807) (hc : -9223372036854775808 ≤ c ∧ c ≤ 9223372036854775807) (hd : -9223372036854775808 ≤ d ∧ d ≤ 9223372036854775807) (x : Int) (x1 : -9223372036854775808 ≤ x) (x2 : x ≤ 9223372036854775807) (y : Int) (y1 : -9223372036854775808 ≤ y) (y2 : y ≤ 9223372036854775807) (Tg : TypeId) (zg : Nat × Nat) :
    DoesR Tryz.prog 4 #[.slice p ys.length cap, .agg #[.int .i64 a, .int .i64 b, .int .i64 c, .int .i64 d], .int .i64 x, .int .i64 y] [[(0, .cells (kTab.map u32v).toArray Tg zg)], M] (.bool true) := smaller_law hX a b c d x y ha.1 ha.2 hb.1 hb.2 hc.1 hc.2 hd.1 hd.2 x1 x2 y1 y2 Tg zg

end Go.Proofs.YtcbjoojdfelgaaaGreatDoor
