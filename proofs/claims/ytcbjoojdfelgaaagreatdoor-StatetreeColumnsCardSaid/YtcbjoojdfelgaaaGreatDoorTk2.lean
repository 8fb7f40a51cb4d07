/- StatetreeColumns as its card wants it. -/
import Derived.Test.YtcbjoojdfelgaaaGreatDoorTk1
import Derived.Test.YtcbjoojdfelgaaaGreatDoorTr15

namespace Go.Proofs.YtcbjoojdfelgaaaGreatDoor
open Go Go.RowKit Gw
set_option linter.unusedVariables false
set_option linter.unusedSimpArgs false
set_option maxRecDepth 100000
attribute [local irreducible] Gw.At Gw.Nx Gw.Ops
theorem columns_card (p : Option Addr) (cap : Nat) (ys : List (List Int)) (M : List Chunk) (hX : SixIn M (.slice p ys.length cap) ys) (a : Int) (a1 : -9223372036854775808 ≤ a) (a2 : a ≤ 9223372036854775807) (b : Int) (b1 : -9223372036854775808 ≤ b) (b2 : b ≤ 9223372036854775807) (c : Int) (c1 : -9223372036854775808 ≤ c) (c2 : c ≤ 9223372036854775807) (Tg : TypeId) (zg : Nat × Nat) :
    DoesR Tryz.prog 6 #[.slice p ys.length cap, .int .i64 a, .int .i64 b, .int .i64 c] [[(0, .cells (kTab.map u32v).toArray Tg zg)], M] (.bool true) := columns_law hX a b c a1 a2 b1 b2 c1 c2 Tg zg

end Go.Proofs.YtcbjoojdfelgaaaGreatDoor
