/- Lean functions for the Go functions that the laws of this seat use, and the proofs that the Go code computes them; conditions: the readings that each theorem names. Written by a program. -/
import Derived.Test.YtginfaencjmhgaaDoorPx0
import Derived.Test.YtginfaencjmhgaaDoorShort
import Derived.Test.YtginfaencjmhgaaDoorCn8
namespace Go.Proofs.YtginfaencjmhgaaDoor.P
open Go.RowKit Go.Proofs.YtginfaencjmhgaaDoorW.PrintWords Go.Proofs.YtginfaencjmhgaaDoorW.PrintLast Go.Proofs.YtginfaencjmhgaaDoorW.PrintMore
attribute [local go_sem] min2_int min_two
set_option linter.unusedVariables false
set_option linter.unusedSimpArgs false

-- HAND
-- FN tallboy/tallboylaw19.ConnLong
-- ROUNDS 0
-- MAKING 1
-- FAMS conn
-- LAID S
-- IMPORT Derived.Test.YtginfaencjmhgaaDoorCn8
/-! ### tallboylaw19.ConnLong -/
def tallboylaw19_ConnLong.f (a0 a1 : Int) (l2 : List Int) : Option Bool := if 0 ≤ a1 ∧ a1 < 256 then some true else none
theorem tallboylaw19_ConnLong.calls (a0 a1 : Int) (A2 : Option Addr) (c2 : Nat) (l2 : List Int) (r : Bool) (w : World) (hr2 : Kd.C (Kd.int .u8) w A2 l2.length l2) (hc2 : l2.length ≤ c2) (h : tallboylaw19_ConnLong.f a0 a1 l2 = some r) (hL : LdS w) :
  Calls Tryd.prog 5 #[.int .i64 a0, .int .u8 a1, .slice A2 l2.length c2] w fun e w' => e = .returned (.bool r) ∧ Below w.heap.size w w' := by
 unfold tallboylaw19_ConnLong.f at h
 split at h
 ·rename_i hq
  obtain rfl := Option.some.inj h; exact cl_law w a0 a1 hq A2 c2 l2 hr2 hL
 ·cases h

end Go.Proofs.YtginfaencjmhgaaDoor.P
