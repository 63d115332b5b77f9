/- Lean functions for the Go functions that the laws of this seat use, and the proofs that the Go code computes them; conditions: the readings that each theorem names. Written by a program. -/
import Derived.Test.YtginfaencjmhgaaDoorPx0
import Derived.Test.YtginfaencjmhgaaDoorShort
import Derived.Test.YtginfaencjmhgaaDoorCn9
namespace Go.Proofs.YtginfaencjmhgaaDoor.P
open Go.RowKit Go.Proofs.YtginfaencjmhgaaDoorW.PrintWords Go.Proofs.YtginfaencjmhgaaDoorW.PrintLast Go.Proofs.YtginfaencjmhgaaDoorW.PrintMore
attribute [local go_sem] min2_int min_two
set_option linter.unusedVariables false
set_option linter.unusedSimpArgs false

-- HAND
-- FN tallboy/tallboylaw19.ConnPieces
-- ROUNDS 0
-- MAKING 1
-- FAMS conn
-- LAID S
-- IMPORT Derived.Test.YtginfaencjmhgaaDoorCn9
/-! ### tallboylaw19.ConnPieces -/
def tallboylaw19_ConnPieces.f (l0 : List Int) (l1 : List Int) : Option Bool := some true
theorem tallboylaw19_ConnPieces.calls (A0 : Option Addr) (c0 : Nat) (l0 : List Int) (A1 : Option Addr) (c1 : Nat) (l1 : List Int) (r : Bool) (w : World) (hr0 : Kd.C (Kd.int .u8) w A0 l0.length l0) (hc0 : l0.length ≤ c0) (hr1 : Kd.C (Kd.int .i64) w A1 l1.length l1) (hc1 : l1.length ≤ c1) (h : tallboylaw19_ConnPieces.f l0 l1 = some r) (hL : LdS w) :
  Calls Tryd.prog 3 #[.slice A0 l0.length c0, .slice A1 l1.length c1] w fun e w' => e = .returned (.bool r) ∧ Below w.heap.size w w' := by
 obtain rfl := Option.some.inj h; exact cp_law w A0 c0 l0 A1 c1 l1 hr0 hc0 hr1 hL

end Go.Proofs.YtginfaencjmhgaaDoor.P
