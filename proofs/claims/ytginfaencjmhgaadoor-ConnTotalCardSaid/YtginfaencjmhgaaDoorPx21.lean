/- Lean functions for the Go functions that the laws of this seat use, and the proofs that the Go code computes them; conditions: the readings that each theorem names. Written by a program. -/
import Derived.Test.YtginfaencjmhgaaDoorPx0
import Derived.Test.YtginfaencjmhgaaDoorShort
import Derived.Test.YtginfaencjmhgaaDoorCn7
namespace Go.Proofs.YtginfaencjmhgaaDoor.P
open Go.RowKit Go.Proofs.YtginfaencjmhgaaDoorW.PrintWords Go.Proofs.YtginfaencjmhgaaDoorW.PrintLast Go.Proofs.YtginfaencjmhgaaDoorW.PrintMore
attribute [local go_sem] min2_int min_two
set_option linter.unusedVariables false
set_option linter.unusedSimpArgs false

-- HAND
-- FN tallboy/tallboylaw19.ConnTotal
-- ROUNDS 0
-- MAKING 1
-- FAMS conn
-- LAID S
-- IMPORT Derived.Test.YtginfaencjmhgaaDoorCn7
/-! ### tallboylaw19.ConnTotal -/
def tallboylaw19_ConnTotal.f (l0 : List Int) : Option Bool := some true
theorem tallboylaw19_ConnTotal.calls (A0 : Option Addr) (c0 : Nat) (l0 : List Int) (r : Bool) (w : World) (hr0 : Kd.C (Kd.int .u8) w A0 l0.length l0) (hc0 : l0.length ≤ c0) (h : tallboylaw19_ConnTotal.f l0 = some r) (hL : LdS w) :
  Calls Tryd.prog 6 #[.slice A0 l0.length c0] w fun e w' => e = .returned (.bool r) ∧ Below w.heap.size w w' := by
 obtain rfl := Option.some.inj h; exact ct_law w A0 c0 l0 hr0 hL

end Go.Proofs.YtginfaencjmhgaaDoor.P
