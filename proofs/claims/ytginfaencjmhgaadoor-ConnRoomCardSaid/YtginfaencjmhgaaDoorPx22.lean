/- Lean functions for the Go functions that the laws of this seat use, and the proofs that the Go code computes them; conditions: the readings that each theorem names. Written by a program. -/
import Derived.Test.YtginfaencjmhgaaDoorPx0
import Derived.Test.YtginfaencjmhgaaDoorShort
import Derived.Test.YtginfaencjmhgaaDoorCna
namespace Go.Proofs.YtginfaencjmhgaaDoor.P
open Go.RowKit Go.Proofs.YtginfaencjmhgaaDoorW.PrintWords Go.Proofs.YtginfaencjmhgaaDoorW.PrintLast Go.Proofs.YtginfaencjmhgaaDoorW.PrintMore
attribute [local go_sem] min2_int min_two
set_option linter.unusedVariables false
set_option linter.unusedSimpArgs false

-- HAND
-- FN tallboy/tallboylaw19.ConnRoom
-- ROUNDS 0
-- MAKING 1
-- FAMS conn
-- LAID S
-- IMPORT Derived.Test.YtginfaencjmhgaaDoorCna
/-! ### tallboylaw19.ConnRoom -/
def tallboylaw19_ConnRoom.f (a0 : Int) (a1 : ByteArray) : Option Bool := some true
theorem tallboylaw19_ConnRoom.calls (a0 : Int) (a1 : ByteArray) (r : Bool) (w : World) (h : tallboylaw19_ConnRoom.f a0 a1 = some r) (hL : LdS w) :
  Calls Tryd.prog 7 #[.int .i64 a0, .string a1] w fun e w' => e = .returned (.bool r) ∧ Below w.heap.size w w' := by
 obtain rfl := Option.some.inj h; exact cr_law w a0 a1 hL

end Go.Proofs.YtginfaencjmhgaaDoor.P
