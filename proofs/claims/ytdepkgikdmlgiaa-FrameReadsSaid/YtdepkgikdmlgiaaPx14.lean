/- Lean functions for the Go functions that the laws of this seat use, and the proofs that the Go code computes them; conditions: the readings that each theorem names. Written by a program. -/
import Derived.Test.YtdepkgikdmlgiaaPx0
import Derived.Test.YtdepkgikdmlgiaaShort
import Derived.Test.YtdepkgikdmlgiaaFr6
namespace Go.Proofs.Ytdepkgikdmlgiaa.P
open Go.RowKit Go.Proofs.YtdepkgikdmlgiaaW.PrintWords Go.Proofs.YtdepkgikdmlgiaaW.PrintLast Go.Proofs.YtdepkgikdmlgiaaW.PrintMore
set_option linter.unusedVariables false
set_option linter.unusedSimpArgs false

-- HAND
-- FN tallboy/tallboylaw29.FrameReads
-- ROUNDS 0
-- MAKING 1
-- FAMS frame
-- IMPORT Derived.Test.YtdepkgikdmlgiaaFr6
/-! ### tallboylaw29.FrameReads -/
def tallboylaw29_FrameReads.f (l0 : List (List Int)) : Option Bool := some true
theorem tallboylaw29_FrameReads.calls (A0 : Option Addr) (c0 : Nat) (l0 : List (List Int)) (r : Bool) (w : World) (hr0 : Kd.C (Kd.slice 5 (Kd.int .u8)) w A0 l0.length l0) (hc0 : l0.length ≤ c0) (h : tallboylaw29_FrameReads.f l0 = some r) :
  Calls Try.prog 4 #[.slice A0 l0.length c0] w fun e w' => e = .returned (.bool r) ∧ Below w.heap.size w w' := by
 obtain rfl := Option.some.inj h; exact fr_law w A0 c0 l0 hr0 hc0 Go.Proofs.Ytdepkgikdmlgiaa.Pl.nxt

end Go.Proofs.Ytdepkgikdmlgiaa.P
