/- Lean functions for the Go functions that the laws of this seat use, and the proofs that the Go code computes them; conditions: the readings that each theorem names. Written by a program. -/
import Derived.Test.YtdepkgikdmlgiaaPx0
import Derived.Test.YtdepkgikdmlgiaaPx3
import Derived.Test.YtdepkgikdmlgiaaShort
import Derived.StillTailTactics
namespace Go.Proofs.Ytdepkgikdmlgiaa.P
open Go.RowKit Go.Proofs.YtdepkgikdmlgiaaW.PrintWords Go.Proofs.YtdepkgikdmlgiaaW.PrintLast Go.Proofs.YtdepkgikdmlgiaaW.PrintMore
set_option linter.unusedVariables false
set_option linter.unusedSimpArgs false

-- HAND
-- FN tallboy/frame.Pack
-- ROUNDS 0
-- MAKING 1
-- NEEDS tallboy/frame.put tallboy/frame.fits
-- IMPORT Derived.StillTailTactics
/-! ### frame.Pack: an array of bytes in memory -/
end Go.Proofs.Ytdepkgikdmlgiaa.P
