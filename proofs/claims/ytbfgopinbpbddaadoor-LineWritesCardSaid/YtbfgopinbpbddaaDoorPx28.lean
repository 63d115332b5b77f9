/- Lean functions for the Go functions that the laws of this seat use, and the proofs that the Go code computes them; conditions: the readings that each theorem names. Written by a program. -/
import Derived.Test.YtbfgopinbpbddaaDoorPx0
import Derived.Test.YtbfgopinbpbddaaDoorPx17
import Derived.Test.YtbfgopinbpbddaaDoorShort
namespace Go.Proofs.YtbfgopinbpbddaaDoor.P
open Go.RowKit Go.Proofs.YtbfgopinbpbddaaDoorW.PrintWords Go.Proofs.YtbfgopinbpbddaaDoorW.PrintLast Go.Proofs.YtbfgopinbpbddaaDoorW.PrintMore
set_option linter.unusedVariables false
set_option linter.unusedSimpArgs false

-- NOT PRINTED: function 39 (line_reader_number)

-- NOT PRINTED: function 36 (line_stores)

-- NOT PRINTED: function 14 (line_Parse)

/-! ### tallboyref17_Words: function 18 -/
/-! ### tallboyref17_bad: function 41 -/
/-! ### tallboyref15_Kind: function 42 -/
/-! ### tallboyref02_Parse: function 49 -/
end Go.Proofs.YtbfgopinbpbddaaDoor.P
