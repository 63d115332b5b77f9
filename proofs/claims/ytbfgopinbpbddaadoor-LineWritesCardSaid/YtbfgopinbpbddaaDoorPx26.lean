/- Lean functions for the Go functions that the laws of this seat use, and the proofs that the Go code computes them; conditions: the readings that each theorem names. Written by a program. -/
import Derived.Test.YtbfgopinbpbddaaDoorPx0
import Derived.Test.YtbfgopinbpbddaaDoorPx22
import Derived.Test.YtbfgopinbpbddaaDoorPx23
import Derived.Test.YtbfgopinbpbddaaDoorPx25
import Derived.Test.YtbfgopinbpbddaaDoorShort
namespace Go.Proofs.YtbfgopinbpbddaaDoor.P
open Go.RowKit Go.Proofs.YtbfgopinbpbddaaDoorW.PrintWords Go.Proofs.YtbfgopinbpbddaaDoorW.PrintLast Go.Proofs.YtbfgopinbpbddaaDoorW.PrintMore
set_option linter.unusedVariables false
set_option linter.unusedSimpArgs false

/-! ### digits_Signed: function 66 -/
-- NOT PRINTED: function 38 (line_reader_signed)

/-! ### line_reader_done: function 40 -/
-- NOT PRINTED: function 34 (line_reads)

end Go.Proofs.YtbfgopinbpbddaaDoor.P
