/- Lean functions for the Go functions that the laws of this seat use, and the proofs that the Go code computes them; conditions: the readings that each theorem names. Written by a program. -/
import Derived.Test.YtdgpagocccabdaaDoorPx0
import Derived.Test.YtdgpagocccabdaaDoorShort
import Derived.Test.YtdgpagocccabdaaDoorShelf
import Derived.Test.YtdgpagocccabdaaDoorWAll
namespace Go.Proofs.YtdgpagocccabdaaDoor.P
open Go.RowKit Go.Proofs.YtdgpagocccabdaaDoorW.PrintWords Go.Proofs.YtdgpagocccabdaaDoorW.PrintLast Go.Proofs.YtdgpagocccabdaaDoorW.PrintMore
set_option linter.unusedVariables false
set_option linter.unusedSimpArgs false

-- HAND
-- FN strings.Join
-- ROUNDS 0
-- MAKING 1
-- FAMS line reply
-- IMPORT Derived.Test.YtdgpagocccabdaaDoorShelf
-- IMPORT Derived.Test.YtdgpagocccabdaaDoorWWords
/-! ### strings.Join, however many elements -/
end Go.Proofs.YtdgpagocccabdaaDoor.P
