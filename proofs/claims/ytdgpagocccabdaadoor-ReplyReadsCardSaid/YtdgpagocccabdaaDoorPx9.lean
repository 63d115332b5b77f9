/- Lean functions for the Go functions that the laws of this seat use, and the proofs that the Go code computes them; conditions: the readings that each theorem names. Written by a program. -/
import Derived.Test.YtdgpagocccabdaaDoorPx0
import Derived.Test.YtdgpagocccabdaaDoorPx3
import Derived.Test.YtdgpagocccabdaaDoorPx5
import Derived.Test.YtdgpagocccabdaaDoorPx6
import Derived.Test.YtdgpagocccabdaaDoorPx8
import Derived.Test.YtdgpagocccabdaaDoorShort
import Derived.Test.YtdgpagocccabdaaDoorShelf
import Derived.Lib.Walk
import Derived.BigCall
import Derived.BigGuard
import Derived.WalkKit
namespace Go.Proofs.YtdgpagocccabdaaDoor.P
open Go.RowKit Go.Proofs.YtdgpagocccabdaaDoorW.PrintWords Go.Proofs.YtdgpagocccabdaaDoorW.PrintLast Go.Proofs.YtdgpagocccabdaaDoorW.PrintMore
set_option linter.unusedVariables false
set_option linter.unusedSimpArgs false

-- HAND
-- FN tallboy/reply.Text
-- ROUNDS 0
-- MAKING 1
-- FAMS reply
-- LAID T
-- IMPORT Derived.Test.YtdgpagocccabdaaDoorBld
/-! ### reply.Text, by the shelf's builder -/
end Go.Proofs.YtdgpagocccabdaaDoor.P
