/- Lean functions for the Go functions that the laws of this seat use, and the proofs that the Go code computes them; conditions: the readings that each theorem names. Written by a program. -/
import Derived.Test.YtbfgopinbpbddaaDoorPx0
import Derived.Test.YtbfgopinbpbddaaDoorShort
import Derived.Test.YtbfgopinbpbddaaDoorLd
import Derived.Test.YtbfgopinbpbddaaDoorShelf
import Derived.Lib.Walk
import Derived.Lib.ItoaMem
import Derived.BigCall
import Derived.BigGuard
import Derived.WalkKit
import Derived.Test.YtbfgopinbpbddaaDoorWAll
namespace Go.Proofs.YtbfgopinbpbddaaDoor.P
open Go.RowKit Go.Proofs.YtbfgopinbpbddaaDoorW.PrintWords Go.Proofs.YtbfgopinbpbddaaDoorW.PrintLast Go.Proofs.YtbfgopinbpbddaaDoorW.PrintMore
set_option linter.unusedVariables false
set_option linter.unusedSimpArgs false

-- HAND
-- FN strconv.FormatUint
-- ROUNDS 0
-- MAKING 1
-- LAID T
-- IMPORT Derived.Test.YtbfgopinbpbddaaDoorLd
-- IMPORT Derived.Test.YtbfgopinbpbddaaDoorShelf
-- IMPORT Derived.Lib.Walk
-- IMPORT Derived.Lib.ItoaMem
-- IMPORT Derived.BigCall
-- IMPORT Derived.BigGuard
-- IMPORT Derived.WalkKit
-- IMPORT Derived.Test.YtbfgopinbpbddaaDoorWWords
/-! ### strconv.FormatUint at base 10 -/
end Go.Proofs.YtbfgopinbpbddaaDoor.P
