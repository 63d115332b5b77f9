/- Lean functions for the Go functions that the laws of this seat use, and the proofs that the Go code computes them; conditions: the readings that each theorem names. Written by a program. -/
import Derived.Test.YtbaegkghngbecaaDoorProg
import Derived.Below
import Derived.Deep.Draws
import Derived.Deep.AppendLies
import Derived.Maps.AppendAt
import Derived.OwnWalk
import Derived.Laws.BytesArg
import Derived.Laws.MakeOwn
import Derived.Laws.OwnMore
import Derived.Deep.OwnRows
import Derived.Tactics
import Derived.Lib.ConvBytes
import Derived.Laws.Slices
import Derived.WalkKit
import Derived.KernelRfl
import Derived.RowKit3
import Derived.Deep.LoopGhost
import Derived.Deep.QuietTactic
import Derived.BigQuiet
import Derived.WideLaws
import Derived.Deep.DeepCutAuto
import Derived.Deep.CutBlock
import Derived.Deep.RegionHeld3
import Derived.Laws.Rows
import Derived.Lib.AppendStr
import Derived.ArgAppend
import Derived.Laws.IdiomCopy
import Derived.OrdersHeld
import Derived.Laws.BitsLemmas
import Derived.RowKit
import Derived.Test.YtbaegkghngbecaaDoorWWords
import Derived.Test.YtbaegkghngbecaaDoorWLast
import Derived.Test.YtbaegkghngbecaaDoorWTab
import Derived.Test.YtbaegkghngbecaaDoorWFour
import Derived.Test.YtbaegkghngbecaaDoorWQPut
import Derived.Test.YtbaegkghngbecaaDoorWApart
import Derived.Test.YtbaegkghngbecaaDoorWArr
import Derived.Test.YtbaegkghngbecaaDoorWZeros
import Derived.Test.YtbaegkghngbecaaDoorWFoot
import Derived.Test.YtbaegkghngbecaaDoorWKept
import Derived.Test.YtbaegkghngbecaaDoorWShare
import Derived.Test.YtbaegkghngbecaaDoorWN
import Derived.Test.YtbaegkghngbecaaDoorWFootNe
import Derived.Test.YtbaegkghngbecaaDoorWAt
import Derived.Test.YtbaegkghngbecaaDoorWEqStruct
import Derived.Test.YtbaegkghngbecaaDoorWRepsOne
import Derived.Test.YtbaegkghngbecaaDoorWInv
import Derived.Test.YtbaegkghngbecaaDoorWInvWords
import Derived.Test.YtbaegkghngbecaaDoorWGuard
import Derived.Test.YtbaegkghngbecaaDoorWNEv
import Derived.Test.YtbaegkghngbecaaDoorWMore
import Derived.Test.YtbaegkghngbecaaDoorShort
namespace Go.Proofs.YtbaegkghngbecaaDoor.P
open Go.RowKit Go.Proofs.YtbaegkghngbecaaDoorW.PrintWords Go.Proofs.YtbaegkghngbecaaDoorW.PrintLast Go.Proofs.YtbaegkghngbecaaDoorW.PrintMore
set_option linter.unusedVariables false
set_option linter.unusedSimpArgs false



def errW : Option Int → Value
 | none => .nilIface
 | some c => .iface 55 (.int .i64 c)
theorem errW_none : errW none = .nilIface := rfl
theorem errW_some (c : Int) : errW (some c) = .iface 55 (.int .i64 c) := rfl

-- the values' own types

end Go.Proofs.YtbaegkghngbecaaDoor.P
