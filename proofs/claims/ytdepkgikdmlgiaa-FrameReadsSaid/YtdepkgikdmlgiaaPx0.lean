/- Lean functions for the Go functions that the laws of this seat use, and the proofs that the Go code computes them; conditions: the readings that each theorem names. Written by a program. -/
import Derived.Test.YtdepkgikdmlgiaaProg
import Derived.Below
import Derived.Deep.Draws
import Derived.Deep.AppendLies
import Derived.Maps.AppendAt
import Derived.OwnWalk
import Derived.Laws.BytesArg
import Derived.Laws.MakeOwn
import Derived.Laws.OwnMore
import Derived.Deep.OwnRows
import Derived.Tactics
import Derived.Lib.ConvBytes
import Derived.Laws.Slices
import Derived.WalkKit
import Derived.KernelRfl
import Derived.RowKit3
import Derived.Deep.LoopGhost
import Derived.Deep.QuietTactic
import Derived.BigQuiet
import Derived.WideLaws
import Derived.Deep.DeepCutAuto
import Derived.Deep.CutBlock
import Derived.Deep.RegionHeld3
import Derived.Laws.Rows
import Derived.Lib.AppendStr
import Derived.ArgAppend
import Derived.Laws.IdiomCopy
import Derived.OrdersHeld
import Derived.Laws.BitsLemmas
import Derived.RowKit
import Derived.Test.YtdepkgikdmlgiaaWAll
import Derived.Test.YtdepkgikdmlgiaaShort
namespace Go.Proofs.Ytdepkgikdmlgiaa.P
open Go.RowKit Go.Proofs.YtdepkgikdmlgiaaW.PrintWords Go.Proofs.YtdepkgikdmlgiaaW.PrintLast Go.Proofs.YtdepkgikdmlgiaaW.PrintMore
set_option linter.unusedVariables false
set_option linter.unusedSimpArgs false



def errW : Option Int → Value
 | none => .nilIface
 | some c => .iface 0 (.int .i64 c)
theorem errW_none : errW none = .nilIface := rfl
theorem errW_some (c : Int) : errW (some c) = .iface 0 (.int .i64 c) := rfl

-- the values' own types
/-! #### struct type 31 -/
/-! #### struct type 97 -/
/-! #### struct type 112 -/
/-! #### struct type 102 -/
/-! #### struct type 26 -/
/-! #### struct type 55 -/
/-! #### struct type 70 -/
end Go.Proofs.Ytdepkgikdmlgiaa.P
