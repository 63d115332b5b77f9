/- Lean functions for the Go functions that the laws of this seat use, and the proofs that the Go code computes them; conditions: the readings that each theorem names. Written by a program. -/
import Derived.Test.YtmogojefpjmhkaaProg
import Derived.Below
import Derived.Deep.Draws
import Derived.Deep.AppendLies
import Derived.Maps.AppendAt
import Derived.OwnWalk
import Derived.Laws.BytesArg
import Derived.Laws.MakeOwn
import Derived.Laws.OwnMore
import Derived.Deep.OwnRows
import Derived.Tactics
import Derived.Lib.ConvBytes
import Derived.Laws.Slices
import Derived.WalkKit
import Derived.KernelRfl
import Derived.RowKit3
import Derived.Deep.LoopGhost
import Derived.Deep.QuietTactic
import Derived.BigQuiet
import Derived.WideLaws
import Derived.Deep.DeepCutAuto
import Derived.Deep.CutBlock
import Derived.Deep.RegionHeld3
import Derived.Laws.Rows
import Derived.Lib.AppendStr
import Derived.ArgAppend
import Derived.Laws.IdiomCopy
import Derived.OrdersHeld
import Derived.Laws.BitsLemmas
import Derived.RowKit
import Derived.Test.YtmogojefpjmhkaaWWords
import Derived.Test.YtmogojefpjmhkaaWLast
import Derived.Test.YtmogojefpjmhkaaWTab
import Derived.Test.YtmogojefpjmhkaaWFour
import Derived.Test.YtmogojefpjmhkaaWQPut
import Derived.Test.YtmogojefpjmhkaaWApart
import Derived.Test.YtmogojefpjmhkaaWArr
import Derived.Test.YtmogojefpjmhkaaWZeros
import Derived.Test.YtmogojefpjmhkaaWFoot
import Derived.Test.YtmogojefpjmhkaaWKept
import Derived.Test.YtmogojefpjmhkaaWShare
import Derived.Test.YtmogojefpjmhkaaWN
import Derived.Test.YtmogojefpjmhkaaWFootNe
import Derived.Test.YtmogojefpjmhkaaWAt
import Derived.Test.YtmogojefpjmhkaaWEqStruct
import Derived.Test.YtmogojefpjmhkaaWRepsOne
import Derived.Test.YtmogojefpjmhkaaWInv
import Derived.Test.YtmogojefpjmhkaaWInvWords
import Derived.Test.YtmogojefpjmhkaaWGuard
import Derived.Test.YtmogojefpjmhkaaWNEv
import Derived.Test.YtmogojefpjmhkaaWMore
namespace Go.Proofs.Ytmogojefpjmhkaa.P
open Go.RowKit Go.Proofs.YtmogojefpjmhkaaW.PrintWords Go.Proofs.YtmogojefpjmhkaaW.PrintLast Go.Proofs.YtmogojefpjmhkaaW.PrintMore
attribute [local go_sem] max2_int min2_int max_two min_two max_three min_three max_four min_four   -- for this text's walks alone
set_option linter.unusedVariables false
set_option linter.unusedSimpArgs false



def errW : Option Int → Value
  | none => .nilIface
  | some c => .iface 0 (.int .i64 c)
theorem errW_none : errW none = .nilIface := rfl
theorem errW_some (c : Int) : errW (some c) = .iface 0 (.int .i64 c) := rfl

theorem info3 : (Try.prog.info? 3).map (fun i => (i.zero, i.size, i.bytes)) = some (some (.int .i64 0), 1, 8) := by kernel_rfl
theorem info9 : (Try.prog.info? 9).map (fun i => (i.zero, i.size, i.bytes)) = some (some (.string ⟨#[]⟩), 1, 16) := by kernel_rfl
-- the values' own types

end Go.Proofs.Ytmogojefpjmhkaa.P
