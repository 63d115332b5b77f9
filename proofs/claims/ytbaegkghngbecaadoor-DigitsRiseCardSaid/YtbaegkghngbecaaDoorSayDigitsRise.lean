/- What the row of DigitsRise reads, in the print's own words, and the one plain statement that is left. Written by a program. -/
import Derived.Test.YtbaegkghngbecaaDoorPx17
import Derived.Test.YtbaegkghngbecaaDoorOpen
namespace Go.Proofs.YtbaegkghngbecaaDoor.digitsRise
open Go.RowKit Go.Proofs.YtbaegkghngbecaaDoor.P Go.Proofs.YtbaegkghngbecaaDoor.Open Go.Proofs.YtbaegkghngbecaaDoorW.PrintWords Go.Proofs.YtbaegkghngbecaaDoorW.PrintLast
def Pure : Prop := ∀ (x0 : Int) (x1 : Int), ((Lit.int .u64 x0).wf = true) → ((Lit.int .u64 x1).wf = true) → ∃ k, tallboylaw02_DigitsRise.f k (x0) (x1) = some true
end Go.Proofs.YtbaegkghngbecaaDoor.digitsRise
