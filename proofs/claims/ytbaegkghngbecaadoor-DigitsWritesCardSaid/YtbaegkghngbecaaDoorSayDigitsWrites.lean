/- What the row of DigitsWrites reads, in the print's own words, and the one plain statement that is left. Written by a program. -/
import Derived.Test.YtbaegkghngbecaaDoorPx6
import Derived.Test.YtbaegkghngbecaaDoorOpen
namespace Go.Proofs.YtbaegkghngbecaaDoor.digitsWrites
open Go.RowKit Go.Proofs.YtbaegkghngbecaaDoor.P Go.Proofs.YtbaegkghngbecaaDoor.Open Go.Proofs.YtbaegkghngbecaaDoorW.PrintWords Go.Proofs.YtbaegkghngbecaaDoorW.PrintLast
def Pure : Prop := ∀ (x0 : Int), ((Lit.int .u64 x0).wf = true) → ∃ k, tallboylaw02_DigitsWrites.f k (x0) = some true
end Go.Proofs.YtbaegkghngbecaaDoor.digitsWrites
