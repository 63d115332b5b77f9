/- What the row of DigitsSigns reads, in the print's own words, and the one plain statement that is left. Written by a program. -/
import Derived.Test.YtbaegkghngbecaaDoorPx19
import Derived.Test.YtbaegkghngbecaaDoorOpen
namespace Go.Proofs.YtbaegkghngbecaaDoor.digitsSigns
open Go.RowKit Go.Proofs.YtbaegkghngbecaaDoor.P Go.Proofs.YtbaegkghngbecaaDoor.Open Go.Proofs.YtbaegkghngbecaaDoorW.PrintWords Go.Proofs.YtbaegkghngbecaaDoorW.PrintLast
def Pure : Prop := ∀ (x0 : Int), ((Lit.int .i64 x0).wf = true) → ∃ k, tallboylaw02_DigitsSigns.f k (x0) = some true
end Go.Proofs.YtbaegkghngbecaaDoor.digitsSigns
