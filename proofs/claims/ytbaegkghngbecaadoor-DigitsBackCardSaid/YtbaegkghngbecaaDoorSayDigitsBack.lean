/- What the row of DigitsBack reads, in the print's own words, and the one plain statement that is left. Written by a program. -/
import Derived.Test.YtbaegkghngbecaaDoorPx16
import Derived.Test.YtbaegkghngbecaaDoorOpen
namespace Go.Proofs.YtbaegkghngbecaaDoor.digitsBack
open Go.RowKit Go.Proofs.YtbaegkghngbecaaDoor.P Go.Proofs.YtbaegkghngbecaaDoor.Open Go.Proofs.YtbaegkghngbecaaDoorW.PrintWords Go.Proofs.YtbaegkghngbecaaDoorW.PrintLast
def Pure : Prop := ∀ (x0 : Int) (x1 : ByteArray), ((Lit.int .u64 x0).wf = true) → ((x1).size ≤ 140737488351232) → ∃ k, tallboylaw02_DigitsBack.f k (x0) (x1) = some true
end Go.Proofs.YtbaegkghngbecaaDoor.digitsBack
