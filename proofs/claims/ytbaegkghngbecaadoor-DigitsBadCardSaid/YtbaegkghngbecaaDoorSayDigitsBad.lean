/- What the row of DigitsBad reads, in the print's own words, and the one plain statement that is left. Written by a program. -/
import Derived.Test.YtbaegkghngbecaaDoorPx20
import Derived.Test.YtbaegkghngbecaaDoorOpen
namespace Go.Proofs.YtbaegkghngbecaaDoor.digitsBad
open Go.RowKit Go.Proofs.YtbaegkghngbecaaDoor.P Go.Proofs.YtbaegkghngbecaaDoor.Open Go.Proofs.YtbaegkghngbecaaDoorW.PrintWords Go.Proofs.YtbaegkghngbecaaDoorW.PrintLast
def Pure : Prop := ∀ (x0 : ByteArray) (x1 : Int) (x2 : Int), ((x0).size ≤ 140737488351232) → ((Lit.int .i64 x1).wf = true) → ((Lit.int .u8 x2).wf = true) → ∃ k, tallboylaw02_DigitsBad.f k (x0) (x1) (x2) = some true
end Go.Proofs.YtbaegkghngbecaaDoor.digitsBad
