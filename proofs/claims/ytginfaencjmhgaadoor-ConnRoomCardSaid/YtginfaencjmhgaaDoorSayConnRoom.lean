/- What the row of ConnRoom reads, in the print's own words, and the one plain statement that is left. Written by a program. -/
import Derived.Test.YtginfaencjmhgaaDoorPx22
import Derived.Test.YtginfaencjmhgaaDoorOpen
namespace Go.Proofs.YtginfaencjmhgaaDoor.connRoom
open Go.RowKit Go.Proofs.YtginfaencjmhgaaDoor.P Go.Proofs.YtginfaencjmhgaaDoor.Open Go.Proofs.YtginfaencjmhgaaDoorW.PrintWords Go.Proofs.YtginfaencjmhgaaDoorW.PrintLast
def Pure : Prop := ∀ (x0 : Int) (x1 : ByteArray), ((Lit.int .i64 x0).wf = true) → ((x1).size ≤ 140737488351232) → tallboylaw19_ConnRoom.f (x0) (x1) = some true
end Go.Proofs.YtginfaencjmhgaaDoor.connRoom
