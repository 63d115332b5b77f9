/- What the row of ConnLong reads, in the print's own words, and the one plain statement that is left. Written by a program. -/
import Derived.Test.YtginfaencjmhgaaDoorPx18
import Derived.Test.YtginfaencjmhgaaDoorOpen
namespace Go.Proofs.YtginfaencjmhgaaDoor.connLong
open Go.RowKit Go.Proofs.YtginfaencjmhgaaDoor.P Go.Proofs.YtginfaencjmhgaaDoor.Open Go.Proofs.YtginfaencjmhgaaDoorW.PrintWords Go.Proofs.YtginfaencjmhgaaDoorW.PrintLast
def Pure : Prop := ∀ (x0 : Int) (x1 : Int) (x2 : List Int), ((Lit.int .i64 x0).wf = true) → ((Lit.int .u8 x1).wf = true) → ((x2).length * Tryd.prog.bytesOf 5 ≤ 140737488351232 ∧ (x2).length ≤ 9223372036854775807 ∧ ∀ y ∈ x2, (Lit.int .u8 y).wf = true) → tallboylaw19_ConnLong.f (x0) (x1) (x2) = some true
end Go.Proofs.YtginfaencjmhgaaDoor.connLong
