/- What the row of ConnTotal reads, in the print's own words, and the one plain statement that is left. Written by a program. -/
import Derived.Test.YtginfaencjmhgaaDoorPx21
import Derived.Test.YtginfaencjmhgaaDoorOpen
namespace Go.Proofs.YtginfaencjmhgaaDoor.connTotal
open Go.RowKit Go.Proofs.YtginfaencjmhgaaDoor.P Go.Proofs.YtginfaencjmhgaaDoor.Open Go.Proofs.YtginfaencjmhgaaDoorW.PrintWords Go.Proofs.YtginfaencjmhgaaDoorW.PrintLast
def Pure : Prop := ∀ (x0 : List Int), ((x0).length * Tryd.prog.bytesOf 5 ≤ 140737488351232 ∧ (x0).length ≤ 9223372036854775807 ∧ ∀ y ∈ x0, (Lit.int .u8 y).wf = true) → tallboylaw19_ConnTotal.f (x0) = some true
end Go.Proofs.YtginfaencjmhgaaDoor.connTotal
