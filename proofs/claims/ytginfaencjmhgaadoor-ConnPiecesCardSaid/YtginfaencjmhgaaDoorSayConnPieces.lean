/- What the row of ConnPieces reads, in the print's own words, and the one plain statement that is left. Written by a program. -/
import Derived.Test.YtginfaencjmhgaaDoorPx16
import Derived.Test.YtginfaencjmhgaaDoorOpen
namespace Go.Proofs.YtginfaencjmhgaaDoor.connPieces
open Go.RowKit Go.Proofs.YtginfaencjmhgaaDoor.P Go.Proofs.YtginfaencjmhgaaDoor.Open Go.Proofs.YtginfaencjmhgaaDoorW.PrintWords Go.Proofs.YtginfaencjmhgaaDoorW.PrintLast
def Pure : Prop := ∀ (x0 : List Int) (x1 : List Int), ((x0).length * Tryd.prog.bytesOf 5 ≤ 140737488351232 ∧ (x0).length ≤ 9223372036854775807 ∧ ∀ y ∈ x0, (Lit.int .u8 y).wf = true) → ((x1).length * Tryd.prog.bytesOf 3 ≤ 140737488351232 ∧ (x1).length ≤ 9223372036854775807 ∧ ∀ y ∈ x1, (Lit.int .i64 y).wf = true) → tallboylaw19_ConnPieces.f (x0) (x1) = some true
end Go.Proofs.YtginfaencjmhgaaDoor.connPieces
