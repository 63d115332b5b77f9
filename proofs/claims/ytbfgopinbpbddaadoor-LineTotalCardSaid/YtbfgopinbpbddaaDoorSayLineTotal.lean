/- What the row of LineTotal reads, in the print's own words, and the one plain statement that is left. Written by a program. -/
import Derived.Test.YtbfgopinbpbddaaDoorPx39
import Derived.Test.YtbfgopinbpbddaaDoorOpen
namespace Go.Proofs.YtbfgopinbpbddaaDoor.lineTotal
open Go.RowKit Go.Proofs.YtbfgopinbpbddaaDoor.P Go.Proofs.YtbfgopinbpbddaaDoor.Open Go.Proofs.YtbfgopinbpbddaaDoorW.PrintWords Go.Proofs.YtbfgopinbpbddaaDoorW.PrintLast
def Pure : Prop := ∀ (x0 : ByteArray), ((x0).size ≤ 140737488351232) → ∃ k, tallboylaw17_LineTotal.f k (x0) = some true
end Go.Proofs.YtbfgopinbpbddaaDoor.lineTotal
