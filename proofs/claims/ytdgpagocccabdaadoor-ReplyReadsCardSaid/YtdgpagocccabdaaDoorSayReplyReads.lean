/- What the row of ReplyReads reads, in the print's own words, and the one plain statement that is left. Written by a program. -/
import Derived.Test.YtdgpagocccabdaaDoorPx30
import Derived.Test.YtdgpagocccabdaaDoorOpen
namespace Go.Proofs.YtdgpagocccabdaaDoor.replyReads
open Go.RowKit Go.Proofs.YtdgpagocccabdaaDoor.P Go.Proofs.YtdgpagocccabdaaDoor.Open Go.Proofs.YtdgpagocccabdaaDoorW.PrintWords Go.Proofs.YtdgpagocccabdaaDoorW.PrintLast
def Pure : Prop := ∀ (x0 : Int) (x1 : ByteArray), ((Lit.int .i64 x0).wf = true) → ((x1).size ≤ 140737488351232) → ∃ k, tallboylaw18_ReplyReads.f k (x0) (x1) = some true
end Go.Proofs.YtdgpagocccabdaaDoor.replyReads
