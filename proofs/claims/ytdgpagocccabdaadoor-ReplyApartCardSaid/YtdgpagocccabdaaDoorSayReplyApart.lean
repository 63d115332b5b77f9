/- What the row of ReplyApart reads, in the print's own words, and the one plain statement that is left. Written by a program. -/
import Derived.Test.YtdgpagocccabdaaDoorPx32
import Derived.Test.YtdgpagocccabdaaDoorOpen
namespace Go.Proofs.YtdgpagocccabdaaDoor.replyApart
open Go.RowKit Go.Proofs.YtdgpagocccabdaaDoor.P Go.Proofs.YtdgpagocccabdaaDoor.Open Go.Proofs.YtdgpagocccabdaaDoorW.PrintWords Go.Proofs.YtdgpagocccabdaaDoorW.PrintLast
def Pure : Prop := ∀ (x0 : Int) (x1 : Int) (x2 : Int), ((Lit.int .i64 x0).wf = true) → ((Lit.int .i64 x1).wf = true) → ((Lit.int .i64 x2).wf = true) → ∃ k, tallboylaw18_ReplyApart.f k (x0) (x1) (x2) = some true
end Go.Proofs.YtdgpagocccabdaaDoor.replyApart
