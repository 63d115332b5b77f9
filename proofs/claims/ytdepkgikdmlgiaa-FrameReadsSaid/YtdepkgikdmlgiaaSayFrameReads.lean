/- What the row of FrameReads reads, in the print's own words, and the one plain statement that is left. Written by a program. -/
import Derived.Test.YtdepkgikdmlgiaaPx14
import Derived.Test.YtdepkgikdmlgiaaOpen
namespace Go.Proofs.Ytdepkgikdmlgiaa.frameReads
open Go.RowKit Go.Proofs.Ytdepkgikdmlgiaa.P Go.Proofs.Ytdepkgikdmlgiaa.Open Go.Proofs.YtdepkgikdmlgiaaW.PrintWords Go.Proofs.YtdepkgikdmlgiaaW.PrintLast
def Pure : Prop := ∀ (x0 : List (List Int)), ((x0).length * Try.prog.bytesOf 46 ≤ 140737488351232 ∧ (x0).length ≤ 9223372036854775807 ∧ ∀ y ∈ x0, (y).length * Try.prog.bytesOf 5 ≤ 140737488351232 ∧ (y).length ≤ 9223372036854775807 ∧ ∀ yy ∈ y, (Lit.int .u8 yy).wf = true) → tallboylaw29_FrameReads.f (x0) = some true
end Go.Proofs.Ytdepkgikdmlgiaa.frameReads
