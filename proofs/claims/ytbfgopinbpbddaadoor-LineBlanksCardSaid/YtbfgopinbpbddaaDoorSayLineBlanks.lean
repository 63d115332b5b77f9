/- What the row of LineBlanks reads, in the print's own words, and the one plain statement that is left. Written by a program. -/
import Derived.Test.YtbfgopinbpbddaaDoorPx38
import Derived.Test.YtbfgopinbpbddaaDoorOpen
namespace Go.Proofs.YtbfgopinbpbddaaDoor.lineBlanks
open Go.RowKit Go.Proofs.YtbfgopinbpbddaaDoor.P Go.Proofs.YtbfgopinbpbddaaDoor.Open Go.Proofs.YtbfgopinbpbddaaDoorW.PrintWords Go.Proofs.YtbfgopinbpbddaaDoorW.PrintLast
def Pure : Prop := ∀ (x0 : ByteArray) (x1 : List Int), ((x0).size ≤ 140737488351232) → ((x1).length * Tryd.prog.bytesOf 3 ≤ 140737488351232 ∧ (x1).length ≤ 9223372036854775807 ∧ ∀ y ∈ x1, (Lit.int .i64 y).wf = true) → ∃ k, tallboylaw17_LineBlanks.f k (x0) (x1) = some true
end Go.Proofs.YtbfgopinbpbddaaDoor.lineBlanks
