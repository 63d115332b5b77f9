/- Digits and the number that they say: what is written reads back; lengths and the order of texts. No condition but bounds of 64 bits. -/
import Derived.Test.YtbaegkghngbecaaDoorDg2
import Derived.Test.YtbaegkghngbecaaDoorLmW
namespace Go.Proofs.YtbaegkghngbecaaDoor.Pl
set_option linter.unusedVariables false
open Go Go.RowKit Go.Proofs.YtbaegkghngbecaaDoor.P Go.Proofs.YtbaegkghngbecaaDoor.Lim Go.Proofs.YtbaegkghngbecaaDoorW.PrintWords

theorem prs_bad (l : List UInt8) (h : l.all digits_Parse.dg = false) : prsV l = (0, 6) := by
  unfold prsV
  rw [if_neg (by rw [h]; decide)]

theorem works_ok (h : tallboylaw02_works.f 40 = some true) : tallboylaw02_works.L = some true := tallboylaw02_works.Llm.2 40 true h
end Go.Proofs.YtbaegkghngbecaaDoor.Pl
