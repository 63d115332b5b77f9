/- Numbers in writing, with a sign: the program's Signed and the document's are the same plain function. Condition: texts of at most 1000000 bytes. -/
import Derived.Test.YtbaegkghngbecaaDoorDig
namespace Go.Proofs.YtbaegkghngbecaaDoor.Pl
set_option linter.unusedVariables false
open Go Go.RowKit Go.Proofs.YtbaegkghngbecaaDoor.P Go.Proofs.YtbaegkghngbecaaDoor.Lim Go.Proofs.YtbaegkghngbecaaDoorW.PrintWords

end Go.Proofs.YtbaegkghngbecaaDoor.Pl
