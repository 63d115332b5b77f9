/- The limits of the functions with rounds, and the equations that reckon them. Plain Lean; no condition. Written by a program. -/
import Derived.Test.YtdepkgikdmlgiaaLim
import Derived.Test.YtdepkgikdmlgiaaLmR
import Derived.Test.YtdepkgikdmlgiaaLmU
import Derived.Test.YtdepkgikdmlgiaaLm1
import Derived.Test.YtdepkgikdmlgiaaLmC
import Derived.Test.YtdepkgikdmlgiaaPx42
namespace Go.Proofs.Ytdepkgikdmlgiaa.P
open Go.RowKit Go.Proofs.Ytdepkgikdmlgiaa.Lim Go.Proofs.YtdepkgikdmlgiaaW.PrintWords Go.Proofs.YtdepkgikdmlgiaaW.PrintLast Go.Proofs.YtdepkgikdmlgiaaW.PrintMore
set_option linter.unusedVariables false

noncomputable def tallboylaw29_works.L : Option (Bool) := lim (fun k => tallboylaw29_works.f k)
theorem tallboylaw29_works.Llm : Lm (fun k => tallboylaw29_works.f k) (tallboylaw29_works.L) := lim_spec (fun k => tallboylaw29_works.mono k)
end Go.Proofs.Ytdepkgikdmlgiaa.P
