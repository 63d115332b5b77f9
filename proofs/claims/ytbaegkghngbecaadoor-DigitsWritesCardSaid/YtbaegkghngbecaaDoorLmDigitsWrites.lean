/- The limits of the functions with rounds, and the equations that reckon them. Plain Lean; no condition. Written by a program. -/
import Derived.Test.YtbaegkghngbecaaDoorLim
import Derived.Test.YtbaegkghngbecaaDoorLmD
import Derived.Test.YtbaegkghngbecaaDoorLmW
import Derived.Test.YtbaegkghngbecaaDoorPx6
namespace Go.Proofs.YtbaegkghngbecaaDoor.P
open Go.RowKit Go.Proofs.YtbaegkghngbecaaDoor.Lim Go.Proofs.YtbaegkghngbecaaDoorW.PrintWords Go.Proofs.YtbaegkghngbecaaDoorW.PrintLast Go.Proofs.YtbaegkghngbecaaDoorW.PrintMore
set_option linter.unusedVariables false

noncomputable def tallboylaw02_DigitsWrites.L (a0 : Int) : Option (Bool) := lim (fun k => tallboylaw02_DigitsWrites.f k a0)
theorem tallboylaw02_DigitsWrites.Llm (a0 : Int) : Lm (fun k => tallboylaw02_DigitsWrites.f k a0) (tallboylaw02_DigitsWrites.L a0) := lim_spec (fun k => tallboylaw02_DigitsWrites.mono a0 k)
theorem tallboylaw02_DigitsWrites.L_eq (a0 : Int) : tallboylaw02_DigitsWrites.L a0 = ((digits_Text.f a0).bind fun t130 => ((tallboyref02_Text.L a0).bind fun t131 => (if t130.toList = t131.toList then ((digits_TextSigned.f (wrap64 (a0))).bind fun t132 => ((tallboyref02_TextSigned.L (wrap64 (a0))).bind fun t133 => (some (t132.toList == t133.toList)))) else (none)))) := by
  refine Lm.unique (tallboylaw02_DigitsWrites.Llm a0) ?_
  unfold tallboylaw02_DigitsWrites.f
  repeat' first
    | with_reducible exact tallboyref02_TextSigned.Llm _
    | with_reducible exact tallboyref02_Text.Llm _
    | with_reducible exact Lm.const _
    | with_reducible refine Lm.bind ?_ (fun _ => ?_)
    | with_reducible refine Lm.ite ?_ ?_
    | refine Lm.bind ?_ (fun _ => ?_)
    | refine Lm.ite ?_ ?_
end Go.Proofs.YtbaegkghngbecaaDoor.P
