/- The limits of the functions with rounds, and the equations that reckon them. Plain Lean; no condition. Written by a program. -/
import Derived.Test.YtbaegkghngbecaaDoorLim
import Derived.Test.YtbaegkghngbecaaDoorLmD
import Derived.Test.YtbaegkghngbecaaDoorLmW
import Derived.Test.YtbaegkghngbecaaDoorPx17
namespace Go.Proofs.YtbaegkghngbecaaDoor.P
open Go.RowKit Go.Proofs.YtbaegkghngbecaaDoor.Lim Go.Proofs.YtbaegkghngbecaaDoorW.PrintWords Go.Proofs.YtbaegkghngbecaaDoorW.PrintLast Go.Proofs.YtbaegkghngbecaaDoorW.PrintMore
set_option linter.unusedVariables false

noncomputable def tallboylaw02_DigitsRise.L (a0 : Int) (a1 : Int) : Option (Bool) := lim (fun k => tallboylaw02_DigitsRise.f k a0 a1)
theorem tallboylaw02_DigitsRise.Llm (a0 : Int) (a1 : Int) : Lm (fun k => tallboylaw02_DigitsRise.f k a0 a1) (tallboylaw02_DigitsRise.L a0 a1) := lim_spec (fun k => tallboylaw02_DigitsRise.mono a0 a1 k)
theorem tallboylaw02_DigitsRise.L_eq (a0 : Int) (a1 : Int) : tallboylaw02_DigitsRise.L a0 a1 = ((tallboylaw02_works.L).bind fun t187 => (if t187 = true then ((digits_Text.f a0).bind fun t188 => ((digits_Text.f a1).bind fun t189 => (if (t188.size : Int) > (t189.size : Int) then (if ((decide (a0 > a1)) == true) = true then (some ((a0 == a1) == (t188.toList == t189.toList))) else (none)) else (if (t188.size : Int) = (t189.size : Int) then (if ((decide (a0 > a1)) == (Op.bytesLess t189.toList t188.toList)) = true then (some ((a0 == a1) == (t188.toList == t189.toList))) else (none)) else (if ((decide (a0 > a1)) == false) = true then (some ((a0 == a1) == (t188.toList == t189.toList))) else (none)))))) else (none))) := by
  refine Lm.unique (tallboylaw02_DigitsRise.Llm a0 a1) ?_
  unfold tallboylaw02_DigitsRise.f
  repeat' first
    | with_reducible exact tallboylaw02_works.Llm
    | with_reducible exact Lm.const _
    | with_reducible refine Lm.bind ?_ (fun _ => ?_)
    | with_reducible refine Lm.ite ?_ ?_
    | refine Lm.bind ?_ (fun _ => ?_)
    | refine Lm.ite ?_ ?_
end Go.Proofs.YtbaegkghngbecaaDoor.P
