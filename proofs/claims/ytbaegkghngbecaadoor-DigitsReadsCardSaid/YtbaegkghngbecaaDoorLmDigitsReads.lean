/- The limits of the functions with rounds, and the equations that reckon them. Plain Lean; no condition. Written by a program. -/
import Derived.Test.YtbaegkghngbecaaDoorLim
import Derived.Test.YtbaegkghngbecaaDoorLmD
import Derived.Test.YtbaegkghngbecaaDoorLmW
import Derived.Test.YtbaegkghngbecaaDoorPx14
namespace Go.Proofs.YtbaegkghngbecaaDoor.P
open Go.RowKit Go.Proofs.YtbaegkghngbecaaDoor.Lim Go.Proofs.YtbaegkghngbecaaDoorW.PrintWords Go.Proofs.YtbaegkghngbecaaDoorW.PrintLast Go.Proofs.YtbaegkghngbecaaDoorW.PrintMore
set_option linter.unusedVariables false

noncomputable def tallboylaw02_DigitsReads.L (a0 : ByteArray) : Option (Bool) := lim (fun k => tallboylaw02_DigitsReads.f k a0)
theorem tallboylaw02_DigitsReads.Llm (a0 : ByteArray) : Lm (fun k => tallboylaw02_DigitsReads.f k a0) (tallboylaw02_DigitsReads.L a0) := lim_spec (fun k => tallboylaw02_DigitsReads.mono a0 k)
theorem tallboylaw02_DigitsReads.L_eq (a0 : ByteArray) : tallboylaw02_DigitsReads.L a0 = (if (a0.size : Int) > 10000 then (some true) else ((digits_Parse.f a0).bind fun bt158 => ((tallboyref02_Parse.L a0).bind fun bt160 => ((digits_Signed.L a0).bind fun bt162 => ((tallboyref02_Signed.L a0).bind fun bt164 => (if bt158.1 = bt160.1 then (if bt158.2 = bt160.2 then (if bt162.1 = bt164.1 then (some (bt162.2 == bt164.2)) else (none)) else (none)) else (none))))))) := by
  refine Lm.unique (tallboylaw02_DigitsReads.Llm a0) ?_
  unfold tallboylaw02_DigitsReads.f
  repeat' first
    | with_reducible exact tallboyref02_Signed.Llm _
    | with_reducible exact tallboyref02_Parse.Llm _
    | with_reducible exact digits_Signed.Llm _
    | with_reducible exact Lm.const _
    | with_reducible refine Lm.bind ?_ (fun _ => ?_)
    | with_reducible refine Lm.ite ?_ ?_
    | refine Lm.bind ?_ (fun _ => ?_)
    | refine Lm.ite ?_ ?_
end Go.Proofs.YtbaegkghngbecaaDoor.P
