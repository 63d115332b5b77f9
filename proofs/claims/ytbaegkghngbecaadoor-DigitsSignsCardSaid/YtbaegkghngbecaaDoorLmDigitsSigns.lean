/- The limits of the functions with rounds, and the equations that reckon them. Plain Lean; no condition. Written by a program. -/
import Derived.Test.YtbaegkghngbecaaDoorLim
import Derived.Test.YtbaegkghngbecaaDoorLmD
import Derived.Test.YtbaegkghngbecaaDoorLmW
import Derived.Test.YtbaegkghngbecaaDoorPx19
namespace Go.Proofs.YtbaegkghngbecaaDoor.P
open Go.RowKit Go.Proofs.YtbaegkghngbecaaDoor.Lim Go.Proofs.YtbaegkghngbecaaDoorW.PrintWords Go.Proofs.YtbaegkghngbecaaDoorW.PrintLast Go.Proofs.YtbaegkghngbecaaDoorW.PrintMore
set_option linter.unusedVariables false

noncomputable def tallboylaw02_DigitsSigns.L (a0 : Int) : Option (Bool) := lim (fun k => tallboylaw02_DigitsSigns.f k a0)
theorem tallboylaw02_DigitsSigns.Llm (a0 : Int) : Lm (fun k => tallboylaw02_DigitsSigns.f k a0) (tallboylaw02_DigitsSigns.L a0) := lim_spec (fun k => tallboylaw02_DigitsSigns.mono a0 k)
theorem tallboylaw02_DigitsSigns.L_eq (a0 : Int) : tallboylaw02_DigitsSigns.L a0 = ((tallboylaw02_works.L).bind fun t197 => (if t197 = true then ((digits_TextSigned.f a0).bind fun t198 => (if a0 ≥ 0 then ((digits_Text.f (IntKind.u64.wrap (a0))).bind fun t199 => (some (t198.toList == t199.toList))) else ((digits_Signed.L t198).bind fun bt200 => (if 1 ≤ (t198.size : Int) then ((digits_Parse.f (t198.extract 1 t198.size)).bind fun bt202 => (if 0 < (t198.size : Int) then (if (bt t198 0) = 45 then ((digits_Text.f (IntKind.u64.wrap (-(IntKind.u64.wrap (a0))))).bind fun t204 => (if (t198.extract 1 t198.size).toList = t204.toList then (if bt200.2 = 0 then (if bt200.1 = a0 then (if bt202.2 = 0 then (some (bt202.1 == (IntKind.u64.wrap (-(IntKind.u64.wrap (a0)))))) else (none)) else (none)) else (none)) else (none))) else (none)) else (none))) else (none))))) else (none))) := by
  refine Lm.unique (tallboylaw02_DigitsSigns.Llm a0) ?_
  unfold tallboylaw02_DigitsSigns.f
  repeat' first
    | with_reducible exact tallboylaw02_works.Llm
    | with_reducible exact digits_Signed.Llm _
    | with_reducible exact Lm.const _
    | with_reducible refine Lm.bind ?_ (fun _ => ?_)
    | with_reducible refine Lm.ite ?_ ?_
    | refine Lm.bind ?_ (fun _ => ?_)
    | refine Lm.ite ?_ ?_
end Go.Proofs.YtbaegkghngbecaaDoor.P
