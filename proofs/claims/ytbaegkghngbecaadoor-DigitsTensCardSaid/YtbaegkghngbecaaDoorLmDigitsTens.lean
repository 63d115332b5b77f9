/- The limits of the functions with rounds, and the equations that reckon them. Plain Lean; no condition. Written by a program. -/
import Derived.Test.YtbaegkghngbecaaDoorLim
import Derived.Test.YtbaegkghngbecaaDoorLmD
import Derived.Test.YtbaegkghngbecaaDoorLmW
import Derived.Test.YtbaegkghngbecaaDoorPx18
namespace Go.Proofs.YtbaegkghngbecaaDoor.P
open Go.RowKit Go.Proofs.YtbaegkghngbecaaDoor.Lim Go.Proofs.YtbaegkghngbecaaDoorW.PrintWords Go.Proofs.YtbaegkghngbecaaDoorW.PrintLast Go.Proofs.YtbaegkghngbecaaDoorW.PrintMore
set_option linter.unusedVariables false

noncomputable def tallboylaw02_DigitsTens.L (a0 : Int) (a1 : Int) : Option (Bool) := lim (fun k => tallboylaw02_DigitsTens.f k a0 a1)
theorem tallboylaw02_DigitsTens.Llm (a0 : Int) (a1 : Int) : Lm (fun k => tallboylaw02_DigitsTens.f k a0 a1) (tallboylaw02_DigitsTens.L a0 a1) := lim_spec (fun k => tallboylaw02_DigitsTens.mono a0 a1 k)
theorem tallboylaw02_DigitsTens.L_eq (a0 : Int) (a1 : Int) : tallboylaw02_DigitsTens.L a0 a1 = ((tallboylaw02_works.L).bind fun t190 => (if t190 = true then ((digits_Text.f a0).bind fun t191 => ((some (([(wrap64 (48 + (wrap64 (Int.tmod (IntKind.u64.wrap (a1)) 10)))) % 256] : List Int) : List Int)).bind fun y192 => (if t191.size + (strOfNums y192).size ≤ 9223372036854775807 then ((digits_Parse.f (t191 ++ (strOfNums y192))).bind fun bt195 => (if a0 > 1844674407370955160 then (if bt195.2 = 0 then (if (IntKind.u64.wrap (Int.tdiv bt195.1 10)) = a0 then (some ((Int.tmod bt195.1 10) == (IntKind.u64.wrap (wrap64 (Int.tmod (IntKind.u64.wrap (a1)) 10))))) else (none)) else (some true)) else (if bt195.2 = 0 then (some (bt195.1 == (IntKind.u64.wrap ((IntKind.u64.wrap (10 * a0)) + (IntKind.u64.wrap (wrap64 (Int.tmod (IntKind.u64.wrap (a1)) 10))))))) else (none)))) else (none)))) else (none))) := by
  refine Lm.unique (tallboylaw02_DigitsTens.Llm a0 a1) ?_
  unfold tallboylaw02_DigitsTens.f
  repeat' first
    | with_reducible exact tallboylaw02_works.Llm
    | with_reducible exact Lm.const _
    | with_reducible refine Lm.bind ?_ (fun _ => ?_)
    | with_reducible refine Lm.ite ?_ ?_
    | refine Lm.bind ?_ (fun _ => ?_)
    | refine Lm.ite ?_ ?_
end Go.Proofs.YtbaegkghngbecaaDoor.P
