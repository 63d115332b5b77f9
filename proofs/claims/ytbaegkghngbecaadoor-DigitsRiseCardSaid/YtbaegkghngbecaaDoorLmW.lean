/- The limits of the functions with rounds, and the equations that reckon them. Plain Lean; no condition. Written by a program. -/
import Derived.Test.YtbaegkghngbecaaDoorLim
import Derived.Test.YtbaegkghngbecaaDoorLmD
import Derived.Test.YtbaegkghngbecaaDoorPx15
namespace Go.Proofs.YtbaegkghngbecaaDoor.P
open Go.RowKit Go.Proofs.YtbaegkghngbecaaDoor.Lim Go.Proofs.YtbaegkghngbecaaDoorW.PrintWords Go.Proofs.YtbaegkghngbecaaDoorW.PrintLast Go.Proofs.YtbaegkghngbecaaDoorW.PrintMore
set_option linter.unusedVariables false

noncomputable def tallboylaw02_works.L : Option (Bool) := lim (fun k => tallboylaw02_works.f k)
theorem tallboylaw02_works.Llm : Lm (fun k => tallboylaw02_works.f k) (tallboylaw02_works.L) := lim_spec (fun k => tallboylaw02_works.mono k)
theorem tallboylaw02_works.L_eq : tallboylaw02_works.L = ((digits_Parse.f (⟨#[48, 48, 55]⟩ : ByteArray)).bind fun bt166 => ((digits_Parse.f (⟨#[49, 56, 52, 52, 54, 55, 52, 52, 48, 55, 51, 55, 48, 57, 53, 53, 49, 54, 49, 54]⟩ : ByteArray)).bind fun bt168 => ((digits_Signed.L (⟨#[45, 57, 50, 50, 51, 51, 55, 50, 48, 51, 54, 56, 53, 52, 55, 55, 53, 56, 48, 56]⟩ : ByteArray)).bind fun bt170 => ((digits_Parse.f (⟨#[43, 49]⟩ : ByteArray)).bind fun bt172 => (if bt166.1 = 7 then (if bt166.2 = 0 then (if bt168.2 = 1 then (if bt170.1 = (-9223372036854775808) then (if bt170.2 = 0 then (if bt172.2 = 6 then ((digits_Text.f 0).bind fun t174 => (if t174.toList = ([48] : List UInt8) then ((digits_TextSigned.f (-12)).bind fun t175 => (some (t175.toList == ([45, 49, 50] : List UInt8)))) else (none))) else (none)) else (none)) else (none)) else (none)) else (none)) else (none)))))) := by
  refine Lm.unique (tallboylaw02_works.Llm) ?_
  unfold tallboylaw02_works.f
  repeat' first
    | with_reducible exact digits_Signed.Llm _
    | with_reducible exact Lm.const _
    | with_reducible refine Lm.bind ?_ (fun _ => ?_)
    | with_reducible refine Lm.ite ?_ ?_
    | refine Lm.bind ?_ (fun _ => ?_)
    | refine Lm.ite ?_ ?_
end Go.Proofs.YtbaegkghngbecaaDoor.P
