/- The limits of the functions with rounds, and the equations that reckon them. Plain Lean; no condition. Written by a program. -/
import Derived.Test.YtbfgopinbpbddaaDoorLim
import Derived.Test.YtbfgopinbpbddaaDoorLmD
import Derived.Test.YtbfgopinbpbddaaDoorLm1
import Derived.Test.YtbfgopinbpbddaaDoorLmW
import Derived.Test.YtbfgopinbpbddaaDoorPx19
namespace Go.Proofs.YtbfgopinbpbddaaDoor.P
open Go.RowKit Go.Proofs.YtbfgopinbpbddaaDoor.Lim Go.Proofs.YtbfgopinbpbddaaDoorW.PrintWords Go.Proofs.YtbfgopinbpbddaaDoorW.PrintLast Go.Proofs.YtbfgopinbpbddaaDoorW.PrintMore
set_option linter.unusedVariables false

noncomputable def tallboylaw17_LineWrites.L (a0_0 : Int) (l0_1 : List ByteArray) (a0_2 : Int) (a0_3 : Int) (a0_4 : ByteArray) (a0_5 : Int) (a0_6 : Int) (a0_7 : Bool) : Option (Bool) := lim (fun k => tallboylaw17_LineWrites.f k a0_0 l0_1 a0_2 a0_3 a0_4 a0_5 a0_6 a0_7)
theorem tallboylaw17_LineWrites.Llm (a0_0 : Int) (l0_1 : List ByteArray) (a0_2 : Int) (a0_3 : Int) (a0_4 : ByteArray) (a0_5 : Int) (a0_6 : Int) (a0_7 : Bool) : Lm (fun k => tallboylaw17_LineWrites.f k a0_0 l0_1 a0_2 a0_3 a0_4 a0_5 a0_6 a0_7) (tallboylaw17_LineWrites.L a0_0 l0_1 a0_2 a0_3 a0_4 a0_5 a0_6 a0_7) := lim_spec (fun k => tallboylaw17_LineWrites.mono a0_0 l0_1 a0_2 a0_3 a0_4 a0_5 a0_6 a0_7 k)
theorem tallboylaw17_LineWrites.L_eq (a0_0 : Int) (l0_1 : List ByteArray) (a0_2 : Int) (a0_3 : Int) (a0_4 : ByteArray) (a0_5 : Int) (a0_6 : Int) (a0_7 : Bool) : tallboylaw17_LineWrites.L a0_0 l0_1 a0_2 a0_3 a0_4 a0_5 a0_6 a0_7 = ((tallboylaw15_Great.L a0_0 l0_1 a0_2 a0_3 a0_4 a0_5 a0_6 a0_7).bind fun t198 => (if t198 = true then (some true) else ((tallboylaw15_Own.f a0_0 l0_1 a0_2 a0_3 a0_4 a0_5 a0_6 a0_7).bind fun bt199 => ((line_Write.L bt199.1 bt199.2.1 bt199.2.2.1 bt199.2.2.2.1 bt199.2.2.2.2.1 bt199.2.2.2.2.2.1 bt199.2.2.2.2.2.2.1 bt199.2.2.2.2.2.2.2).bind fun bt209 => ((tallboyref17_Write.L a0_0 l0_1 a0_2 a0_3 a0_4 a0_5 a0_6 a0_7).bind fun bt211 => (if bt209.1.toList = bt211.1.toList then (some (bt209.2 == bt211.2)) else (none))))))) := by
  refine Lm.unique (tallboylaw17_LineWrites.Llm a0_0 l0_1 a0_2 a0_3 a0_4 a0_5 a0_6 a0_7) ?_
  unfold tallboylaw17_LineWrites.f
  repeat' first
    | with_reducible exact tallboyref17_Write.Llm _ _ _ _ _ _ _ _
    | with_reducible exact tallboylaw15_Great.Llm _ _ _ _ _ _ _ _
    | with_reducible exact line_Write.Llm _ _ _ _ _ _ _ _
    | with_reducible exact Lm.const _
    | with_reducible refine Lm.bind ?_ (fun _ => ?_)
    | with_reducible refine Lm.ite ?_ ?_
    | refine Lm.bind ?_ (fun _ => ?_)
    | refine Lm.ite ?_ ?_
end Go.Proofs.YtbfgopinbpbddaaDoor.P
