/- The limits of the functions with rounds, and the equations that reckon them. Plain Lean; no condition. Written by a program. -/
import Derived.Test.YtbfgopinbpbddaaDoorLim
import Derived.Test.YtbfgopinbpbddaaDoorLmD
import Derived.Test.YtbfgopinbpbddaaDoorLm1
import Derived.Test.YtbfgopinbpbddaaDoorLmW
import Derived.Test.YtbfgopinbpbddaaDoorLmS
import Derived.Test.YtbfgopinbpbddaaDoorPar
import Derived.Test.YtbfgopinbpbddaaDoorPx40
import Derived.Test.YtbfgopinbpbddaaDoorPx41
namespace Go.Proofs.YtbfgopinbpbddaaDoor.P
open Go.RowKit Go.Proofs.YtbfgopinbpbddaaDoor.Lim Go.Proofs.YtbfgopinbpbddaaDoorW.PrintWords Go.Proofs.YtbfgopinbpbddaaDoorW.PrintLast Go.Proofs.YtbfgopinbpbddaaDoorW.PrintMore
set_option linter.unusedVariables false

noncomputable def tallboylaw17_works.L : Option (Bool) := lim (fun k => tallboylaw17_works.f k)
theorem tallboylaw17_works.Llm : Lm (fun k => tallboylaw17_works.f k) (tallboylaw17_works.L) := lim_spec (fun k => tallboylaw17_works.mono k)
noncomputable def tallboylaw17_LineBack.L (a0_0 : Int) (l0_1 : List ByteArray) (a0_2 : Int) (a0_3 : Int) (a0_4 : ByteArray) (a0_5 : Int) (a0_6 : Int) (a0_7 : Bool) : Option (Bool) := lim (fun k => tallboylaw17_LineBack.f k a0_0 l0_1 a0_2 a0_3 a0_4 a0_5 a0_6 a0_7)
theorem tallboylaw17_LineBack.Llm (a0_0 : Int) (l0_1 : List ByteArray) (a0_2 : Int) (a0_3 : Int) (a0_4 : ByteArray) (a0_5 : Int) (a0_6 : Int) (a0_7 : Bool) : Lm (fun k => tallboylaw17_LineBack.f k a0_0 l0_1 a0_2 a0_3 a0_4 a0_5 a0_6 a0_7) (tallboylaw17_LineBack.L a0_0 l0_1 a0_2 a0_3 a0_4 a0_5 a0_6 a0_7) := lim_spec (fun k => tallboylaw17_LineBack.mono a0_0 l0_1 a0_2 a0_3 a0_4 a0_5 a0_6 a0_7 k)
theorem tallboylaw17_LineBack.L_eq (a0_0 : Int) (l0_1 : List ByteArray) (a0_2 : Int) (a0_3 : Int) (a0_4 : ByteArray) (a0_5 : Int) (a0_6 : Int) (a0_7 : Bool) : tallboylaw17_LineBack.L a0_0 l0_1 a0_2 a0_3 a0_4 a0_5 a0_6 a0_7 = ((tallboylaw17_works.L).bind fun t616 => (if t616 = true then ((tallboylaw15_Great.L a0_0 l0_1 a0_2 a0_3 a0_4 a0_5 a0_6 a0_7).bind fun t617 => (if t617 = true then (some true) else ((tallboylaw15_Own.f a0_0 l0_1 a0_2 a0_3 a0_4 a0_5 a0_6 a0_7).bind fun bt618 => ((line_Write.L bt618.1 bt618.2.1 bt618.2.2.1 bt618.2.2.2.1 bt618.2.2.2.2.1 bt618.2.2.2.2.2.1 bt618.2.2.2.2.2.2.1 bt618.2.2.2.2.2.2.2).bind fun bt628 => (if bt628.2 = 0 then ((line_Parse.L bt628.1).bind fun bt630 => ((tallboylaw15_Own.f a0_0 l0_1 a0_2 a0_3 a0_4 a0_5 a0_6 a0_7).bind fun bt644 => ((tallboyref15_Stores.f a0_0).bind fun t655 => (if t655 = true then (if bt630.1 = 2 then ((tallboyref17_SameCommands.L bt630.2.1 bt630.2.2.1 bt630.2.2.2.1 bt630.2.2.2.2.1 bt630.2.2.2.2.2.1 bt630.2.2.2.2.2.2.1 bt630.2.2.2.2.2.2.2.1 bt630.2.2.2.2.2.2.2.2.1 bt644.1 bt644.2.1 bt644.2.2.1 bt644.2.2.2.1 (⟨#[]⟩ : ByteArray) bt644.2.2.2.2.2.1 bt644.2.2.2.2.2.2.1 bt644.2.2.2.2.2.2.2).bind fun t656 => (if t656 = true then (if 2 = 1 then (if bt630.2.2.2.2.2.2.2.2.2.1 = 0 then (some (bt630.2.2.2.2.2.2.2.2.2.2 == 0)) else (if bt630.2.2.2.2.2.2.2.2.2.1 = (a0_4.size : Int) then (some (bt630.2.2.2.2.2.2.2.2.2.2 == 0)) else (none))) else (if bt630.2.2.2.2.2.2.2.2.2.1 = (a0_4.size : Int) then (some (bt630.2.2.2.2.2.2.2.2.2.2 == 0)) else (none))) else (none))) else (none)) else (if bt630.1 = 1 then ((tallboyref17_SameCommands.L bt630.2.1 bt630.2.2.1 bt630.2.2.2.1 bt630.2.2.2.2.1 bt630.2.2.2.2.2.1 bt630.2.2.2.2.2.2.1 bt630.2.2.2.2.2.2.2.1 bt630.2.2.2.2.2.2.2.2.1 bt644.1 bt644.2.1 bt644.2.2.1 bt644.2.2.2.1 (⟨#[]⟩ : ByteArray) bt644.2.2.2.2.2.1 bt644.2.2.2.2.2.2.1 bt644.2.2.2.2.2.2.2).bind fun t657 => (if t657 = true then (if 1 = 1 then (if bt630.2.2.2.2.2.2.2.2.2.1 = 0 then (some (bt630.2.2.2.2.2.2.2.2.2.2 == 0)) else (if bt630.2.2.2.2.2.2.2.2.2.1 = (a0_4.size : Int) then (some (bt630.2.2.2.2.2.2.2.2.2.2 == 0)) else (none))) else (if bt630.2.2.2.2.2.2.2.2.2.1 = (a0_4.size : Int) then (some (bt630.2.2.2.2.2.2.2.2.2.2 == 0)) else (none))) else (none))) else (none)))))) else (some (bt628.1.toList == ([] : List UInt8)))))))) else (none))) := by
  refine Lm.unique (tallboylaw17_LineBack.Llm a0_0 l0_1 a0_2 a0_3 a0_4 a0_5 a0_6 a0_7) ?_
  unfold tallboylaw17_LineBack.f
  repeat' first
    | with_reducible exact tallboyref17_SameCommands.Llm _ _ _ _ _ _ _ _ _ _ _ _ _ _ _ _
    | with_reducible exact tallboylaw17_works.Llm
    | with_reducible exact tallboylaw15_Great.Llm _ _ _ _ _ _ _ _
    | with_reducible exact line_Write.Llm _ _ _ _ _ _ _ _
    | with_reducible exact line_Parse.Llm _
    | with_reducible exact Lm.const _
    | with_reducible refine Lm.bind ?_ (fun _ => ?_)
    | with_reducible refine Lm.ite ?_ ?_
    | refine Lm.bind ?_ (fun _ => ?_)
    | refine Lm.ite ?_ ?_
end Go.Proofs.YtbfgopinbpbddaaDoor.P
