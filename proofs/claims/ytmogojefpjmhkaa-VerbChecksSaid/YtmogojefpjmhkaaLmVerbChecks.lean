/- The limits of the functions with rounds, and the equations that reckon them. Plain Lean; no condition. Written by a program. -/
import Derived.Test.YtmogojefpjmhkaaLim
import Derived.Test.YtmogojefpjmhkaaLm1
import Derived.Test.YtmogojefpjmhkaaLmW
import Derived.Test.YtmogojefpjmhkaaPx15
namespace Go.Proofs.Ytmogojefpjmhkaa.P
open Go.RowKit Go.Proofs.Ytmogojefpjmhkaa.Lim Go.Proofs.YtmogojefpjmhkaaW.PrintWords Go.Proofs.YtmogojefpjmhkaaW.PrintLast Go.Proofs.YtmogojefpjmhkaaW.PrintMore
set_option linter.unusedVariables false

noncomputable def tallboylaw15_VerbChecks.L (a0_0 : Int) (l0_1 : List ByteArray) (a0_2 : Int) (a0_3 : Int) (a0_4 : ByteArray) (a0_5 : Int) (a0_6 : Int) (a0_7 : Bool) : Option (Bool) := lim (fun k => tallboylaw15_VerbChecks.f k a0_0 l0_1 a0_2 a0_3 a0_4 a0_5 a0_6 a0_7)
theorem tallboylaw15_VerbChecks.Llm (a0_0 : Int) (l0_1 : List ByteArray) (a0_2 : Int) (a0_3 : Int) (a0_4 : ByteArray) (a0_5 : Int) (a0_6 : Int) (a0_7 : Bool) : Lm (fun k => tallboylaw15_VerbChecks.f k a0_0 l0_1 a0_2 a0_3 a0_4 a0_5 a0_6 a0_7) (tallboylaw15_VerbChecks.L a0_0 l0_1 a0_2 a0_3 a0_4 a0_5 a0_6 a0_7) := lim_spec (fun k => tallboylaw15_VerbChecks.mono a0_0 l0_1 a0_2 a0_3 a0_4 a0_5 a0_6 a0_7 k)
set_option maxHeartbeats 1000000 in
theorem tallboylaw15_VerbChecks.L_eq (a0_0 : Int) (l0_1 : List ByteArray) (a0_2 : Int) (a0_3 : Int) (a0_4 : ByteArray) (a0_5 : Int) (a0_6 : Int) (a0_7 : Bool) : tallboylaw15_VerbChecks.L a0_0 l0_1 a0_2 a0_3 a0_4 a0_5 a0_6 a0_7 = ((tallboylaw15_Great.L a0_0 l0_1 a0_2 a0_3 a0_4 a0_5 a0_6 a0_7).bind fun t155 => (if t155 = true then (some true) else ((tallboylaw15_Own.f a0_0 l0_1 a0_2 a0_3 a0_4 a0_5 a0_6 a0_7).bind fun bt156 => ((verb_Check.L bt156.1 bt156.2.1 bt156.2.2.1 bt156.2.2.2.1 bt156.2.2.2.2.1 bt156.2.2.2.2.2.1 bt156.2.2.2.2.2.2.1 bt156.2.2.2.2.2.2.2).bind fun t166 => ((tallboyref15_Check.L a0_0 l0_1 a0_2 a0_3 a0_4 a0_5 a0_6 a0_7).bind fun t167 => (if t166 = t167 then ((tallboylaw15_Own.f a0_0 l0_1 a0_2 a0_3 a0_4 a0_5 a0_6 a0_7).bind fun bt168 => ((verb_Stripes.L bt168.1 bt168.2.1 bt168.2.2.1 bt168.2.2.2.1 bt168.2.2.2.2.1 bt168.2.2.2.2.2.1 bt168.2.2.2.2.2.2.1 bt168.2.2.2.2.2.2.2).bind fun t178 => ((tallboyref15_Stripes.L a0_0 l0_1 a0_2 a0_3 a0_4 a0_5 a0_6 a0_7).bind fun t181 => ((tallboyref06_Same.L t178 t181).bind fun t184 => (some t184))))) else (some false))))))) := by
  refine Lm.unique (tallboylaw15_VerbChecks.Llm a0_0 l0_1 a0_2 a0_3 a0_4 a0_5 a0_6 a0_7) ?_
  show Lm (fun k => ((tallboylaw15_Great.f k a0_0 l0_1 a0_2 a0_3 a0_4 a0_5 a0_6 a0_7).bind fun t155 => (if t155 = true then (some true) else ((tallboylaw15_Own.f a0_0 l0_1 a0_2 a0_3 a0_4 a0_5 a0_6 a0_7).bind fun bt156 => ((verb_Check.f k bt156.1 bt156.2.1 bt156.2.2.1 bt156.2.2.2.1 bt156.2.2.2.2.1 bt156.2.2.2.2.2.1 bt156.2.2.2.2.2.2.1 bt156.2.2.2.2.2.2.2).bind fun t166 => ((tallboyref15_Check.f k a0_0 l0_1 a0_2 a0_3 a0_4 a0_5 a0_6 a0_7).bind fun t167 => (if t166 = t167 then ((tallboylaw15_Own.f a0_0 l0_1 a0_2 a0_3 a0_4 a0_5 a0_6 a0_7).bind fun bt168 => ((verb_Stripes.f k bt168.1 bt168.2.1 bt168.2.2.1 bt168.2.2.2.1 bt168.2.2.2.2.1 bt168.2.2.2.2.2.1 bt168.2.2.2.2.2.2.1 bt168.2.2.2.2.2.2.2).bind fun t178 => ((tallboyref15_Stripes.f k a0_0 l0_1 a0_2 a0_3 a0_4 a0_5 a0_6 a0_7).bind fun t181 => ((tallboyref06_Same.f k t178 t181).bind fun t184 => (some t184))))) else (some false)))))))) _
  repeat' first
    | with_reducible exact tallboyref15_Stripes.Llm _ _ _ _ _ _ _ _
    | with_reducible exact tallboyref15_Check.Llm _ _ _ _ _ _ _ _
    | with_reducible exact tallboylaw15_Great.Llm _ _ _ _ _ _ _ _
    | with_reducible exact tallboyref06_Same.Llm _ _
    | with_reducible exact verb_Stripes.Llm _ _ _ _ _ _ _ _
    | with_reducible exact verb_Check.Llm _ _ _ _ _ _ _ _
    | with_reducible exact Lm.const _
    | with_reducible refine Lm.bind ?_ (fun _ => ?_)
    | with_reducible refine Lm.ite ?_ ?_
    | refine Lm.bind ?_ (fun _ => ?_)
    | refine Lm.ite ?_ ?_
end Go.Proofs.Ytmogojefpjmhkaa.P
