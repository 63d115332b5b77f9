/- The limits of the functions with rounds, and the equations that reckon them. Plain Lean; no condition. Written by a program. -/
import Derived.Test.YtmogojefpjmhkaaLim
import Derived.Test.YtmogojefpjmhkaaLm1
import Derived.Test.YtmogojefpjmhkaaPx17
namespace Go.Proofs.Ytmogojefpjmhkaa.P
open Go.RowKit Go.Proofs.Ytmogojefpjmhkaa.Lim Go.Proofs.YtmogojefpjmhkaaW.PrintWords Go.Proofs.YtmogojefpjmhkaaW.PrintLast Go.Proofs.YtmogojefpjmhkaaW.PrintMore
set_option linter.unusedVariables false

noncomputable def tallboylaw15_works.L : Option (Bool) := lim (fun k => tallboylaw15_works.f k)
theorem tallboylaw15_works.Llm : Lm (fun k => tallboylaw15_works.f k) (tallboylaw15_works.L) := lim_spec (fun k => tallboylaw15_works.mono k)
theorem tallboylaw15_works.L_eq : tallboylaw15_works.L = ((verb_Check.L 5 ([] : List ByteArray) 0 0 (⟨#[]⟩ : ByteArray) 0 0 false).bind fun t185 => (if t185 = 6 then ((verb_Check.L 5 (([(⟨#[107]⟩ : ByteArray)] : List ByteArray)) 0 5 (⟨#[118]⟩ : ByteArray) 0 0 false).bind fun t189 => (if t189 = 0 then ((verb_Check.L 1 (([(⟨#[107]⟩ : ByteArray)] : List ByteArray)) 0 5 (⟨#[]⟩ : ByteArray) 0 0 false).bind fun t193 => (if t193 = 6 then ((verb_Check.L 0 ([] : List ByteArray) 0 0 (⟨#[]⟩ : ByteArray) 0 0 false).bind fun t194 => (if t194 = 70 then ((verb_Kind.f (⟨#[102, 108, 117, 115, 104, 95, 97, 108, 108]⟩ : ByteArray)).bind fun t195 => (if t195 = 15 then ((verb_Name.f 1).bind fun t196 => (if t196.toList = ([103, 101, 116] : List UInt8) then ((verb_Stripes.L 15 ([] : List ByteArray) 0 0 (⟨#[]⟩ : ByteArray) 0 0 false).bind fun t197 => ((tallboyref06_Same.L t197 (([0, 1, 2, 3] : List Int))).bind fun t203 => (if t203 = true then ((verb_Stores.f 10).bind fun t204 => (if t204 = true then ((verb_Stores.f 14).bind fun t205 => (some (!t205))) else (none))) else (none)))) else (none))) else (none))) else (none))) else (none))) else (none))) else (none))) := by
  refine Lm.unique (tallboylaw15_works.Llm) ?_
  unfold tallboylaw15_works.f
  repeat' first
    | with_reducible exact tallboyref06_Same.Llm _ _
    | with_reducible exact verb_Stripes.Llm _ _ _ _ _ _ _ _
    | with_reducible exact verb_Check.Llm _ _ _ _ _ _ _ _
    | with_reducible exact Lm.const _
    | with_reducible refine Lm.bind ?_ (fun _ => ?_)
    | with_reducible refine Lm.ite ?_ ?_
    | refine Lm.bind ?_ (fun _ => ?_)
    | refine Lm.ite ?_ ?_
end Go.Proofs.Ytmogojefpjmhkaa.P
