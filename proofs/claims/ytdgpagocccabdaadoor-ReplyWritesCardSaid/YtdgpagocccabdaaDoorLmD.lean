/- The limits of the functions with rounds, and the equations that reckon them. Plain Lean; no condition. Written by a program. -/
import Derived.Test.YtdgpagocccabdaaDoorLim
import Derived.Test.YtdgpagocccabdaaDoorPx17
import Derived.Test.YtdgpagocccabdaaDoorPx9
namespace Go.Proofs.YtdgpagocccabdaaDoor.P
open Go.RowKit Go.Proofs.YtdgpagocccabdaaDoor.Lim Go.Proofs.YtdgpagocccabdaaDoorW.PrintWords Go.Proofs.YtdgpagocccabdaaDoorW.PrintLast Go.Proofs.YtdgpagocccabdaaDoorW.PrintMore
set_option linter.unusedVariables false

noncomputable def tallboyref02_Text.l0L (x0 : Int) (x3 : ByteArray) : Option (ByteArray) := lim (fun k => tallboyref02_Text.l0 k x0 x3)
theorem tallboyref02_Text.l0Llm (x0 : Int) (x3 : ByteArray) : Lm (fun k => tallboyref02_Text.l0 k x0 x3) (tallboyref02_Text.l0L x0 x3) := lim_spec (fun k => (tallboyref02_Text.mono_l k) _ _)
noncomputable def tallboyref02_Text.L (a0 : Int) : Option (ByteArray) := lim (fun k => tallboyref02_Text.f k a0)
theorem tallboyref02_Text.Llm (a0 : Int) : Lm (fun k => tallboyref02_Text.f k a0) (tallboyref02_Text.L a0) := lim_spec (fun k => tallboyref02_Text.mono a0 k)
theorem tallboyref02_Text.l0L_eq (x0 : Int) (x3 : ByteArray) : tallboyref02_Text.l0L x0 x3 = (if x0 > 0 then ((some (([(IntKind.u64.wrap (48 + (Int.tmod x0 10))) % 256] : List Int) : List Int)).bind fun y116 => (if (strOfNums y116).size + x3.size ≤ 9223372036854775807 then (tallboyref02_Text.l0L (IntKind.u64.wrap (Int.tdiv x0 10)) ((strOfNums y116) ++ x3)) else (none))) else (some x3)) := by
  refine Lm.unique (tallboyref02_Text.l0Llm x0 x3) ?_
  refine Lm.step rfl (f := fun k => tallboyref02_Text.l0 (k + 1) x0 x3) (fun _ => rfl) ?_; simp only [tallboyref02_Text.l0]
  repeat' first
    | with_reducible exact tallboyref02_Text.l0Llm _ _
    | with_reducible exact Lm.const _
    | with_reducible refine Lm.bind ?_ (fun _ => ?_)
    | with_reducible refine Lm.ite ?_ ?_
    | refine Lm.bind ?_ (fun _ => ?_)
    | refine Lm.ite ?_ ?_
theorem tallboyref02_Text.L_eq (a0 : Int) : tallboyref02_Text.L a0 = (tallboyref02_Text.l0L (IntKind.u64.wrap (Int.tdiv a0 10)) (strOfNums (([(IntKind.u64.wrap (48 + (Int.tmod a0 10))) % 256] : List Int)))) := by
  refine Lm.unique (tallboyref02_Text.Llm a0) ?_
  unfold tallboyref02_Text.f
  repeat' first
    | with_reducible exact tallboyref02_Text.l0Llm _ _
    | with_reducible exact Lm.const _
    | with_reducible refine Lm.bind ?_ (fun _ => ?_)
    | with_reducible refine Lm.ite ?_ ?_
    | refine Lm.bind ?_ (fun _ => ?_)
    | refine Lm.ite ?_ ?_
end Go.Proofs.YtdgpagocccabdaaDoor.P
