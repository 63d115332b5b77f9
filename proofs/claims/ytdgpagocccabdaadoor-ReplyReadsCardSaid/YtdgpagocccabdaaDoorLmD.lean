/- The limits of the functions with rounds, and the equations that reckon them. Plain Lean; no condition. Written by a program. -/
import Derived.Test.YtdgpagocccabdaaDoorLim
import Derived.Test.YtdgpagocccabdaaDoorPx10
import Derived.Test.YtdgpagocccabdaaDoorPx25
namespace Go.Proofs.YtdgpagocccabdaaDoor.P
open Go.RowKit Go.Proofs.YtdgpagocccabdaaDoor.Lim Go.Proofs.YtdgpagocccabdaaDoorW.PrintWords Go.Proofs.YtdgpagocccabdaaDoorW.PrintLast Go.Proofs.YtdgpagocccabdaaDoorW.PrintMore
set_option linter.unusedVariables false

noncomputable def tallboyref02_Text.l0L (x0 : Int) (x3 : ByteArray) : Option (ByteArray) := lim (fun k => tallboyref02_Text.l0 k x0 x3)
theorem tallboyref02_Text.l0Llm (x0 : Int) (x3 : ByteArray) : Lm (fun k => tallboyref02_Text.l0 k x0 x3) (tallboyref02_Text.l0L x0 x3) := lim_spec (fun k => (tallboyref02_Text.mono_l k) _ _)
noncomputable def tallboyref02_Text.L (a0 : Int) : Option (ByteArray) := lim (fun k => tallboyref02_Text.f k a0)
theorem tallboyref02_Text.Llm (a0 : Int) : Lm (fun k => tallboyref02_Text.f k a0) (tallboyref02_Text.L a0) := lim_spec (fun k => tallboyref02_Text.mono a0 k)
noncomputable def tallboyref02_Parse.j1L (x0 : ByteArray) (x4 : Bool) : Option (Int × Int) := lim (fun k => tallboyref02_Parse.j1 k x0 x4)
theorem tallboyref02_Parse.j1Llm (x0 : ByteArray) (x4 : Bool) : Lm (fun k => tallboyref02_Parse.j1 k x0 x4) (tallboyref02_Parse.j1L x0 x4) := lim_spec (fun k => (tallboyref02_Parse.mono_l k).1 _ _)
noncomputable def tallboyref02_Parse.l1L (x0 : ByteArray) (x6 : Int) (x7 : Int) : Option (Int × Int) := lim (fun k => tallboyref02_Parse.l1 k x0 x6 x7)
theorem tallboyref02_Parse.l1Llm (x0 : ByteArray) (x6 : Int) (x7 : Int) : Lm (fun k => tallboyref02_Parse.l1 k x0 x6 x7) (tallboyref02_Parse.l1L x0 x6 x7) := lim_spec (fun k => (tallboyref02_Parse.mono_l k).2.1 _ _ _)
noncomputable def tallboyref02_Parse.l0L (x0 : ByteArray) (x4 : Bool) (x5 : Int) : Option (Int × Int) := lim (fun k => tallboyref02_Parse.l0 k x0 x4 x5)
theorem tallboyref02_Parse.l0Llm (x0 : ByteArray) (x4 : Bool) (x5 : Int) : Lm (fun k => tallboyref02_Parse.l0 k x0 x4 x5) (tallboyref02_Parse.l0L x0 x4 x5) := lim_spec (fun k => (tallboyref02_Parse.mono_l k).2.2 _ _ _)
noncomputable def tallboyref02_Parse.L (a0 : ByteArray) : Option (Int × Int) := lim (fun k => tallboyref02_Parse.f k a0)
theorem tallboyref02_Parse.Llm (a0 : ByteArray) : Lm (fun k => tallboyref02_Parse.f k a0) (tallboyref02_Parse.L a0) := lim_spec (fun k => tallboyref02_Parse.mono a0 k)
theorem tallboyref02_Text.l0L_eq (x0 : Int) (x3 : ByteArray) : tallboyref02_Text.l0L x0 x3 = (if x0 > 0 then ((some (([(IntKind.u64.wrap (48 + (Int.tmod x0 10))) % 256] : List Int) : List Int)).bind fun y116 => (if (strOfNums y116).size + x3.size ≤ 9223372036854775807 then (tallboyref02_Text.l0L (IntKind.u64.wrap (Int.tdiv x0 10)) ((strOfNums y116) ++ x3)) else (none))) else (some x3)) := by
  refine Lm.unique (tallboyref02_Text.l0Llm x0 x3) ?_
  refine Lm.step rfl (f := fun k => tallboyref02_Text.l0 (k + 1) x0 x3) (fun _ => rfl) ?_; simp only [tallboyref02_Text.l0]
  repeat' first
    | with_reducible exact tallboyref02_Text.l0Llm _ _
    | with_reducible exact Lm.const _
    | with_reducible refine Lm.bind ?_ (fun _ => ?_)
    | with_reducible refine Lm.ite ?_ ?_
    | refine Lm.bind ?_ (fun _ => ?_)
    | refine Lm.ite ?_ ?_
theorem tallboyref02_Text.L_eq (a0 : Int) : tallboyref02_Text.L a0 = (tallboyref02_Text.l0L (IntKind.u64.wrap (Int.tdiv a0 10)) (strOfNums (([(IntKind.u64.wrap (48 + (Int.tmod a0 10))) % 256] : List Int)))) := by
  refine Lm.unique (tallboyref02_Text.Llm a0) ?_
  unfold tallboyref02_Text.f
  repeat' first
    | with_reducible exact tallboyref02_Text.l0Llm _ _
    | with_reducible exact Lm.const _
    | with_reducible refine Lm.bind ?_ (fun _ => ?_)
    | with_reducible refine Lm.ite ?_ ?_
    | refine Lm.bind ?_ (fun _ => ?_)
    | refine Lm.ite ?_ ?_
theorem tallboyref02_Parse.j1L_eq (x0 : ByteArray) (x4 : Bool) : tallboyref02_Parse.j1L x0 x4 = (if x4 = true then (if (x0.size : Int) > 20 then (some (0, 7)) else (tallboyref02_Parse.l1L x0 0 0)) else (some (0, 6))) := by
  refine Lm.unique (tallboyref02_Parse.j1Llm x0 x4) ?_
  refine Lm.step rfl (f := fun k => tallboyref02_Parse.j1 (k + 1) x0 x4) (fun _ => rfl) ?_; simp only [tallboyref02_Parse.j1]
  repeat' first
    | with_reducible exact tallboyref02_Parse.l1Llm _ _ _
    | with_reducible exact Lm.const _
    | with_reducible refine Lm.bind ?_ (fun _ => ?_)
    | with_reducible refine Lm.ite ?_ ?_
    | refine Lm.bind ?_ (fun _ => ?_)
    | refine Lm.ite ?_ ?_
theorem tallboyref02_Parse.l1L_eq (x0 : ByteArray) (x6 : Int) (x7 : Int) : tallboyref02_Parse.l1L x0 x6 x7 = (if x7 < (x0.size : Int) then (if 0 ≤ x7 then (if x6 > ((18446744073709551615 - (((bt x0 x7) - 48) % 256)) / 10) then (some (0, 1)) else (tallboyref02_Parse.l1L x0 (IntKind.u64.wrap ((IntKind.u64.wrap (10 * x6)) + (((bt x0 x7) - 48) % 256))) (wrap64 (x7 + 1)))) else (none)) else (some (x6, 0))) := by
  refine Lm.unique (tallboyref02_Parse.l1Llm x0 x6 x7) ?_
  refine Lm.step rfl (f := fun k => tallboyref02_Parse.l1 (k + 1) x0 x6 x7) (fun _ => rfl) ?_; simp only [tallboyref02_Parse.l1]
  repeat' first
    | with_reducible exact tallboyref02_Parse.l1Llm _ _ _
    | with_reducible exact Lm.const _
    | with_reducible refine Lm.bind ?_ (fun _ => ?_)
    | with_reducible refine Lm.ite ?_ ?_
    | refine Lm.bind ?_ (fun _ => ?_)
    | refine Lm.ite ?_ ?_
theorem tallboyref02_Parse.l0L_eq (x0 : ByteArray) (x4 : Bool) (x5 : Int) : tallboyref02_Parse.l0L x0 x4 x5 = (if x5 < (x0.size : Int) then (if x4 = true then (if 0 ≤ x5 then (if (bt x0 x5) ≥ 48 then (tallboyref02_Parse.l0L x0 (decide ((bt x0 x5) ≤ 57)) (wrap64 (x5 + 1))) else (tallboyref02_Parse.l0L x0 false (wrap64 (x5 + 1)))) else (none)) else (tallboyref02_Parse.j1L x0 x4)) else (tallboyref02_Parse.j1L x0 x4)) := by
  refine Lm.unique (tallboyref02_Parse.l0Llm x0 x4 x5) ?_
  refine Lm.step rfl (f := fun k => tallboyref02_Parse.l0 (k + 1) x0 x4 x5) (fun _ => rfl) ?_; simp only [tallboyref02_Parse.l0]
  repeat' first
    | with_reducible exact tallboyref02_Parse.l0Llm _ _ _
    | with_reducible exact tallboyref02_Parse.j1Llm _ _
    | with_reducible exact Lm.const _
    | with_reducible refine Lm.bind ?_ (fun _ => ?_)
    | with_reducible refine Lm.ite ?_ ?_
    | refine Lm.bind ?_ (fun _ => ?_)
    | refine Lm.ite ?_ ?_
theorem tallboyref02_Parse.L_eq (a0 : ByteArray) : tallboyref02_Parse.L a0 = (tallboyref02_Parse.l0L a0 (decide ((a0.size : Int) > 0)) 0) := by
  refine Lm.unique (tallboyref02_Parse.Llm a0) ?_
  unfold tallboyref02_Parse.f
  repeat' first
    | with_reducible exact tallboyref02_Parse.l0Llm _ _ _
    | with_reducible exact Lm.const _
    | with_reducible refine Lm.bind ?_ (fun _ => ?_)
    | with_reducible refine Lm.ite ?_ ?_
    | refine Lm.bind ?_ (fun _ => ?_)
    | refine Lm.ite ?_ ?_
end Go.Proofs.YtdgpagocccabdaaDoor.P
