/- The limits of the functions with rounds, and the equations that reckon them. Plain Lean; no condition. Written by a program. -/
import Derived.Test.YtdgpagocccabdaaDoorLim
import Derived.Test.YtdgpagocccabdaaDoorPx10
import Derived.Test.YtdgpagocccabdaaDoorPx25
import Derived.Test.YtdgpagocccabdaaDoorPx0
import Derived.Test.YtdgpagocccabdaaDoorShort
import Derived.Test.YtdgpagocccabdaaDoorPx3
import Derived.Test.YtdgpagocccabdaaDoorPx9
import Derived.Test.YtdgpagocccabdaaDoorPx12
namespace Go.Proofs.YtdgpagocccabdaaDoor.P
open Go.RowKit Go.Proofs.YtdgpagocccabdaaDoor.Lim Go.Proofs.YtdgpagocccabdaaDoorW.PrintWords Go.Proofs.YtdgpagocccabdaaDoorW.PrintLast Go.Proofs.YtdgpagocccabdaaDoorW.PrintMore
set_option linter.unusedVariables false

noncomputable def tallboylaw18_To.l0L (x4 : Int) (x106000 : Int) (z2 : List (S47)) (x106002 : Int) (z5 : Int) (z4 : List (S60)) (z6 : Int) : Option (Int × (List (S60)) × Int) := lim (fun k => tallboylaw18_To.l0 k x4 x106000 z2 x106002 z5 z4 z6)
theorem tallboylaw18_To.l0Llm (x4 : Int) (x106000 : Int) (z2 : List (S47)) (x106002 : Int) (z5 : Int) (z4 : List (S60)) (z6 : Int) : Lm (fun k => tallboylaw18_To.l0 k x4 x106000 z2 x106002 z5 z4 z6) (tallboylaw18_To.l0L x4 x106000 z2 x106002 z5 z4 z6) := lim_spec (fun k => (tallboylaw18_To.mono_l k) _ _ _ _ _ _ _)
noncomputable def tallboylaw18_To.L (a0_0 : Int) (l0_1 : List (S47)) (a0_2 : Int) : Option (Int × (List (S60)) × Int) := lim (fun k => tallboylaw18_To.f k a0_0 l0_1 a0_2)
theorem tallboylaw18_To.Llm (a0_0 : Int) (l0_1 : List (S47)) (a0_2 : Int) : Lm (fun k => tallboylaw18_To.f k a0_0 l0_1 a0_2) (tallboylaw18_To.L a0_0 l0_1 a0_2) := lim_spec (fun k => tallboylaw18_To.mono a0_0 l0_1 a0_2 k)
noncomputable def tallboylaw18_Great.l0L (x3 : Int) (x4 : Int) (x102000 : Int) (z0 : List (S47)) (x102002 : Int) : Option (Bool) := lim (fun k => tallboylaw18_Great.l0 k x3 x4 x102000 z0 x102002)
theorem tallboylaw18_Great.l0Llm (x3 : Int) (x4 : Int) (x102000 : Int) (z0 : List (S47)) (x102002 : Int) : Lm (fun k => tallboylaw18_Great.l0 k x3 x4 x102000 z0 x102002) (tallboylaw18_Great.l0L x3 x4 x102000 z0 x102002) := lim_spec (fun k => (tallboylaw18_Great.mono_l k) _ _ _ _ _)
noncomputable def tallboylaw18_Great.L (a0_0 : Int) (l0_1 : List (S47)) (a0_2 : Int) : Option (Bool) := lim (fun k => tallboylaw18_Great.f k a0_0 l0_1 a0_2)
theorem tallboylaw18_Great.Llm (a0_0 : Int) (l0_1 : List (S47)) (a0_2 : Int) : Lm (fun k => tallboylaw18_Great.f k a0_0 l0_1 a0_2) (tallboylaw18_Great.L a0_0 l0_1 a0_2) := lim_spec (fun k => tallboylaw18_Great.mono a0_0 l0_1 a0_2 k)
theorem tallboylaw18_To.l0L_eq (x4 : Int) (x106000 : Int) (z2 : List (S47)) (x106002 : Int) (z5 : Int) (z4 : List (S60)) (z6 : Int) : tallboylaw18_To.l0L x4 x106000 z2 x106002 z5 z4 z6 = (if x4 < (z2.length : Int) then (if 0 ≤ x4 then (if z4.length < 2932031007402 then (tallboylaw18_To.l0L (wrap64 (x4 + 1)) x106000 z2 x106002 z5 (z4 ++ [(⟨(rd_T47 z2 x4).f0, (rd_T47 z2 x4).f1, (rd_T47 z2 x4).f2, (rd_T47 z2 x4).f3⟩ : S60)]) z6) else (none)) else (none)) else (some (z5, z4, z6))) := by
  refine Lm.unique (tallboylaw18_To.l0Llm x4 x106000 z2 x106002 z5 z4 z6) ?_
  refine Lm.step rfl (f := fun k => tallboylaw18_To.l0 (k + 1) x4 x106000 z2 x106002 z5 z4 z6) (fun _ => rfl) ?_; simp only [tallboylaw18_To.l0]
  repeat' first
    | with_reducible exact tallboylaw18_To.l0Llm _ _ _ _ _ _ _
    | with_reducible exact Lm.const _
    | with_reducible refine Lm.bind ?_ (fun _ => ?_)
    | with_reducible refine Lm.ite ?_ ?_
    | refine Lm.bind ?_ (fun _ => ?_)
    | refine Lm.ite ?_ ?_
theorem tallboylaw18_To.L_eq (a0_0 : Int) (l0_1 : List (S47)) (a0_2 : Int) : tallboylaw18_To.L a0_0 l0_1 a0_2 = (tallboylaw18_To.l0L 0 a0_0 l0_1 a0_2 a0_0 ([] : List (S60)) a0_2) := by
  refine Lm.unique (tallboylaw18_To.Llm a0_0 l0_1 a0_2) ?_
  unfold tallboylaw18_To.f
  repeat' first
    | with_reducible exact tallboylaw18_To.l0Llm _ _ _ _ _ _ _
    | with_reducible exact Lm.const _
    | with_reducible refine Lm.bind ?_ (fun _ => ?_)
    | with_reducible refine Lm.ite ?_ ?_
    | refine Lm.bind ?_ (fun _ => ?_)
    | refine Lm.ite ?_ ?_
theorem tallboylaw18_Great.l0L_eq (x3 : Int) (x4 : Int) (x102000 : Int) (z0 : List (S47)) (x102002 : Int) : tallboylaw18_Great.l0L x3 x4 x102000 z0 x102002 = (if x4 < (z0.length : Int) then (if x3 < 20000 then (if 0 ≤ x4 then (tallboylaw18_Great.l0L (wrap64 ((wrap64 ((wrap64 (x3 + 1)) + (((rd_T47 z0 x4).f0).size : Int))) + (((rd_T47 z0 x4).f2).size : Int))) (wrap64 (x4 + 1)) x102000 z0 x102002) else (none)) else (some (decide (x3 ≥ 20000)))) else (some (decide (x3 ≥ 20000)))) := by
  refine Lm.unique (tallboylaw18_Great.l0Llm x3 x4 x102000 z0 x102002) ?_
  refine Lm.step rfl (f := fun k => tallboylaw18_Great.l0 (k + 1) x3 x4 x102000 z0 x102002) (fun _ => rfl) ?_; simp only [tallboylaw18_Great.l0]
  repeat' first
    | with_reducible exact tallboylaw18_Great.l0Llm _ _ _ _ _
    | with_reducible exact Lm.const _
    | with_reducible refine Lm.bind ?_ (fun _ => ?_)
    | with_reducible refine Lm.ite ?_ ?_
    | refine Lm.bind ?_ (fun _ => ?_)
    | refine Lm.ite ?_ ?_
theorem tallboylaw18_Great.L_eq (a0_0 : Int) (l0_1 : List (S47)) (a0_2 : Int) : tallboylaw18_Great.L a0_0 l0_1 a0_2 = (tallboylaw18_Great.l0L 0 0 a0_0 l0_1 a0_2) := by
  refine Lm.unique (tallboylaw18_Great.Llm a0_0 l0_1 a0_2) ?_
  unfold tallboylaw18_Great.f
  repeat' first
    | with_reducible exact tallboylaw18_Great.l0Llm _ _ _ _ _
    | with_reducible exact Lm.const _
    | with_reducible refine Lm.bind ?_ (fun _ => ?_)
    | with_reducible refine Lm.ite ?_ ?_
    | refine Lm.bind ?_ (fun _ => ?_)
    | refine Lm.ite ?_ ?_
end Go.Proofs.YtdgpagocccabdaaDoor.P
