/- The limits of the functions with rounds, and the equations that reckon them. Plain Lean; no condition. Written by a program. -/
import Derived.Test.YtdgpagocccabdaaDoorLim
import Derived.Test.YtdgpagocccabdaaDoorPx22
import Derived.Test.YtdgpagocccabdaaDoorPx25
namespace Go.Proofs.YtdgpagocccabdaaDoor.P
open Go.RowKit Go.Proofs.YtdgpagocccabdaaDoor.Lim Go.Proofs.YtdgpagocccabdaaDoorW.PrintWords Go.Proofs.YtdgpagocccabdaaDoorW.PrintLast Go.Proofs.YtdgpagocccabdaaDoorW.PrintMore
set_option linter.unusedVariables false

noncomputable def fnv_Key.j0L (x0 : ByteArray) (x10 : Bool) : Option (Bool) := lim (fun k => fnv_Key.j0 k x0 x10)
theorem fnv_Key.j0Llm (x0 : ByteArray) (x10 : Bool) : Lm (fun k => fnv_Key.j0 k x0 x10) (fnv_Key.j0L x0 x10) := lim_spec (fun k => (fnv_Key.mono_l k).1 _ _)
noncomputable def fnv_Key.l0L (x0 : ByteArray) (x12 : Int) (x13 : Int) : Option (Bool) := lim (fun k => fnv_Key.l0 k x0 x12 x13)
theorem fnv_Key.l0Llm (x0 : ByteArray) (x12 : Int) (x13 : Int) : Lm (fun k => fnv_Key.l0 k x0 x12 x13) (fnv_Key.l0L x0 x12 x13) := lim_spec (fun k => (fnv_Key.mono_l k).2 _ _ _)
noncomputable def fnv_Key.L (a0 : ByteArray) : Option (Bool) := lim (fun k => fnv_Key.f k a0)
theorem fnv_Key.Llm (a0 : ByteArray) : Lm (fun k => fnv_Key.f k a0) (fnv_Key.L a0) := lim_spec (fun k => fnv_Key.mono a0 k)
noncomputable def tallboyref04_Key.j0L (x0 : ByteArray) (x3 : Bool) : Option (Bool) := lim (fun k => tallboyref04_Key.j0 k x0 x3)
theorem tallboyref04_Key.j0Llm (x0 : ByteArray) (x3 : Bool) : Lm (fun k => tallboyref04_Key.j0 k x0 x3) (tallboyref04_Key.j0L x0 x3) := lim_spec (fun k => (tallboyref04_Key.mono_l k).1 _ _)
noncomputable def tallboyref04_Key.l0L (x0 : ByteArray) (x3 : Bool) (x4 : Int) : Option (Bool) := lim (fun k => tallboyref04_Key.l0 k x0 x3 x4)
theorem tallboyref04_Key.l0Llm (x0 : ByteArray) (x3 : Bool) (x4 : Int) : Lm (fun k => tallboyref04_Key.l0 k x0 x3 x4) (tallboyref04_Key.l0L x0 x3 x4) := lim_spec (fun k => (tallboyref04_Key.mono_l k).2 _ _ _)
noncomputable def tallboyref04_Key.L (a0 : ByteArray) : Option (Bool) := lim (fun k => tallboyref04_Key.f k a0)
theorem tallboyref04_Key.Llm (a0 : ByteArray) : Lm (fun k => tallboyref04_Key.f k a0) (tallboyref04_Key.L a0) := lim_spec (fun k => tallboyref04_Key.mono a0 k)
theorem fnv_Key.j0L_eq (x0 : ByteArray) (x10 : Bool) : fnv_Key.j0L x0 x10 = (if x10 = true then (some false) else (fnv_Key.l0L x0 (x0.size : Int) 0)) := by
  refine Lm.unique (fnv_Key.j0Llm x0 x10) ?_
  refine Lm.step rfl (f := fun k => fnv_Key.j0 (k + 1) x0 x10) (fun _ => rfl) ?_; simp only [fnv_Key.j0]
  repeat' first
    | with_reducible exact fnv_Key.l0Llm _ _ _
    | with_reducible exact Lm.const _
    | with_reducible refine Lm.bind ?_ (fun _ => ?_)
    | with_reducible refine Lm.ite ?_ ?_
    | refine Lm.bind ?_ (fun _ => ?_)
    | refine Lm.ite ?_ ?_
theorem fnv_Key.l0L_eq (x0 : ByteArray) (x12 : Int) (x13 : Int) : fnv_Key.l0L x0 x12 x13 = (if x13 < x12 then (if 0 ≤ x13 then (if x13 < (x0.size : Int) then (if (bt x0 x13) < 33 then (some false) else (if (bt x0 x13) > 126 then (some false) else (fnv_Key.l0L x0 x12 (wrap64 (x13 + 1))))) else (none)) else (none)) else (some true)) := by
  refine Lm.unique (fnv_Key.l0Llm x0 x12 x13) ?_
  refine Lm.step rfl (f := fun k => fnv_Key.l0 (k + 1) x0 x12 x13) (fun _ => rfl) ?_; simp only [fnv_Key.l0]
  repeat' first
    | with_reducible exact fnv_Key.l0Llm _ _ _
    | with_reducible exact Lm.const _
    | with_reducible refine Lm.bind ?_ (fun _ => ?_)
    | with_reducible refine Lm.ite ?_ ?_
    | refine Lm.bind ?_ (fun _ => ?_)
    | refine Lm.ite ?_ ?_
theorem fnv_Key.L_eq (a0 : ByteArray) : fnv_Key.L a0 = (if a0.toList = ([] : List UInt8) then (fnv_Key.j0L a0 true) else (fnv_Key.j0L a0 (decide ((a0.size : Int) > 32)))) := by
  refine Lm.unique (fnv_Key.Llm a0) ?_
  unfold fnv_Key.f
  repeat' first
    | with_reducible exact fnv_Key.j0Llm _ _
    | with_reducible exact Lm.const _
    | with_reducible refine Lm.bind ?_ (fun _ => ?_)
    | with_reducible refine Lm.ite ?_ ?_
    | refine Lm.bind ?_ (fun _ => ?_)
    | refine Lm.ite ?_ ?_
theorem tallboyref04_Key.j0L_eq (x0 : ByteArray) (x3 : Bool) : tallboyref04_Key.j0L x0 x3 = (tallboyref04_Key.l0L x0 x3 0) := by
  refine Lm.unique (tallboyref04_Key.j0Llm x0 x3) ?_
  refine Lm.step rfl (f := fun k => tallboyref04_Key.j0 (k + 1) x0 x3) (fun _ => rfl) ?_; simp only [tallboyref04_Key.j0]
  repeat' first
    | with_reducible exact tallboyref04_Key.l0Llm _ _ _
    | with_reducible exact Lm.const _
    | with_reducible refine Lm.bind ?_ (fun _ => ?_)
    | with_reducible refine Lm.ite ?_ ?_
    | refine Lm.bind ?_ (fun _ => ?_)
    | refine Lm.ite ?_ ?_
theorem tallboyref04_Key.l0L_eq (x0 : ByteArray) (x3 : Bool) (x4 : Int) : tallboyref04_Key.l0L x0 x3 x4 = (if x4 < (x0.size : Int) then (if x3 = true then (if 0 ≤ x4 then (if (bt x0 x4) ≥ 33 then (tallboyref04_Key.l0L x0 (decide ((bt x0 x4) ≤ 126)) (wrap64 (x4 + 1))) else (tallboyref04_Key.l0L x0 false (wrap64 (x4 + 1)))) else (none)) else (some x3)) else (some x3)) := by
  refine Lm.unique (tallboyref04_Key.l0Llm x0 x3 x4) ?_
  refine Lm.step rfl (f := fun k => tallboyref04_Key.l0 (k + 1) x0 x3 x4) (fun _ => rfl) ?_; simp only [tallboyref04_Key.l0]
  repeat' first
    | with_reducible exact tallboyref04_Key.l0Llm _ _ _
    | with_reducible exact Lm.const _
    | with_reducible refine Lm.bind ?_ (fun _ => ?_)
    | with_reducible refine Lm.ite ?_ ?_
    | refine Lm.bind ?_ (fun _ => ?_)
    | refine Lm.ite ?_ ?_
theorem tallboyref04_Key.L_eq (a0 : ByteArray) : tallboyref04_Key.L a0 = (if (a0.size : Int) ≥ 1 then (tallboyref04_Key.j0L a0 (decide ((a0.size : Int) ≤ 32))) else (tallboyref04_Key.j0L a0 false)) := by
  refine Lm.unique (tallboyref04_Key.Llm a0) ?_
  unfold tallboyref04_Key.f
  repeat' first
    | with_reducible exact tallboyref04_Key.j0Llm _ _
    | with_reducible exact Lm.const _
    | with_reducible refine Lm.bind ?_ (fun _ => ?_)
    | with_reducible refine Lm.ite ?_ ?_
    | refine Lm.bind ?_ (fun _ => ?_)
    | refine Lm.ite ?_ ?_
end Go.Proofs.YtdgpagocccabdaaDoor.P
