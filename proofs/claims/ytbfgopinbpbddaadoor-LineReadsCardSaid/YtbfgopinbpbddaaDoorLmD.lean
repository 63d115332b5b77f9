/- The limits of the functions with rounds, and the equations that reckon them. Plain Lean; no condition. Written by a program. -/
import Derived.Test.YtbfgopinbpbddaaDoorLim
import Derived.Test.YtbfgopinbpbddaaDoorPx17
import Derived.Test.YtbfgopinbpbddaaDoorPx27
import Derived.Test.YtbfgopinbpbddaaDoorPx32
import Derived.Test.YtbfgopinbpbddaaDoorPx33
namespace Go.Proofs.YtbfgopinbpbddaaDoor.P
open Go.RowKit Go.Proofs.YtbfgopinbpbddaaDoor.Lim Go.Proofs.YtbfgopinbpbddaaDoorW.PrintWords Go.Proofs.YtbfgopinbpbddaaDoorW.PrintLast Go.Proofs.YtbfgopinbpbddaaDoorW.PrintMore
set_option linter.unusedVariables false

noncomputable def digits_Signed.j0L (x5 : Bool) (x6 : Int) (x8 : Int) : Option (Int × Int) := lim (fun k => digits_Signed.j0 k x5 x6 x8)
theorem digits_Signed.j0Llm (x5 : Bool) (x6 : Int) (x8 : Int) : Lm (fun k => digits_Signed.j0 k x5 x6 x8) (digits_Signed.j0L x5 x6 x8) := lim_spec (fun k => (digits_Signed.mono_l k) _ _ _)
noncomputable def digits_Signed.L (a0 : ByteArray) : Option (Int × Int) := lim (fun k => digits_Signed.f k a0)
theorem digits_Signed.Llm (a0 : ByteArray) : Lm (fun k => digits_Signed.f k a0) (digits_Signed.L a0) := lim_spec (fun k => digits_Signed.mono a0 k)
noncomputable def tallboyref02_Parse.j1L (x0 : ByteArray) (x4 : Bool) : Option (Int × Int) := lim (fun k => tallboyref02_Parse.j1 k x0 x4)
theorem tallboyref02_Parse.j1Llm (x0 : ByteArray) (x4 : Bool) : Lm (fun k => tallboyref02_Parse.j1 k x0 x4) (tallboyref02_Parse.j1L x0 x4) := lim_spec (fun k => (tallboyref02_Parse.mono_l k).1 _ _)
noncomputable def tallboyref02_Parse.l1L (x0 : ByteArray) (x6 : Int) (x7 : Int) : Option (Int × Int) := lim (fun k => tallboyref02_Parse.l1 k x0 x6 x7)
theorem tallboyref02_Parse.l1Llm (x0 : ByteArray) (x6 : Int) (x7 : Int) : Lm (fun k => tallboyref02_Parse.l1 k x0 x6 x7) (tallboyref02_Parse.l1L x0 x6 x7) := lim_spec (fun k => (tallboyref02_Parse.mono_l k).2.1 _ _ _)
noncomputable def tallboyref02_Parse.l0L (x0 : ByteArray) (x4 : Bool) (x5 : Int) : Option (Int × Int) := lim (fun k => tallboyref02_Parse.l0 k x0 x4 x5)
theorem tallboyref02_Parse.l0Llm (x0 : ByteArray) (x4 : Bool) (x5 : Int) : Lm (fun k => tallboyref02_Parse.l0 k x0 x4 x5) (tallboyref02_Parse.l0L x0 x4 x5) := lim_spec (fun k => (tallboyref02_Parse.mono_l k).2.2 _ _ _)
noncomputable def tallboyref02_Parse.L (a0 : ByteArray) : Option (Int × Int) := lim (fun k => tallboyref02_Parse.f k a0)
theorem tallboyref02_Parse.Llm (a0 : ByteArray) : Lm (fun k => tallboyref02_Parse.f k a0) (tallboyref02_Parse.L a0) := lim_spec (fun k => tallboyref02_Parse.mono a0 k)
noncomputable def tallboyref02_Signed.j0L (x0 : ByteArray) (x15 : Bool) : Option (Int × Int) := lim (fun k => tallboyref02_Signed.j0 k x0 x15)
theorem tallboyref02_Signed.j0Llm (x0 : ByteArray) (x15 : Bool) : Lm (fun k => tallboyref02_Signed.j0 k x0 x15) (tallboyref02_Signed.j0L x0 x15) := lim_spec (fun k => (tallboyref02_Signed.mono_l k).1 _ _)
noncomputable def tallboyref02_Signed.j1L (x4 : Int) (x5 : Int) (x27 : Bool) : Option (Int × Int) := lim (fun k => tallboyref02_Signed.j1 k x4 x5 x27)
theorem tallboyref02_Signed.j1Llm (x4 : Int) (x5 : Int) (x27 : Bool) : Lm (fun k => tallboyref02_Signed.j1 k x4 x5 x27) (tallboyref02_Signed.j1L x4 x5 x27) := lim_spec (fun k => (tallboyref02_Signed.mono_l k).2.1 _ _ _)
noncomputable def tallboyref02_Signed.j2L (x4 : Int) (x5 : Int) : Option (Int × Int) := lim (fun k => tallboyref02_Signed.j2 k x4 x5)
theorem tallboyref02_Signed.j2Llm (x4 : Int) (x5 : Int) : Lm (fun k => tallboyref02_Signed.j2 k x4 x5) (tallboyref02_Signed.j2L x4 x5) := lim_spec (fun k => (tallboyref02_Signed.mono_l k).2.2.1 _ _)
noncomputable def tallboyref02_Signed.j3L (x6 : Int) (x7 : Int) (x46 : Bool) : Option (Int × Int) := lim (fun k => tallboyref02_Signed.j3 k x6 x7 x46)
theorem tallboyref02_Signed.j3Llm (x6 : Int) (x7 : Int) (x46 : Bool) : Lm (fun k => tallboyref02_Signed.j3 k x6 x7 x46) (tallboyref02_Signed.j3L x6 x7 x46) := lim_spec (fun k => (tallboyref02_Signed.mono_l k).2.2.2.1 _ _ _)
noncomputable def tallboyref02_Signed.j4L (x6 : Int) (x7 : Int) : Option (Int × Int) := lim (fun k => tallboyref02_Signed.j4 k x6 x7)
theorem tallboyref02_Signed.j4Llm (x6 : Int) (x7 : Int) : Lm (fun k => tallboyref02_Signed.j4 k x6 x7) (tallboyref02_Signed.j4L x6 x7) := lim_spec (fun k => (tallboyref02_Signed.mono_l k).2.2.2.2 _ _)
noncomputable def tallboyref02_Signed.L (a0 : ByteArray) : Option (Int × Int) := lim (fun k => tallboyref02_Signed.f k a0)
theorem tallboyref02_Signed.Llm (a0 : ByteArray) : Lm (fun k => tallboyref02_Signed.f k a0) (tallboyref02_Signed.L a0) := lim_spec (fun k => tallboyref02_Signed.mono a0 k)
theorem digits_Signed.j0L_eq (x5 : Bool) (x6 : Int) (x8 : Int) : digits_Signed.j0L x5 x6 x8 = (if x6 > x8 then (some (0, 1)) else (if x5 = true then (some (wrap64 (IntKind.u64.wrap (-x6)), 0)) else (some (wrap64 (x6), 0)))) := by
  refine Lm.unique (digits_Signed.j0Llm x5 x6 x8) ?_
  refine Lm.step rfl (f := fun k => digits_Signed.j0 (k + 1) x5 x6 x8) (fun _ => rfl) ?_; simp only [digits_Signed.j0]
  repeat' first
    | with_reducible exact Lm.const _
    | with_reducible refine Lm.bind ?_ (fun _ => ?_)
    | with_reducible refine Lm.ite ?_ ?_
    | refine Lm.bind ?_ (fun _ => ?_)
    | refine Lm.ite ?_ ?_
theorem digits_Signed.L_eq (a0 : ByteArray) : digits_Signed.L a0 = ((strings_CutPrefix.f a0 (⟨#[45]⟩ : ByteArray)).bind fun bt224 => ((digits_Parse.f bt224.1).bind fun bt226 => (if bt226.2 = 0 then (if bt224.2 = true then (digits_Signed.j0L bt224.2 bt226.1 (9223372036854775807 + 1)) else (digits_Signed.j0L bt224.2 bt226.1 9223372036854775807)) else (some (0, bt226.2))))) := by
  refine Lm.unique (digits_Signed.Llm a0) ?_
  unfold digits_Signed.f
  repeat' first
    | with_reducible exact digits_Signed.j0Llm _ _ _
    | with_reducible exact Lm.const _
    | with_reducible refine Lm.bind ?_ (fun _ => ?_)
    | with_reducible refine Lm.ite ?_ ?_
    | refine Lm.bind ?_ (fun _ => ?_)
    | refine Lm.ite ?_ ?_
theorem tallboyref02_Parse.j1L_eq (x0 : ByteArray) (x4 : Bool) : tallboyref02_Parse.j1L x0 x4 = (if x4 = true then (if (x0.size : Int) > 20 then (some (0, 7)) else (tallboyref02_Parse.l1L x0 0 0)) else (some (0, 6))) := by
  refine Lm.unique (tallboyref02_Parse.j1Llm x0 x4) ?_
  refine Lm.step rfl (f := fun k => tallboyref02_Parse.j1 (k + 1) x0 x4) (fun _ => rfl) ?_; simp only [tallboyref02_Parse.j1]
  repeat' first
    | with_reducible exact tallboyref02_Parse.l1Llm _ _ _
    | with_reducible exact Lm.const _
    | with_reducible refine Lm.bind ?_ (fun _ => ?_)
    | with_reducible refine Lm.ite ?_ ?_
    | refine Lm.bind ?_ (fun _ => ?_)
    | refine Lm.ite ?_ ?_
theorem tallboyref02_Parse.l1L_eq (x0 : ByteArray) (x6 : Int) (x7 : Int) : tallboyref02_Parse.l1L x0 x6 x7 = (if x7 < (x0.size : Int) then (if 0 ≤ x7 then (if x6 > ((18446744073709551615 - (((bt x0 x7) - 48) % 256)) / 10) then (some (0, 1)) else (tallboyref02_Parse.l1L x0 (IntKind.u64.wrap ((IntKind.u64.wrap (10 * x6)) + (((bt x0 x7) - 48) % 256))) (wrap64 (x7 + 1)))) else (none)) else (some (x6, 0))) := by
  refine Lm.unique (tallboyref02_Parse.l1Llm x0 x6 x7) ?_
  refine Lm.step rfl (f := fun k => tallboyref02_Parse.l1 (k + 1) x0 x6 x7) (fun _ => rfl) ?_; simp only [tallboyref02_Parse.l1]
  repeat' first
    | with_reducible exact tallboyref02_Parse.l1Llm _ _ _
    | with_reducible exact Lm.const _
    | with_reducible refine Lm.bind ?_ (fun _ => ?_)
    | with_reducible refine Lm.ite ?_ ?_
    | refine Lm.bind ?_ (fun _ => ?_)
    | refine Lm.ite ?_ ?_
theorem tallboyref02_Parse.l0L_eq (x0 : ByteArray) (x4 : Bool) (x5 : Int) : tallboyref02_Parse.l0L x0 x4 x5 = (if x5 < (x0.size : Int) then (if x4 = true then (if 0 ≤ x5 then (if (bt x0 x5) ≥ 48 then (tallboyref02_Parse.l0L x0 (decide ((bt x0 x5) ≤ 57)) (wrap64 (x5 + 1))) else (tallboyref02_Parse.l0L x0 false (wrap64 (x5 + 1)))) else (none)) else (tallboyref02_Parse.j1L x0 x4)) else (tallboyref02_Parse.j1L x0 x4)) := by
  refine Lm.unique (tallboyref02_Parse.l0Llm x0 x4 x5) ?_
  refine Lm.step rfl (f := fun k => tallboyref02_Parse.l0 (k + 1) x0 x4 x5) (fun _ => rfl) ?_; simp only [tallboyref02_Parse.l0]
  repeat' first
    | with_reducible exact tallboyref02_Parse.j1Llm _ _
    | with_reducible exact tallboyref02_Parse.l0Llm _ _ _
    | with_reducible exact Lm.const _
    | with_reducible refine Lm.bind ?_ (fun _ => ?_)
    | with_reducible refine Lm.ite ?_ ?_
    | refine Lm.bind ?_ (fun _ => ?_)
    | refine Lm.ite ?_ ?_
theorem tallboyref02_Parse.L_eq (a0 : ByteArray) : tallboyref02_Parse.L a0 = (tallboyref02_Parse.l0L a0 (decide ((a0.size : Int) > 0)) 0) := by
  refine Lm.unique (tallboyref02_Parse.Llm a0) ?_
  unfold tallboyref02_Parse.f
  repeat' first
    | with_reducible exact tallboyref02_Parse.l0Llm _ _ _
    | with_reducible exact Lm.const _
    | with_reducible refine Lm.bind ?_ (fun _ => ?_)
    | with_reducible refine Lm.ite ?_ ?_
    | refine Lm.bind ?_ (fun _ => ?_)
    | refine Lm.ite ?_ ?_
theorem tallboyref02_Signed.j0L_eq (x0 : ByteArray) (x15 : Bool) : tallboyref02_Signed.j0L x0 x15 = (if x15 = true then (if 1 ≤ (x0.size : Int) then ((tallboyref02_Parse.L (x0.extract 1 x0.size)).bind fun bt247 => (if bt247.2 = 0 then (tallboyref02_Signed.j1L bt247.1 bt247.2 (decide (bt247.1 > 9223372036854775808))) else (tallboyref02_Signed.j1L bt247.1 bt247.2 false))) else (none)) else ((tallboyref02_Parse.L x0).bind fun bt249 => (if bt249.2 = 0 then (tallboyref02_Signed.j3L bt249.1 bt249.2 (decide (bt249.1 > 9223372036854775807))) else (tallboyref02_Signed.j3L bt249.1 bt249.2 false)))) := by
  refine Lm.unique (tallboyref02_Signed.j0Llm x0 x15) ?_
  refine Lm.step rfl (f := fun k => tallboyref02_Signed.j0 (k + 1) x0 x15) (fun _ => rfl) ?_; simp only [tallboyref02_Signed.j0]
  repeat' first
    | with_reducible exact tallboyref02_Signed.j3Llm _ _ _
    | with_reducible exact tallboyref02_Signed.j1Llm _ _ _
    | with_reducible exact tallboyref02_Parse.Llm _
    | with_reducible exact Lm.const _
    | with_reducible refine Lm.bind ?_ (fun _ => ?_)
    | with_reducible refine Lm.ite ?_ ?_
    | refine Lm.bind ?_ (fun _ => ?_)
    | refine Lm.ite ?_ ?_
theorem tallboyref02_Signed.j1L_eq (x4 : Int) (x5 : Int) (x27 : Bool) : tallboyref02_Signed.j1L x4 x5 x27 = (if x27 = true then (tallboyref02_Signed.j2L x4 1) else (tallboyref02_Signed.j2L x4 x5)) := by
  refine Lm.unique (tallboyref02_Signed.j1Llm x4 x5 x27) ?_
  refine Lm.step rfl (f := fun k => tallboyref02_Signed.j1 (k + 1) x4 x5 x27) (fun _ => rfl) ?_; simp only [tallboyref02_Signed.j1]
  repeat' first
    | with_reducible exact tallboyref02_Signed.j2Llm _ _
    | with_reducible exact Lm.const _
    | with_reducible refine Lm.bind ?_ (fun _ => ?_)
    | with_reducible refine Lm.ite ?_ ?_
    | refine Lm.bind ?_ (fun _ => ?_)
    | refine Lm.ite ?_ ?_
theorem tallboyref02_Signed.j2L_eq (x4 : Int) (x5 : Int) : tallboyref02_Signed.j2L x4 x5 = (if x5 = 0 then (if x4 = 9223372036854775808 then (some ((-9223372036854775808), 0)) else (some (wrap64 (-(wrap64 (x4))), 0))) else (some (0, x5))) := by
  refine Lm.unique (tallboyref02_Signed.j2Llm x4 x5) ?_
  refine Lm.step rfl (f := fun k => tallboyref02_Signed.j2 (k + 1) x4 x5) (fun _ => rfl) ?_; simp only [tallboyref02_Signed.j2]
  repeat' first
    | with_reducible exact Lm.const _
    | with_reducible refine Lm.bind ?_ (fun _ => ?_)
    | with_reducible refine Lm.ite ?_ ?_
    | refine Lm.bind ?_ (fun _ => ?_)
    | refine Lm.ite ?_ ?_
theorem tallboyref02_Signed.j3L_eq (x6 : Int) (x7 : Int) (x46 : Bool) : tallboyref02_Signed.j3L x6 x7 x46 = (if x46 = true then (tallboyref02_Signed.j4L x6 1) else (tallboyref02_Signed.j4L x6 x7)) := by
  refine Lm.unique (tallboyref02_Signed.j3Llm x6 x7 x46) ?_
  refine Lm.step rfl (f := fun k => tallboyref02_Signed.j3 (k + 1) x6 x7 x46) (fun _ => rfl) ?_; simp only [tallboyref02_Signed.j3]
  repeat' first
    | with_reducible exact tallboyref02_Signed.j4Llm _ _
    | with_reducible exact Lm.const _
    | with_reducible refine Lm.bind ?_ (fun _ => ?_)
    | with_reducible refine Lm.ite ?_ ?_
    | refine Lm.bind ?_ (fun _ => ?_)
    | refine Lm.ite ?_ ?_
theorem tallboyref02_Signed.j4L_eq (x6 : Int) (x7 : Int) : tallboyref02_Signed.j4L x6 x7 = (if x7 = 0 then (some (wrap64 (x6), 0)) else (some (0, x7))) := by
  refine Lm.unique (tallboyref02_Signed.j4Llm x6 x7) ?_
  refine Lm.step rfl (f := fun k => tallboyref02_Signed.j4 (k + 1) x6 x7) (fun _ => rfl) ?_; simp only [tallboyref02_Signed.j4]
  repeat' first
    | with_reducible exact Lm.const _
    | with_reducible refine Lm.bind ?_ (fun _ => ?_)
    | with_reducible refine Lm.ite ?_ ?_
    | refine Lm.bind ?_ (fun _ => ?_)
    | refine Lm.ite ?_ ?_
theorem tallboyref02_Signed.L_eq (a0 : ByteArray) : tallboyref02_Signed.L a0 = (if (a0.size : Int) > 0 then (if 0 < (a0.size : Int) then (tallboyref02_Signed.j0L a0 ((bt a0 0) == 45)) else (none)) else (tallboyref02_Signed.j0L a0 false)) := by
  refine Lm.unique (tallboyref02_Signed.Llm a0) ?_
  unfold tallboyref02_Signed.f
  repeat' first
    | with_reducible exact tallboyref02_Signed.j0Llm _ _
    | with_reducible exact Lm.const _
    | with_reducible refine Lm.bind ?_ (fun _ => ?_)
    | with_reducible refine Lm.ite ?_ ?_
    | refine Lm.bind ?_ (fun _ => ?_)
    | refine Lm.ite ?_ ?_
end Go.Proofs.YtbfgopinbpbddaaDoor.P
