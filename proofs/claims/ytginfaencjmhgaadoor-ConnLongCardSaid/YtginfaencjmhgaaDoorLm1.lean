/- The limits of the functions with rounds, and the equations that reckon them. Plain Lean; no condition. Written by a program. -/
import Derived.Test.YtginfaencjmhgaaDoorLim
import Derived.Test.YtginfaencjmhgaaDoorPx19
import Derived.Test.YtginfaencjmhgaaDoorPx5
namespace Go.Proofs.YtginfaencjmhgaaDoor.P
open Go.RowKit Go.Proofs.YtginfaencjmhgaaDoor.Lim Go.Proofs.YtginfaencjmhgaaDoorW.PrintWords Go.Proofs.YtginfaencjmhgaaDoorW.PrintLast Go.Proofs.YtginfaencjmhgaaDoorW.PrintMore
set_option linter.unusedVariables false

noncomputable def tallboyref04_Key.j0L (x0 : ByteArray) (x3 : Bool) : Option (Bool) := lim (fun k => tallboyref04_Key.j0 k x0 x3)
theorem tallboyref04_Key.j0Llm (x0 : ByteArray) (x3 : Bool) : Lm (fun k => tallboyref04_Key.j0 k x0 x3) (tallboyref04_Key.j0L x0 x3) := lim_spec (fun k => (tallboyref04_Key.mono_l k).1 _ _)
noncomputable def tallboyref04_Key.l0L (x0 : ByteArray) (x3 : Bool) (x4 : Int) : Option (Bool) := lim (fun k => tallboyref04_Key.l0 k x0 x3 x4)
theorem tallboyref04_Key.l0Llm (x0 : ByteArray) (x3 : Bool) (x4 : Int) : Lm (fun k => tallboyref04_Key.l0 k x0 x3 x4) (tallboyref04_Key.l0L x0 x3 x4) := lim_spec (fun k => (tallboyref04_Key.mono_l k).2 _ _ _)
noncomputable def tallboyref04_Key.L (a0 : ByteArray) : Option (Bool) := lim (fun k => tallboyref04_Key.f k a0)
theorem tallboyref04_Key.Llm (a0 : ByteArray) : Lm (fun k => tallboyref04_Key.f k a0) (tallboyref04_Key.L a0) := lim_spec (fun k => tallboyref04_Key.mono a0 k)
noncomputable def tallboyref15_Check.j0L (x3 : Int) (x16 : Bool) (z7 : Int) (z0 : List ByteArray) (z2 : Int) (z3 : Int) (z1 : ByteArray) (z4 : Int) (z5 : Int) (z6 : Bool) : Option (Int) := lim (fun k => tallboyref15_Check.j0 k x3 x16 z7 z0 z2 z3 z1 z4 z5 z6)
theorem tallboyref15_Check.j0Llm (x3 : Int) (x16 : Bool) (z7 : Int) (z0 : List ByteArray) (z2 : Int) (z3 : Int) (z1 : ByteArray) (z4 : Int) (z5 : Int) (z6 : Bool) : Lm (fun k => tallboyref15_Check.j0 k x3 x16 z7 z0 z2 z3 z1 z4 z5 z6) (tallboyref15_Check.j0L x3 x16 z7 z0 z2 z3 z1 z4 z5 z6) := lim_spec (fun k => (tallboyref15_Check.mono_l k).1 _ _ _ _ _ _ _ _ _ _)
noncomputable def tallboyref15_Check.j1L (x3 : Int) (x4 : Int) (x5 : Bool) (z7 : Int) (z0 : List ByteArray) (z2 : Int) (z3 : Int) (z1 : ByteArray) (z4 : Int) (z5 : Int) (z6 : Bool) : Option (Int) := lim (fun k => tallboyref15_Check.j1 k x3 x4 x5 z7 z0 z2 z3 z1 z4 z5 z6)
theorem tallboyref15_Check.j1Llm (x3 : Int) (x4 : Int) (x5 : Bool) (z7 : Int) (z0 : List ByteArray) (z2 : Int) (z3 : Int) (z1 : ByteArray) (z4 : Int) (z5 : Int) (z6 : Bool) : Lm (fun k => tallboyref15_Check.j1 k x3 x4 x5 z7 z0 z2 z3 z1 z4 z5 z6) (tallboyref15_Check.j1L x3 x4 x5 z7 z0 z2 z3 z1 z4 z5 z6) := lim_spec (fun k => (tallboyref15_Check.mono_l k).2.1 _ _ _ _ _ _ _ _ _ _ _)
noncomputable def tallboyref15_Check.j2L (x3 : Int) (x4 : Int) (x5 : Bool) (z7 : Int) (z0 : List ByteArray) (z2 : Int) (z3 : Int) (z1 : ByteArray) (z4 : Int) (z5 : Int) (z6 : Bool) : Option (Int) := lim (fun k => tallboyref15_Check.j2 k x3 x4 x5 z7 z0 z2 z3 z1 z4 z5 z6)
theorem tallboyref15_Check.j2Llm (x3 : Int) (x4 : Int) (x5 : Bool) (z7 : Int) (z0 : List ByteArray) (z2 : Int) (z3 : Int) (z1 : ByteArray) (z4 : Int) (z5 : Int) (z6 : Bool) : Lm (fun k => tallboyref15_Check.j2 k x3 x4 x5 z7 z0 z2 z3 z1 z4 z5 z6) (tallboyref15_Check.j2L x3 x4 x5 z7 z0 z2 z3 z1 z4 z5 z6) := lim_spec (fun k => (tallboyref15_Check.mono_l k).2.2.1 _ _ _ _ _ _ _ _ _ _ _)
noncomputable def tallboyref15_Check.j4L (x3 : Int) (x5 : Bool) (z7 : Int) (z0 : List ByteArray) (z2 : Int) (z3 : Int) (z1 : ByteArray) (z4 : Int) (z5 : Int) (z6 : Bool) : Option (Int) := lim (fun k => tallboyref15_Check.j4 k x3 x5 z7 z0 z2 z3 z1 z4 z5 z6)
theorem tallboyref15_Check.j4Llm (x3 : Int) (x5 : Bool) (z7 : Int) (z0 : List ByteArray) (z2 : Int) (z3 : Int) (z1 : ByteArray) (z4 : Int) (z5 : Int) (z6 : Bool) : Lm (fun k => tallboyref15_Check.j4 k x3 x5 z7 z0 z2 z3 z1 z4 z5 z6) (tallboyref15_Check.j4L x3 x5 z7 z0 z2 z3 z1 z4 z5 z6) := lim_spec (fun k => (tallboyref15_Check.mono_l k).2.2.2.1 _ _ _ _ _ _ _ _ _ _)
noncomputable def tallboyref15_Check.j5L (x3 : Int) (x5 : Bool) (z7 : Int) (z0 : List ByteArray) (z2 : Int) (z3 : Int) (z1 : ByteArray) (z4 : Int) (z5 : Int) (z6 : Bool) : Option (Int) := lim (fun k => tallboyref15_Check.j5 k x3 x5 z7 z0 z2 z3 z1 z4 z5 z6)
theorem tallboyref15_Check.j5Llm (x3 : Int) (x5 : Bool) (z7 : Int) (z0 : List ByteArray) (z2 : Int) (z3 : Int) (z1 : ByteArray) (z4 : Int) (z5 : Int) (z6 : Bool) : Lm (fun k => tallboyref15_Check.j5 k x3 x5 z7 z0 z2 z3 z1 z4 z5 z6) (tallboyref15_Check.j5L x3 x5 z7 z0 z2 z3 z1 z4 z5 z6) := lim_spec (fun k => (tallboyref15_Check.mono_l k).2.2.2.2.1 _ _ _ _ _ _ _ _ _ _)
noncomputable def tallboyref15_Check.j6L (x3 : Int) (x5 : Bool) (x7 : Bool) (z7 : Int) (z0 : List ByteArray) (z2 : Int) (z3 : Int) (z1 : ByteArray) (z4 : Int) (z5 : Int) (z6 : Bool) : Option (Int) := lim (fun k => tallboyref15_Check.j6 k x3 x5 x7 z7 z0 z2 z3 z1 z4 z5 z6)
theorem tallboyref15_Check.j6Llm (x3 : Int) (x5 : Bool) (x7 : Bool) (z7 : Int) (z0 : List ByteArray) (z2 : Int) (z3 : Int) (z1 : ByteArray) (z4 : Int) (z5 : Int) (z6 : Bool) : Lm (fun k => tallboyref15_Check.j6 k x3 x5 x7 z7 z0 z2 z3 z1 z4 z5 z6) (tallboyref15_Check.j6L x3 x5 x7 z7 z0 z2 z3 z1 z4 z5 z6) := lim_spec (fun k => (tallboyref15_Check.mono_l k).2.2.2.2.2.1 _ _ _ _ _ _ _ _ _ _ _)
noncomputable def tallboyref15_Check.j7L (x3 : Int) (x5 : Bool) (x7 : Bool) (z7 : Int) (z0 : List ByteArray) (z2 : Int) (z3 : Int) (z1 : ByteArray) (z4 : Int) (z5 : Int) (z6 : Bool) : Option (Int) := lim (fun k => tallboyref15_Check.j7 k x3 x5 x7 z7 z0 z2 z3 z1 z4 z5 z6)
theorem tallboyref15_Check.j7Llm (x3 : Int) (x5 : Bool) (x7 : Bool) (z7 : Int) (z0 : List ByteArray) (z2 : Int) (z3 : Int) (z1 : ByteArray) (z4 : Int) (z5 : Int) (z6 : Bool) : Lm (fun k => tallboyref15_Check.j7 k x3 x5 x7 z7 z0 z2 z3 z1 z4 z5 z6) (tallboyref15_Check.j7L x3 x5 x7 z7 z0 z2 z3 z1 z4 z5 z6) := lim_spec (fun k => (tallboyref15_Check.mono_l k).2.2.2.2.2.2.1 _ _ _ _ _ _ _ _ _ _ _)
noncomputable def tallboyref15_Check.j8L (x3 : Int) (x5 : Bool) (x8 : Bool) (z7 : Int) (z0 : List ByteArray) (z2 : Int) (z3 : Int) (z1 : ByteArray) (z4 : Int) (z5 : Int) (z6 : Bool) : Option (Int) := lim (fun k => tallboyref15_Check.j8 k x3 x5 x8 z7 z0 z2 z3 z1 z4 z5 z6)
theorem tallboyref15_Check.j8Llm (x3 : Int) (x5 : Bool) (x8 : Bool) (z7 : Int) (z0 : List ByteArray) (z2 : Int) (z3 : Int) (z1 : ByteArray) (z4 : Int) (z5 : Int) (z6 : Bool) : Lm (fun k => tallboyref15_Check.j8 k x3 x5 x8 z7 z0 z2 z3 z1 z4 z5 z6) (tallboyref15_Check.j8L x3 x5 x8 z7 z0 z2 z3 z1 z4 z5 z6) := lim_spec (fun k => (tallboyref15_Check.mono_l k).2.2.2.2.2.2.2.1 _ _ _ _ _ _ _ _ _ _ _)
noncomputable def tallboyref15_Check.j9L (x3 : Int) (x5 : Bool) (z7 : Int) (z0 : List ByteArray) (z2 : Int) (z3 : Int) (z1 : ByteArray) (z4 : Int) (z5 : Int) (z6 : Bool) : Option (Int) := lim (fun k => tallboyref15_Check.j9 k x3 x5 z7 z0 z2 z3 z1 z4 z5 z6)
theorem tallboyref15_Check.j9Llm (x3 : Int) (x5 : Bool) (z7 : Int) (z0 : List ByteArray) (z2 : Int) (z3 : Int) (z1 : ByteArray) (z4 : Int) (z5 : Int) (z6 : Bool) : Lm (fun k => tallboyref15_Check.j9 k x3 x5 z7 z0 z2 z3 z1 z4 z5 z6) (tallboyref15_Check.j9L x3 x5 z7 z0 z2 z3 z1 z4 z5 z6) := lim_spec (fun k => (tallboyref15_Check.mono_l k).2.2.2.2.2.2.2.2.1 _ _ _ _ _ _ _ _ _ _)
noncomputable def tallboyref15_Check.j10L (x3 : Int) (x5 : Bool) (z7 : Int) (z0 : List ByteArray) (z2 : Int) (z3 : Int) (z1 : ByteArray) (z4 : Int) (z5 : Int) (z6 : Bool) : Option (Int) := lim (fun k => tallboyref15_Check.j10 k x3 x5 z7 z0 z2 z3 z1 z4 z5 z6)
theorem tallboyref15_Check.j10Llm (x3 : Int) (x5 : Bool) (z7 : Int) (z0 : List ByteArray) (z2 : Int) (z3 : Int) (z1 : ByteArray) (z4 : Int) (z5 : Int) (z6 : Bool) : Lm (fun k => tallboyref15_Check.j10 k x3 x5 z7 z0 z2 z3 z1 z4 z5 z6) (tallboyref15_Check.j10L x3 x5 z7 z0 z2 z3 z1 z4 z5 z6) := lim_spec (fun k => (tallboyref15_Check.mono_l k).2.2.2.2.2.2.2.2.2.1 _ _ _ _ _ _ _ _ _ _)
noncomputable def tallboyref15_Check.j11L (x3 : Int) (x5 : Bool) (x109 : Bool) (z7 : Int) (z0 : List ByteArray) (z2 : Int) (z3 : Int) (z1 : ByteArray) (z4 : Int) (z5 : Int) (z6 : Bool) : Option (Int) := lim (fun k => tallboyref15_Check.j11 k x3 x5 x109 z7 z0 z2 z3 z1 z4 z5 z6)
theorem tallboyref15_Check.j11Llm (x3 : Int) (x5 : Bool) (x109 : Bool) (z7 : Int) (z0 : List ByteArray) (z2 : Int) (z3 : Int) (z1 : ByteArray) (z4 : Int) (z5 : Int) (z6 : Bool) : Lm (fun k => tallboyref15_Check.j11 k x3 x5 x109 z7 z0 z2 z3 z1 z4 z5 z6) (tallboyref15_Check.j11L x3 x5 x109 z7 z0 z2 z3 z1 z4 z5 z6) := lim_spec (fun k => (tallboyref15_Check.mono_l k).2.2.2.2.2.2.2.2.2.2.1 _ _ _ _ _ _ _ _ _ _ _)
noncomputable def tallboyref15_Check.j12L (x3 : Int) (x5 : Bool) (z7 : Int) (z0 : List ByteArray) (z2 : Int) (z3 : Int) (z1 : ByteArray) (z4 : Int) (z5 : Int) (z6 : Bool) : Option (Int) := lim (fun k => tallboyref15_Check.j12 k x3 x5 z7 z0 z2 z3 z1 z4 z5 z6)
theorem tallboyref15_Check.j12Llm (x3 : Int) (x5 : Bool) (z7 : Int) (z0 : List ByteArray) (z2 : Int) (z3 : Int) (z1 : ByteArray) (z4 : Int) (z5 : Int) (z6 : Bool) : Lm (fun k => tallboyref15_Check.j12 k x3 x5 z7 z0 z2 z3 z1 z4 z5 z6) (tallboyref15_Check.j12L x3 x5 z7 z0 z2 z3 z1 z4 z5 z6) := lim_spec (fun k => (tallboyref15_Check.mono_l k).2.2.2.2.2.2.2.2.2.2.2.1 _ _ _ _ _ _ _ _ _ _)
noncomputable def tallboyref15_Check.j13L (x5 : Bool) (z7 : Int) (z0 : List ByteArray) (z2 : Int) (z3 : Int) (z1 : ByteArray) (z4 : Int) (z5 : Int) (z6 : Bool) : Option (Int) := lim (fun k => tallboyref15_Check.j13 k x5 z7 z0 z2 z3 z1 z4 z5 z6)
theorem tallboyref15_Check.j13Llm (x5 : Bool) (z7 : Int) (z0 : List ByteArray) (z2 : Int) (z3 : Int) (z1 : ByteArray) (z4 : Int) (z5 : Int) (z6 : Bool) : Lm (fun k => tallboyref15_Check.j13 k x5 z7 z0 z2 z3 z1 z4 z5 z6) (tallboyref15_Check.j13L x5 z7 z0 z2 z3 z1 z4 z5 z6) := lim_spec (fun k => (tallboyref15_Check.mono_l k).2.2.2.2.2.2.2.2.2.2.2.2.1 _ _ _ _ _ _ _ _ _)
noncomputable def tallboyref15_Check.l0L (x3 : Int) (x4 : Int) (x5 : Bool) (x6 : Int) (z7 : Int) (z0 : List ByteArray) (z2 : Int) (z3 : Int) (z1 : ByteArray) (z4 : Int) (z5 : Int) (z6 : Bool) : Option (Int) := lim (fun k => tallboyref15_Check.l0 k x3 x4 x5 x6 z7 z0 z2 z3 z1 z4 z5 z6)
theorem tallboyref15_Check.l0Llm (x3 : Int) (x4 : Int) (x5 : Bool) (x6 : Int) (z7 : Int) (z0 : List ByteArray) (z2 : Int) (z3 : Int) (z1 : ByteArray) (z4 : Int) (z5 : Int) (z6 : Bool) : Lm (fun k => tallboyref15_Check.l0 k x3 x4 x5 x6 z7 z0 z2 z3 z1 z4 z5 z6) (tallboyref15_Check.l0L x3 x4 x5 x6 z7 z0 z2 z3 z1 z4 z5 z6) := lim_spec (fun k => (tallboyref15_Check.mono_l k).2.2.2.2.2.2.2.2.2.2.2.2.2 _ _ _ _ _ _ _ _ _ _ _ _)
noncomputable def tallboyref15_Check.L (a0_0 : Int) (l0_1 : List ByteArray) (a0_2 : Int) (a0_3 : Int) (a0_4 : ByteArray) (a0_5 : Int) (a0_6 : Int) (a0_7 : Bool) : Option (Int) := lim (fun k => tallboyref15_Check.f k a0_0 l0_1 a0_2 a0_3 a0_4 a0_5 a0_6 a0_7)
theorem tallboyref15_Check.Llm (a0_0 : Int) (l0_1 : List ByteArray) (a0_2 : Int) (a0_3 : Int) (a0_4 : ByteArray) (a0_5 : Int) (a0_6 : Int) (a0_7 : Bool) : Lm (fun k => tallboyref15_Check.f k a0_0 l0_1 a0_2 a0_3 a0_4 a0_5 a0_6 a0_7) (tallboyref15_Check.L a0_0 l0_1 a0_2 a0_3 a0_4 a0_5 a0_6 a0_7) := lim_spec (fun k => tallboyref15_Check.mono a0_0 l0_1 a0_2 a0_3 a0_4 a0_5 a0_6 a0_7 k)
noncomputable def fnv_Key.j0L (x0 : ByteArray) (x10 : Bool) : Option (Bool) := lim (fun k => fnv_Key.j0 k x0 x10)
theorem fnv_Key.j0Llm (x0 : ByteArray) (x10 : Bool) : Lm (fun k => fnv_Key.j0 k x0 x10) (fnv_Key.j0L x0 x10) := lim_spec (fun k => (fnv_Key.mono_l k).1 _ _)
noncomputable def fnv_Key.l0L (x0 : ByteArray) (x12 : Int) (x13 : Int) : Option (Bool) := lim (fun k => fnv_Key.l0 k x0 x12 x13)
theorem fnv_Key.l0Llm (x0 : ByteArray) (x12 : Int) (x13 : Int) : Lm (fun k => fnv_Key.l0 k x0 x12 x13) (fnv_Key.l0L x0 x12 x13) := lim_spec (fun k => (fnv_Key.mono_l k).2 _ _ _)
noncomputable def fnv_Key.L (a0 : ByteArray) : Option (Bool) := lim (fun k => fnv_Key.f k a0)
theorem fnv_Key.Llm (a0 : ByteArray) : Lm (fun k => fnv_Key.f k a0) (fnv_Key.L a0) := lim_spec (fun k => fnv_Key.mono a0 k)
theorem tallboyref04_Key.j0L_eq (x0 : ByteArray) (x3 : Bool) : tallboyref04_Key.j0L x0 x3 = (tallboyref04_Key.l0L x0 x3 0) := by
  refine Lm.unique (tallboyref04_Key.j0Llm x0 x3) ?_
  refine Lm.step rfl (f := fun k => tallboyref04_Key.j0 (k + 1) x0 x3) (fun _ => rfl) ?_; simp only [tallboyref04_Key.j0]
  repeat' first
    | with_reducible exact tallboyref04_Key.l0Llm _ _ _
    | with_reducible exact Lm.const _
    | with_reducible refine Lm.bind ?_ (fun _ => ?_)
    | with_reducible refine Lm.ite ?_ ?_
    | refine Lm.bind ?_ (fun _ => ?_)
    | refine Lm.ite ?_ ?_
theorem tallboyref04_Key.l0L_eq (x0 : ByteArray) (x3 : Bool) (x4 : Int) : tallboyref04_Key.l0L x0 x3 x4 = (if x4 < (x0.size : Int) then (if x3 = true then (if 0 ≤ x4 then (if (bt x0 x4) ≥ 33 then (tallboyref04_Key.l0L x0 (decide ((bt x0 x4) ≤ 126)) (wrap64 (x4 + 1))) else (tallboyref04_Key.l0L x0 false (wrap64 (x4 + 1)))) else (none)) else (some x3)) else (some x3)) := by
  refine Lm.unique (tallboyref04_Key.l0Llm x0 x3 x4) ?_
  refine Lm.step rfl (f := fun k => tallboyref04_Key.l0 (k + 1) x0 x3 x4) (fun _ => rfl) ?_; simp only [tallboyref04_Key.l0]
  repeat' first
    | with_reducible exact tallboyref04_Key.l0Llm _ _ _
    | with_reducible exact Lm.const _
    | with_reducible refine Lm.bind ?_ (fun _ => ?_)
    | with_reducible refine Lm.ite ?_ ?_
    | refine Lm.bind ?_ (fun _ => ?_)
    | refine Lm.ite ?_ ?_
theorem tallboyref04_Key.L_eq (a0 : ByteArray) : tallboyref04_Key.L a0 = (if (a0.size : Int) ≥ 1 then (tallboyref04_Key.j0L a0 (decide ((a0.size : Int) ≤ 32))) else (tallboyref04_Key.j0L a0 false)) := by
  refine Lm.unique (tallboyref04_Key.Llm a0) ?_
  unfold tallboyref04_Key.f
  repeat' first
    | with_reducible exact tallboyref04_Key.j0Llm _ _
    | with_reducible exact Lm.const _
    | with_reducible refine Lm.bind ?_ (fun _ => ?_)
    | with_reducible refine Lm.ite ?_ ?_
    | refine Lm.bind ?_ (fun _ => ?_)
    | refine Lm.ite ?_ ?_
theorem tallboyref15_Check.j0L_eq (x3 : Int) (x16 : Bool) (z7 : Int) (z0 : List ByteArray) (z2 : Int) (z3 : Int) (z1 : ByteArray) (z4 : Int) (z5 : Int) (z6 : Bool) : tallboyref15_Check.j0L x3 x16 z7 z0 z2 z3 z1 z4 z5 z6 = (if x16 = true then (some 70) else ((tallboyref15_Reads.f x3).bind fun t134 => (if t134 = true then (if (z0.length : Int) ≥ 1 then (tallboyref15_Check.j1L x3 (z0.length : Int) (decide ((z0.length : Int) ≤ 8)) z7 z0 z2 z3 z1 z4 z5 z6) else (tallboyref15_Check.j1L x3 (z0.length : Int) false z7 z0 z2 z3 z1 z4 z5 z6)) else (tallboyref15_Check.j1L x3 (z0.length : Int) ((z0.length : Int) == 1) z7 z0 z2 z3 z1 z4 z5 z6)))) := by
  refine Lm.unique (tallboyref15_Check.j0Llm x3 x16 z7 z0 z2 z3 z1 z4 z5 z6) ?_
  refine Lm.step rfl (f := fun k => tallboyref15_Check.j0 (k + 1) x3 x16 z7 z0 z2 z3 z1 z4 z5 z6) (fun _ => rfl) ?_; simp only [tallboyref15_Check.j0]
  repeat' first
    | with_reducible exact tallboyref15_Check.j1Llm _ _ _ _ _ _ _ _ _ _ _
    | with_reducible exact Lm.const _
    | with_reducible refine Lm.bind ?_ (fun _ => ?_)
    | with_reducible refine Lm.ite ?_ ?_
    | refine Lm.bind ?_ (fun _ => ?_)
    | refine Lm.ite ?_ ?_
theorem tallboyref15_Check.j1L_eq (x3 : Int) (x4 : Int) (x5 : Bool) (z7 : Int) (z0 : List ByteArray) (z2 : Int) (z3 : Int) (z1 : ByteArray) (z4 : Int) (z5 : Int) (z6 : Bool) : tallboyref15_Check.j1L x3 x4 x5 z7 z0 z2 z3 z1 z4 z5 z6 = (if x3 = 15 then (tallboyref15_Check.j2L x3 x4 (x4 == 0) z7 z0 z2 z3 z1 z4 z5 z6) else (tallboyref15_Check.j2L x3 x4 x5 z7 z0 z2 z3 z1 z4 z5 z6)) := by
  refine Lm.unique (tallboyref15_Check.j1Llm x3 x4 x5 z7 z0 z2 z3 z1 z4 z5 z6) ?_
  refine Lm.step rfl (f := fun k => tallboyref15_Check.j1 (k + 1) x3 x4 x5 z7 z0 z2 z3 z1 z4 z5 z6) (fun _ => rfl) ?_; simp only [tallboyref15_Check.j1]
  repeat' first
    | with_reducible exact tallboyref15_Check.j2Llm _ _ _ _ _ _ _ _ _ _ _
    | with_reducible exact Lm.const _
    | with_reducible refine Lm.bind ?_ (fun _ => ?_)
    | with_reducible refine Lm.ite ?_ ?_
    | refine Lm.bind ?_ (fun _ => ?_)
    | refine Lm.ite ?_ ?_
theorem tallboyref15_Check.j2L_eq (x3 : Int) (x4 : Int) (x5 : Bool) (z7 : Int) (z0 : List ByteArray) (z2 : Int) (z3 : Int) (z1 : ByteArray) (z4 : Int) (z5 : Int) (z6 : Bool) : tallboyref15_Check.j2L x3 x4 x5 z7 z0 z2 z3 z1 z4 z5 z6 = (tallboyref15_Check.l0L x3 x4 x5 0 z7 z0 z2 z3 z1 z4 z5 z6) := by
  refine Lm.unique (tallboyref15_Check.j2Llm x3 x4 x5 z7 z0 z2 z3 z1 z4 z5 z6) ?_
  refine Lm.step rfl (f := fun k => tallboyref15_Check.j2 (k + 1) x3 x4 x5 z7 z0 z2 z3 z1 z4 z5 z6) (fun _ => rfl) ?_; simp only [tallboyref15_Check.j2]
  repeat' first
    | with_reducible exact tallboyref15_Check.l0Llm _ _ _ _ _ _ _ _ _ _ _ _
    | with_reducible exact Lm.const _
    | with_reducible refine Lm.bind ?_ (fun _ => ?_)
    | with_reducible refine Lm.ite ?_ ?_
    | refine Lm.bind ?_ (fun _ => ?_)
    | refine Lm.ite ?_ ?_
theorem tallboyref15_Check.j4L_eq (x3 : Int) (x5 : Bool) (z7 : Int) (z0 : List ByteArray) (z2 : Int) (z3 : Int) (z1 : ByteArray) (z4 : Int) (z5 : Int) (z6 : Bool) : tallboyref15_Check.j4L x3 x5 z7 z0 z2 z3 z1 z4 z5 z6 = ((tallboyref15_Stores.f x3).bind fun t137 => (if t137 = true then (tallboyref15_Check.j5L x3 x5 z7 z0 z2 z3 z1 z4 z5 z6) else (if x5 = true then (tallboyref15_Check.j5L x3 (z1.toList == ([] : List UInt8)) z7 z0 z2 z3 z1 z4 z5 z6) else (tallboyref15_Check.j5L x3 false z7 z0 z2 z3 z1 z4 z5 z6)))) := by
  refine Lm.unique (tallboyref15_Check.j4Llm x3 x5 z7 z0 z2 z3 z1 z4 z5 z6) ?_
  refine Lm.step rfl (f := fun k => tallboyref15_Check.j4 (k + 1) x3 x5 z7 z0 z2 z3 z1 z4 z5 z6) (fun _ => rfl) ?_; simp only [tallboyref15_Check.j4]
  repeat' first
    | with_reducible exact tallboyref15_Check.j5Llm _ _ _ _ _ _ _ _ _ _
    | with_reducible exact Lm.const _
    | with_reducible refine Lm.bind ?_ (fun _ => ?_)
    | with_reducible refine Lm.ite ?_ ?_
    | refine Lm.bind ?_ (fun _ => ?_)
    | refine Lm.ite ?_ ?_
theorem tallboyref15_Check.j5L_eq (x3 : Int) (x5 : Bool) (z7 : Int) (z0 : List ByteArray) (z2 : Int) (z3 : Int) (z1 : ByteArray) (z4 : Int) (z5 : Int) (z6 : Bool) : tallboyref15_Check.j5L x3 x5 z7 z0 z2 z3 z1 z4 z5 z6 = ((tallboyref15_Stores.f x3).bind fun t138 => (if t138 = true then (if x3 = 8 then (tallboyref15_Check.j6L x3 x5 false z7 z0 z2 z3 z1 z4 z5 z6) else (tallboyref15_Check.j6L x3 x5 (x3 != 9) z7 z0 z2 z3 z1 z4 z5 z6)) else (tallboyref15_Check.j6L x3 x5 false z7 z0 z2 z3 z1 z4 z5 z6))) := by
  refine Lm.unique (tallboyref15_Check.j5Llm x3 x5 z7 z0 z2 z3 z1 z4 z5 z6) ?_
  refine Lm.step rfl (f := fun k => tallboyref15_Check.j5 (k + 1) x3 x5 z7 z0 z2 z3 z1 z4 z5 z6) (fun _ => rfl) ?_; simp only [tallboyref15_Check.j5]
  repeat' first
    | with_reducible exact tallboyref15_Check.j6Llm _ _ _ _ _ _ _ _ _ _ _
    | with_reducible exact Lm.const _
    | with_reducible refine Lm.bind ?_ (fun _ => ?_)
    | with_reducible refine Lm.ite ?_ ?_
    | refine Lm.bind ?_ (fun _ => ?_)
    | refine Lm.ite ?_ ?_
theorem tallboyref15_Check.j6L_eq (x3 : Int) (x5 : Bool) (x7 : Bool) (z7 : Int) (z0 : List ByteArray) (z2 : Int) (z3 : Int) (z1 : ByteArray) (z4 : Int) (z5 : Int) (z6 : Bool) : tallboyref15_Check.j6L x3 x5 x7 z7 z0 z2 z3 z1 z4 z5 z6 = (if x7 = true then (tallboyref15_Check.j7L x3 x5 x7 z7 z0 z2 z3 z1 z4 z5 z6) else (if x5 = true then (tallboyref15_Check.j7L x3 (z2 == 0) x7 z7 z0 z2 z3 z1 z4 z5 z6) else (tallboyref15_Check.j7L x3 false x7 z7 z0 z2 z3 z1 z4 z5 z6))) := by
  refine Lm.unique (tallboyref15_Check.j6Llm x3 x5 x7 z7 z0 z2 z3 z1 z4 z5 z6) ?_
  refine Lm.step rfl (f := fun k => tallboyref15_Check.j6 (k + 1) x3 x5 x7 z7 z0 z2 z3 z1 z4 z5 z6) (fun _ => rfl) ?_; simp only [tallboyref15_Check.j6]
  repeat' first
    | with_reducible exact tallboyref15_Check.j7Llm _ _ _ _ _ _ _ _ _ _ _
    | with_reducible exact Lm.const _
    | with_reducible refine Lm.bind ?_ (fun _ => ?_)
    | with_reducible refine Lm.ite ?_ ?_
    | refine Lm.bind ?_ (fun _ => ?_)
    | refine Lm.ite ?_ ?_
theorem tallboyref15_Check.j7L_eq (x3 : Int) (x5 : Bool) (x7 : Bool) (z7 : Int) (z0 : List ByteArray) (z2 : Int) (z3 : Int) (z1 : ByteArray) (z4 : Int) (z5 : Int) (z6 : Bool) : tallboyref15_Check.j7L x3 x5 x7 z7 z0 z2 z3 z1 z4 z5 z6 = (if x7 = true then (tallboyref15_Check.j8L x3 x5 true z7 z0 z2 z3 z1 z4 z5 z6) else (if x3 = 3 then (tallboyref15_Check.j8L x3 x5 true z7 z0 z2 z3 z1 z4 z5 z6) else (if x3 = 4 then (tallboyref15_Check.j8L x3 x5 true z7 z0 z2 z3 z1 z4 z5 z6) else (tallboyref15_Check.j8L x3 x5 (x3 == 14) z7 z0 z2 z3 z1 z4 z5 z6)))) := by
  refine Lm.unique (tallboyref15_Check.j7Llm x3 x5 x7 z7 z0 z2 z3 z1 z4 z5 z6) ?_
  refine Lm.step rfl (f := fun k => tallboyref15_Check.j7 (k + 1) x3 x5 x7 z7 z0 z2 z3 z1 z4 z5 z6) (fun _ => rfl) ?_; simp only [tallboyref15_Check.j7]
  repeat' first
    | with_reducible exact tallboyref15_Check.j8Llm _ _ _ _ _ _ _ _ _ _ _
    | with_reducible exact Lm.const _
    | with_reducible refine Lm.bind ?_ (fun _ => ?_)
    | with_reducible refine Lm.ite ?_ ?_
    | refine Lm.bind ?_ (fun _ => ?_)
    | refine Lm.ite ?_ ?_
theorem tallboyref15_Check.j8L_eq (x3 : Int) (x5 : Bool) (x8 : Bool) (z7 : Int) (z0 : List ByteArray) (z2 : Int) (z3 : Int) (z1 : ByteArray) (z4 : Int) (z5 : Int) (z6 : Bool) : tallboyref15_Check.j8L x3 x5 x8 z7 z0 z2 z3 z1 z4 z5 z6 = (if x8 = true then (tallboyref15_Check.j9L x3 x5 z7 z0 z2 z3 z1 z4 z5 z6) else (if x5 = true then (tallboyref15_Check.j9L x3 (z3 == 0) z7 z0 z2 z3 z1 z4 z5 z6) else (tallboyref15_Check.j9L x3 false z7 z0 z2 z3 z1 z4 z5 z6))) := by
  refine Lm.unique (tallboyref15_Check.j8Llm x3 x5 x8 z7 z0 z2 z3 z1 z4 z5 z6) ?_
  refine Lm.step rfl (f := fun k => tallboyref15_Check.j8 (k + 1) x3 x5 x8 z7 z0 z2 z3 z1 z4 z5 z6) (fun _ => rfl) ?_; simp only [tallboyref15_Check.j8]
  repeat' first
    | with_reducible exact tallboyref15_Check.j9Llm _ _ _ _ _ _ _ _ _ _
    | with_reducible exact Lm.const _
    | with_reducible refine Lm.bind ?_ (fun _ => ?_)
    | with_reducible refine Lm.ite ?_ ?_
    | refine Lm.bind ?_ (fun _ => ?_)
    | refine Lm.ite ?_ ?_
theorem tallboyref15_Check.j9L_eq (x3 : Int) (x5 : Bool) (z7 : Int) (z0 : List ByteArray) (z2 : Int) (z3 : Int) (z1 : ByteArray) (z4 : Int) (z5 : Int) (z6 : Bool) : tallboyref15_Check.j9L x3 x5 z7 z0 z2 z3 z1 z4 z5 z6 = (if x3 = 10 then (tallboyref15_Check.j10L x3 x5 z7 z0 z2 z3 z1 z4 z5 z6) else (if x5 = true then (tallboyref15_Check.j10L x3 (z4 == 0) z7 z0 z2 z3 z1 z4 z5 z6) else (tallboyref15_Check.j10L x3 false z7 z0 z2 z3 z1 z4 z5 z6))) := by
  refine Lm.unique (tallboyref15_Check.j9Llm x3 x5 z7 z0 z2 z3 z1 z4 z5 z6) ?_
  refine Lm.step rfl (f := fun k => tallboyref15_Check.j9 (k + 1) x3 x5 z7 z0 z2 z3 z1 z4 z5 z6) (fun _ => rfl) ?_; simp only [tallboyref15_Check.j9]
  repeat' first
    | with_reducible exact tallboyref15_Check.j10Llm _ _ _ _ _ _ _ _ _ _
    | with_reducible exact Lm.const _
    | with_reducible refine Lm.bind ?_ (fun _ => ?_)
    | with_reducible refine Lm.ite ?_ ?_
    | refine Lm.bind ?_ (fun _ => ?_)
    | refine Lm.ite ?_ ?_
theorem tallboyref15_Check.j10L_eq (x3 : Int) (x5 : Bool) (z7 : Int) (z0 : List ByteArray) (z2 : Int) (z3 : Int) (z1 : ByteArray) (z4 : Int) (z5 : Int) (z6 : Bool) : tallboyref15_Check.j10L x3 x5 z7 z0 z2 z3 z1 z4 z5 z6 = (if x3 = 12 then (tallboyref15_Check.j11L x3 x5 false z7 z0 z2 z3 z1 z4 z5 z6) else (tallboyref15_Check.j11L x3 x5 (x3 != 13) z7 z0 z2 z3 z1 z4 z5 z6)) := by
  refine Lm.unique (tallboyref15_Check.j10Llm x3 x5 z7 z0 z2 z3 z1 z4 z5 z6) ?_
  refine Lm.step rfl (f := fun k => tallboyref15_Check.j10 (k + 1) x3 x5 z7 z0 z2 z3 z1 z4 z5 z6) (fun _ => rfl) ?_; simp only [tallboyref15_Check.j10]
  repeat' first
    | with_reducible exact tallboyref15_Check.j11Llm _ _ _ _ _ _ _ _ _ _ _
    | with_reducible exact Lm.const _
    | with_reducible refine Lm.bind ?_ (fun _ => ?_)
    | with_reducible refine Lm.ite ?_ ?_
    | refine Lm.bind ?_ (fun _ => ?_)
    | refine Lm.ite ?_ ?_
theorem tallboyref15_Check.j11L_eq (x3 : Int) (x5 : Bool) (x109 : Bool) (z7 : Int) (z0 : List ByteArray) (z2 : Int) (z3 : Int) (z1 : ByteArray) (z4 : Int) (z5 : Int) (z6 : Bool) : tallboyref15_Check.j11L x3 x5 x109 z7 z0 z2 z3 z1 z4 z5 z6 = (if x109 = true then (if x5 = true then (tallboyref15_Check.j12L x3 (z5 == 0) z7 z0 z2 z3 z1 z4 z5 z6) else (tallboyref15_Check.j12L x3 false z7 z0 z2 z3 z1 z4 z5 z6)) else (tallboyref15_Check.j12L x3 x5 z7 z0 z2 z3 z1 z4 z5 z6)) := by
  refine Lm.unique (tallboyref15_Check.j11Llm x3 x5 x109 z7 z0 z2 z3 z1 z4 z5 z6) ?_
  refine Lm.step rfl (f := fun k => tallboyref15_Check.j11 (k + 1) x3 x5 x109 z7 z0 z2 z3 z1 z4 z5 z6) (fun _ => rfl) ?_; simp only [tallboyref15_Check.j11]
  repeat' first
    | with_reducible exact tallboyref15_Check.j12Llm _ _ _ _ _ _ _ _ _ _
    | with_reducible exact Lm.const _
    | with_reducible refine Lm.bind ?_ (fun _ => ?_)
    | with_reducible refine Lm.ite ?_ ?_
    | refine Lm.bind ?_ (fun _ => ?_)
    | refine Lm.ite ?_ ?_
theorem tallboyref15_Check.j12L_eq (x3 : Int) (x5 : Bool) (z7 : Int) (z0 : List ByteArray) (z2 : Int) (z3 : Int) (z1 : ByteArray) (z4 : Int) (z5 : Int) (z6 : Bool) : tallboyref15_Check.j12L x3 x5 z7 z0 z2 z3 z1 z4 z5 z6 = ((tallboyref15_Reads.f x3).bind fun t139 => (if t139 = true then (if x5 = true then (tallboyref15_Check.j13L (!z6) z7 z0 z2 z3 z1 z4 z5 z6) else (tallboyref15_Check.j13L false z7 z0 z2 z3 z1 z4 z5 z6)) else (tallboyref15_Check.j13L x5 z7 z0 z2 z3 z1 z4 z5 z6))) := by
  refine Lm.unique (tallboyref15_Check.j12Llm x3 x5 z7 z0 z2 z3 z1 z4 z5 z6) ?_
  refine Lm.step rfl (f := fun k => tallboyref15_Check.j12 (k + 1) x3 x5 z7 z0 z2 z3 z1 z4 z5 z6) (fun _ => rfl) ?_; simp only [tallboyref15_Check.j12]
  repeat' first
    | with_reducible exact tallboyref15_Check.j13Llm _ _ _ _ _ _ _ _ _
    | with_reducible exact Lm.const _
    | with_reducible refine Lm.bind ?_ (fun _ => ?_)
    | with_reducible refine Lm.ite ?_ ?_
    | refine Lm.bind ?_ (fun _ => ?_)
    | refine Lm.ite ?_ ?_
theorem tallboyref15_Check.j13L_eq (x5 : Bool) (z7 : Int) (z0 : List ByteArray) (z2 : Int) (z3 : Int) (z1 : ByteArray) (z4 : Int) (z5 : Int) (z6 : Bool) : tallboyref15_Check.j13L x5 z7 z0 z2 z3 z1 z4 z5 z6 = (if x5 = true then (if (z1.size : Int) > 2000 then (some 7) else (some 0)) else (some 6)) := by
  refine Lm.unique (tallboyref15_Check.j13Llm x5 z7 z0 z2 z3 z1 z4 z5 z6) ?_
  refine Lm.step rfl (f := fun k => tallboyref15_Check.j13 (k + 1) x5 z7 z0 z2 z3 z1 z4 z5 z6) (fun _ => rfl) ?_; simp only [tallboyref15_Check.j13]
  repeat' first
    | with_reducible exact Lm.const _
    | with_reducible refine Lm.bind ?_ (fun _ => ?_)
    | with_reducible refine Lm.ite ?_ ?_
    | refine Lm.bind ?_ (fun _ => ?_)
    | refine Lm.ite ?_ ?_
theorem tallboyref15_Check.l0L_eq (x3 : Int) (x4 : Int) (x5 : Bool) (x6 : Int) (z7 : Int) (z0 : List ByteArray) (z2 : Int) (z3 : Int) (z1 : ByteArray) (z4 : Int) (z5 : Int) (z6 : Bool) : tallboyref15_Check.l0L x3 x4 x5 x6 z7 z0 z2 z3 z1 z4 z5 z6 = (if x6 < x4 then (if x5 = true then (if 0 ≤ x6 then (if x6 < (z0.length : Int) then ((tallboyref04_Key.L (rdOf ByteArray.empty z0 x6)).bind fun t136 => (tallboyref15_Check.l0L x3 x4 t136 (wrap64 (x6 + 1)) z7 z0 z2 z3 z1 z4 z5 z6)) else (none)) else (none)) else (tallboyref15_Check.j4L x3 x5 z7 z0 z2 z3 z1 z4 z5 z6)) else (tallboyref15_Check.j4L x3 x5 z7 z0 z2 z3 z1 z4 z5 z6)) := by
  refine Lm.unique (tallboyref15_Check.l0Llm x3 x4 x5 x6 z7 z0 z2 z3 z1 z4 z5 z6) ?_
  refine Lm.step rfl (f := fun k => tallboyref15_Check.l0 (k + 1) x3 x4 x5 x6 z7 z0 z2 z3 z1 z4 z5 z6) (fun _ => rfl) ?_; simp only [tallboyref15_Check.l0]
  repeat' first
    | with_reducible exact tallboyref15_Check.j4Llm _ _ _ _ _ _ _ _ _ _
    | with_reducible exact tallboyref15_Check.l0Llm _ _ _ _ _ _ _ _ _ _ _ _
    | with_reducible exact tallboyref04_Key.Llm _
    | with_reducible exact Lm.const _
    | with_reducible refine Lm.bind ?_ (fun _ => ?_)
    | with_reducible refine Lm.ite ?_ ?_
    | refine Lm.bind ?_ (fun _ => ?_)
    | refine Lm.ite ?_ ?_
theorem tallboyref15_Check.L_eq (a0_0 : Int) (l0_1 : List ByteArray) (a0_2 : Int) (a0_3 : Int) (a0_4 : ByteArray) (a0_5 : Int) (a0_6 : Int) (a0_7 : Bool) : tallboyref15_Check.L a0_0 l0_1 a0_2 a0_3 a0_4 a0_5 a0_6 a0_7 = (if a0_0 < 1 then (tallboyref15_Check.j0L a0_0 true a0_0 l0_1 a0_2 a0_3 a0_4 a0_5 a0_6 a0_7) else (tallboyref15_Check.j0L a0_0 (decide (a0_0 > 15)) a0_0 l0_1 a0_2 a0_3 a0_4 a0_5 a0_6 a0_7)) := by
  refine Lm.unique (tallboyref15_Check.Llm a0_0 l0_1 a0_2 a0_3 a0_4 a0_5 a0_6 a0_7) ?_
  unfold tallboyref15_Check.f
  repeat' first
    | with_reducible exact tallboyref15_Check.j0Llm _ _ _ _ _ _ _ _ _ _
    | with_reducible exact Lm.const _
    | with_reducible refine Lm.bind ?_ (fun _ => ?_)
    | with_reducible refine Lm.ite ?_ ?_
    | refine Lm.bind ?_ (fun _ => ?_)
    | refine Lm.ite ?_ ?_
theorem fnv_Key.j0L_eq (x0 : ByteArray) (x10 : Bool) : fnv_Key.j0L x0 x10 = (if x10 = true then (some false) else (fnv_Key.l0L x0 (x0.size : Int) 0)) := by
  refine Lm.unique (fnv_Key.j0Llm x0 x10) ?_
  refine Lm.step rfl (f := fun k => fnv_Key.j0 (k + 1) x0 x10) (fun _ => rfl) ?_; simp only [fnv_Key.j0]
  repeat' first
    | with_reducible exact fnv_Key.l0Llm _ _ _
    | with_reducible exact Lm.const _
    | with_reducible refine Lm.bind ?_ (fun _ => ?_)
    | with_reducible refine Lm.ite ?_ ?_
    | refine Lm.bind ?_ (fun _ => ?_)
    | refine Lm.ite ?_ ?_
theorem fnv_Key.l0L_eq (x0 : ByteArray) (x12 : Int) (x13 : Int) : fnv_Key.l0L x0 x12 x13 = (if x13 < x12 then (if 0 ≤ x13 then (if x13 < (x0.size : Int) then (if (bt x0 x13) < 33 then (some false) else (if (bt x0 x13) > 126 then (some false) else (fnv_Key.l0L x0 x12 (wrap64 (x13 + 1))))) else (none)) else (none)) else (some true)) := by
  refine Lm.unique (fnv_Key.l0Llm x0 x12 x13) ?_
  refine Lm.step rfl (f := fun k => fnv_Key.l0 (k + 1) x0 x12 x13) (fun _ => rfl) ?_; simp only [fnv_Key.l0]
  repeat' first
    | with_reducible exact fnv_Key.l0Llm _ _ _
    | with_reducible exact Lm.const _
    | with_reducible refine Lm.bind ?_ (fun _ => ?_)
    | with_reducible refine Lm.ite ?_ ?_
    | refine Lm.bind ?_ (fun _ => ?_)
    | refine Lm.ite ?_ ?_
theorem fnv_Key.L_eq (a0 : ByteArray) : fnv_Key.L a0 = (if a0.toList = ([] : List UInt8) then (fnv_Key.j0L a0 true) else (fnv_Key.j0L a0 (decide ((a0.size : Int) > 32)))) := by
  refine Lm.unique (fnv_Key.Llm a0) ?_
  unfold fnv_Key.f
  repeat' first
    | with_reducible exact fnv_Key.j0Llm _ _
    | with_reducible exact Lm.const _
    | with_reducible refine Lm.bind ?_ (fun _ => ?_)
    | with_reducible refine Lm.ite ?_ ?_
    | refine Lm.bind ?_ (fun _ => ?_)
    | refine Lm.ite ?_ ?_
end Go.Proofs.YtginfaencjmhgaaDoor.P
