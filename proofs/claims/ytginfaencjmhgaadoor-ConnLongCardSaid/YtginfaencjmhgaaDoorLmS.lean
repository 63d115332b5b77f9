/- The limits of the functions with rounds, and the equations that reckon them. Plain Lean; no condition. Written by a program. -/
import Derived.Test.YtginfaencjmhgaaDoorLim
import Derived.Test.YtginfaencjmhgaaDoorPx14
import Derived.Test.YtginfaencjmhgaaDoorPx15
namespace Go.Proofs.YtginfaencjmhgaaDoor.P
open Go.RowKit Go.Proofs.YtginfaencjmhgaaDoor.Lim Go.Proofs.YtginfaencjmhgaaDoorW.PrintWords Go.Proofs.YtginfaencjmhgaaDoorW.PrintLast Go.Proofs.YtginfaencjmhgaaDoorW.PrintMore
set_option linter.unusedVariables false

noncomputable def tallboyref17_SameCommands.l0L (x5 : Int) (z2 : Int) (z0 : List ByteArray) (z3 : Int) (z4 : Int) (z5 : ByteArray) (z6 : Int) (z7 : Int) (z8 : Bool) (z9 : Int) (z1 : List ByteArray) (za : Int) (zb : Int) (zc : ByteArray) (zd : Int) (ze : Int) (zf : Bool) : Option (Bool) := lim (fun k => tallboyref17_SameCommands.l0 k x5 z2 z0 z3 z4 z5 z6 z7 z8 z9 z1 za zb zc zd ze zf)
theorem tallboyref17_SameCommands.l0Llm (x5 : Int) (z2 : Int) (z0 : List ByteArray) (z3 : Int) (z4 : Int) (z5 : ByteArray) (z6 : Int) (z7 : Int) (z8 : Bool) (z9 : Int) (z1 : List ByteArray) (za : Int) (zb : Int) (zc : ByteArray) (zd : Int) (ze : Int) (zf : Bool) : Lm (fun k => tallboyref17_SameCommands.l0 k x5 z2 z0 z3 z4 z5 z6 z7 z8 z9 z1 za zb zc zd ze zf) (tallboyref17_SameCommands.l0L x5 z2 z0 z3 z4 z5 z6 z7 z8 z9 z1 za zb zc zd ze zf) := lim_spec (fun k => (tallboyref17_SameCommands.mono_l k) _ _ _ _ _ _ _ _ _ _ _ _ _ _ _ _ _)
noncomputable def tallboyref17_SameCommands.L (a0_0 : Int) (l0_1 : List ByteArray) (a0_2 : Int) (a0_3 : Int) (a0_4 : ByteArray) (a0_5 : Int) (a0_6 : Int) (a0_7 : Bool) (a1_0 : Int) (l1_1 : List ByteArray) (a1_2 : Int) (a1_3 : Int) (a1_4 : ByteArray) (a1_5 : Int) (a1_6 : Int) (a1_7 : Bool) : Option (Bool) := lim (fun k => tallboyref17_SameCommands.f k a0_0 l0_1 a0_2 a0_3 a0_4 a0_5 a0_6 a0_7 a1_0 l1_1 a1_2 a1_3 a1_4 a1_5 a1_6 a1_7)
theorem tallboyref17_SameCommands.Llm (a0_0 : Int) (l0_1 : List ByteArray) (a0_2 : Int) (a0_3 : Int) (a0_4 : ByteArray) (a0_5 : Int) (a0_6 : Int) (a0_7 : Bool) (a1_0 : Int) (l1_1 : List ByteArray) (a1_2 : Int) (a1_3 : Int) (a1_4 : ByteArray) (a1_5 : Int) (a1_6 : Int) (a1_7 : Bool) : Lm (fun k => tallboyref17_SameCommands.f k a0_0 l0_1 a0_2 a0_3 a0_4 a0_5 a0_6 a0_7 a1_0 l1_1 a1_2 a1_3 a1_4 a1_5 a1_6 a1_7) (tallboyref17_SameCommands.L a0_0 l0_1 a0_2 a0_3 a0_4 a0_5 a0_6 a0_7 a1_0 l1_1 a1_2 a1_3 a1_4 a1_5 a1_6 a1_7) := lim_spec (fun k => tallboyref17_SameCommands.mono a0_0 l0_1 a0_2 a0_3 a0_4 a0_5 a0_6 a0_7 a1_0 l1_1 a1_2 a1_3 a1_4 a1_5 a1_6 a1_7 k)
noncomputable def tallboyref19_Same.L (a0_0 : Int) (a0_1 : Int) (l0_2 : List ByteArray) (a0_3 : Int) (a0_4 : Int) (a0_5 : ByteArray) (a0_6 : Int) (a0_7 : Int) (a0_8 : Bool) (a1_0 : Int) (a1_1 : Int) (l1_2 : List ByteArray) (a1_3 : Int) (a1_4 : Int) (a1_5 : ByteArray) (a1_6 : Int) (a1_7 : Int) (a1_8 : Bool) : Option (Bool) := lim (fun k => tallboyref19_Same.f k a0_0 a0_1 l0_2 a0_3 a0_4 a0_5 a0_6 a0_7 a0_8 a1_0 a1_1 l1_2 a1_3 a1_4 a1_5 a1_6 a1_7 a1_8)
theorem tallboyref19_Same.Llm (a0_0 : Int) (a0_1 : Int) (l0_2 : List ByteArray) (a0_3 : Int) (a0_4 : Int) (a0_5 : ByteArray) (a0_6 : Int) (a0_7 : Int) (a0_8 : Bool) (a1_0 : Int) (a1_1 : Int) (l1_2 : List ByteArray) (a1_3 : Int) (a1_4 : Int) (a1_5 : ByteArray) (a1_6 : Int) (a1_7 : Int) (a1_8 : Bool) : Lm (fun k => tallboyref19_Same.f k a0_0 a0_1 l0_2 a0_3 a0_4 a0_5 a0_6 a0_7 a0_8 a1_0 a1_1 l1_2 a1_3 a1_4 a1_5 a1_6 a1_7 a1_8) (tallboyref19_Same.L a0_0 a0_1 l0_2 a0_3 a0_4 a0_5 a0_6 a0_7 a0_8 a1_0 a1_1 l1_2 a1_3 a1_4 a1_5 a1_6 a1_7 a1_8) := lim_spec (fun k => tallboyref19_Same.mono a0_0 a0_1 l0_2 a0_3 a0_4 a0_5 a0_6 a0_7 a0_8 a1_0 a1_1 l1_2 a1_3 a1_4 a1_5 a1_6 a1_7 a1_8 k)
noncomputable def tallboylaw19_same.l0L (x0 : List (S50)) (x1 : List (S50)) (x5 : Int) : Option (Bool) := lim (fun k => tallboylaw19_same.l0 k x0 x1 x5)
theorem tallboylaw19_same.l0Llm (x0 : List (S50)) (x1 : List (S50)) (x5 : Int) : Lm (fun k => tallboylaw19_same.l0 k x0 x1 x5) (tallboylaw19_same.l0L x0 x1 x5) := lim_spec (fun k => (tallboylaw19_same.mono_l k) _ _ _)
noncomputable def tallboylaw19_same.L (l0 : List (S50)) (l1 : List (S50)) : Option (Bool) := lim (fun k => tallboylaw19_same.f k l0 l1)
theorem tallboylaw19_same.Llm (l0 : List (S50)) (l1 : List (S50)) : Lm (fun k => tallboylaw19_same.f k l0 l1) (tallboylaw19_same.L l0 l1) := lim_spec (fun k => tallboylaw19_same.mono l0 l1 k)
theorem tallboyref17_SameCommands.l0L_eq (x5 : Int) (z2 : Int) (z0 : List ByteArray) (z3 : Int) (z4 : Int) (z5 : ByteArray) (z6 : Int) (z7 : Int) (z8 : Bool) (z9 : Int) (z1 : List ByteArray) (za : Int) (zb : Int) (zc : ByteArray) (zd : Int) (ze : Int) (zf : Bool) : tallboyref17_SameCommands.l0L x5 z2 z0 z3 z4 z5 z6 z7 z8 z9 z1 za zb zc zd ze zf = (if x5 < (z0.length : Int) then (if 0 ≤ x5 then (if x5 < (z1.length : Int) then (if (rdOf ByteArray.empty z0 x5).toList = (rdOf ByteArray.empty z1 x5).toList then (tallboyref17_SameCommands.l0L (wrap64 (x5 + 1)) z2 z0 z3 z4 z5 z6 z7 z8 z9 z1 za zb zc zd ze zf) else (some false)) else (none)) else (none)) else (if z2 = z9 then (if z3 = za then (if z4 = zb then (if z5.toList = zc.toList then (if z6 = zd then (if z7 = ze then (some (z8 == zf)) else (some false)) else (some false)) else (some false)) else (some false)) else (some false)) else (some false))) := by
  refine Lm.unique (tallboyref17_SameCommands.l0Llm x5 z2 z0 z3 z4 z5 z6 z7 z8 z9 z1 za zb zc zd ze zf) ?_
  refine Lm.step rfl (f := fun k => tallboyref17_SameCommands.l0 (k + 1) x5 z2 z0 z3 z4 z5 z6 z7 z8 z9 z1 za zb zc zd ze zf) (fun _ => rfl) ?_; simp only [tallboyref17_SameCommands.l0]
  repeat' first
    | with_reducible exact tallboyref17_SameCommands.l0Llm _ _ _ _ _ _ _ _ _ _ _ _ _ _ _ _ _
    | with_reducible exact Lm.const _
    | with_reducible refine Lm.bind ?_ (fun _ => ?_)
    | with_reducible refine Lm.ite ?_ ?_
    | refine Lm.bind ?_ (fun _ => ?_)
    | refine Lm.ite ?_ ?_
theorem tallboyref17_SameCommands.L_eq (a0_0 : Int) (l0_1 : List ByteArray) (a0_2 : Int) (a0_3 : Int) (a0_4 : ByteArray) (a0_5 : Int) (a0_6 : Int) (a0_7 : Bool) (a1_0 : Int) (l1_1 : List ByteArray) (a1_2 : Int) (a1_3 : Int) (a1_4 : ByteArray) (a1_5 : Int) (a1_6 : Int) (a1_7 : Bool) : tallboyref17_SameCommands.L a0_0 l0_1 a0_2 a0_3 a0_4 a0_5 a0_6 a0_7 a1_0 l1_1 a1_2 a1_3 a1_4 a1_5 a1_6 a1_7 = (if (l0_1.length : Int) = (l1_1.length : Int) then (tallboyref17_SameCommands.l0L 0 a0_0 l0_1 a0_2 a0_3 a0_4 a0_5 a0_6 a0_7 a1_0 l1_1 a1_2 a1_3 a1_4 a1_5 a1_6 a1_7) else (some false)) := by
  refine Lm.unique (tallboyref17_SameCommands.Llm a0_0 l0_1 a0_2 a0_3 a0_4 a0_5 a0_6 a0_7 a1_0 l1_1 a1_2 a1_3 a1_4 a1_5 a1_6 a1_7) ?_
  unfold tallboyref17_SameCommands.f
  repeat' first
    | with_reducible exact tallboyref17_SameCommands.l0Llm _ _ _ _ _ _ _ _ _ _ _ _ _ _ _ _ _
    | with_reducible exact Lm.const _
    | with_reducible refine Lm.bind ?_ (fun _ => ?_)
    | with_reducible refine Lm.ite ?_ ?_
    | refine Lm.bind ?_ (fun _ => ?_)
    | refine Lm.ite ?_ ?_
theorem tallboyref19_Same.L_eq (a0_0 : Int) (a0_1 : Int) (l0_2 : List ByteArray) (a0_3 : Int) (a0_4 : Int) (a0_5 : ByteArray) (a0_6 : Int) (a0_7 : Int) (a0_8 : Bool) (a1_0 : Int) (a1_1 : Int) (l1_2 : List ByteArray) (a1_3 : Int) (a1_4 : Int) (a1_5 : ByteArray) (a1_6 : Int) (a1_7 : Int) (a1_8 : Bool) : tallboyref19_Same.L a0_0 a0_1 l0_2 a0_3 a0_4 a0_5 a0_6 a0_7 a0_8 a1_0 a1_1 l1_2 a1_3 a1_4 a1_5 a1_6 a1_7 a1_8 = (if a0_0 = a1_0 then ((tallboyref17_SameCommands.L a0_1 l0_2 a0_3 a0_4 a0_5 a0_6 a0_7 a0_8 a1_1 l1_2 a1_3 a1_4 a1_5 a1_6 a1_7 a1_8).bind fun t129 => (some t129)) else (some false)) := by
  refine Lm.unique (tallboyref19_Same.Llm a0_0 a0_1 l0_2 a0_3 a0_4 a0_5 a0_6 a0_7 a0_8 a1_0 a1_1 l1_2 a1_3 a1_4 a1_5 a1_6 a1_7 a1_8) ?_
  unfold tallboyref19_Same.f
  repeat' first
    | with_reducible exact tallboyref17_SameCommands.Llm _ _ _ _ _ _ _ _ _ _ _ _ _ _ _ _
    | with_reducible exact Lm.const _
    | with_reducible refine Lm.bind ?_ (fun _ => ?_)
    | with_reducible refine Lm.ite ?_ ?_
    | refine Lm.bind ?_ (fun _ => ?_)
    | refine Lm.ite ?_ ?_
theorem tallboylaw19_same.l0L_eq (x0 : List (S50)) (x1 : List (S50)) (x5 : Int) : tallboylaw19_same.l0L x0 x1 x5 = (if x5 < (x0.length : Int) then (if 0 ≤ x5 then (if x5 < (x1.length : Int) then ((tallboyref19_Same.L ((rd_T50 x0 x5).f0) ((rd_T50 x0 x5).f1.f0) ((rd_T50 x0 x5).f1.f1) ((rd_T50 x0 x5).f1.f2) ((rd_T50 x0 x5).f1.f3) ((rd_T50 x0 x5).f1.f4) ((rd_T50 x0 x5).f1.f5) ((rd_T50 x0 x5).f1.f6) ((rd_T50 x0 x5).f1.f7) ((rd_T50 x1 x5).f0) ((rd_T50 x1 x5).f1.f0) ((rd_T50 x1 x5).f1.f1) ((rd_T50 x1 x5).f1.f2) ((rd_T50 x1 x5).f1.f3) ((rd_T50 x1 x5).f1.f4) ((rd_T50 x1 x5).f1.f5) ((rd_T50 x1 x5).f1.f6) ((rd_T50 x1 x5).f1.f7)).bind fun t132 => (if t132 = true then (tallboylaw19_same.l0L x0 x1 (wrap64 (x5 + 1))) else (some false))) else (none)) else (none)) else (some true)) := by
  refine Lm.unique (tallboylaw19_same.l0Llm x0 x1 x5) ?_
  refine Lm.step rfl (f := fun k => tallboylaw19_same.l0 (k + 1) x0 x1 x5) (fun _ => rfl) ?_; simp only [tallboylaw19_same.l0]
  repeat' first
    | with_reducible exact tallboylaw19_same.l0Llm _ _ _
    | with_reducible exact tallboyref19_Same.Llm _ _ _ _ _ _ _ _ _ _ _ _ _ _ _ _ _ _
    | with_reducible exact Lm.const _
    | with_reducible refine Lm.bind ?_ (fun _ => ?_)
    | with_reducible refine Lm.ite ?_ ?_
    | refine Lm.bind ?_ (fun _ => ?_)
    | refine Lm.ite ?_ ?_
theorem tallboylaw19_same.L_eq (l0 : List (S50)) (l1 : List (S50)) : tallboylaw19_same.L l0 l1 = (if (l0.length : Int) = (l1.length : Int) then (tallboylaw19_same.l0L l0 l1 0) else (some false)) := by
  refine Lm.unique (tallboylaw19_same.Llm l0 l1) ?_
  unfold tallboylaw19_same.f
  repeat' first
    | with_reducible exact tallboylaw19_same.l0Llm _ _ _
    | with_reducible exact Lm.const _
    | with_reducible refine Lm.bind ?_ (fun _ => ?_)
    | with_reducible refine Lm.ite ?_ ?_
    | refine Lm.bind ?_ (fun _ => ?_)
    | refine Lm.ite ?_ ?_
end Go.Proofs.YtginfaencjmhgaaDoor.P
