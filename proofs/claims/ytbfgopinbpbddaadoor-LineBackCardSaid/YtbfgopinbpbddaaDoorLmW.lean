/- The limits of the functions with rounds, and the equations that reckon them. Plain Lean; no condition. Written by a program. -/
import Derived.Test.YtbfgopinbpbddaaDoorLim
import Derived.Test.YtbfgopinbpbddaaDoorLmD
import Derived.Test.YtbfgopinbpbddaaDoorLm1
import Derived.Test.YtbfgopinbpbddaaDoorPx13
import Derived.Test.YtbfgopinbpbddaaDoorPx17
namespace Go.Proofs.YtbfgopinbpbddaaDoor.P
open Go.RowKit Go.Proofs.YtbfgopinbpbddaaDoor.Lim Go.Proofs.YtbfgopinbpbddaaDoorW.PrintWords Go.Proofs.YtbfgopinbpbddaaDoorW.PrintLast Go.Proofs.YtbfgopinbpbddaaDoorW.PrintMore
set_option linter.unusedVariables false

noncomputable def line_Write.j0L (x5 : List ByteArray) (z0 : Int) (z1 : List ByteArray) (z3 : Int) (z2 : Int) (z4 : ByteArray) (z5 : Int) (z6 : Int) (z7 : Bool) : Option (ByteArray × Int) := lim (fun k => line_Write.j0 k x5 z0 z1 z3 z2 z4 z5 z6 z7)
theorem line_Write.j0Llm (x5 : List ByteArray) (z0 : Int) (z1 : List ByteArray) (z3 : Int) (z2 : Int) (z4 : ByteArray) (z5 : Int) (z6 : Int) (z7 : Bool) : Lm (fun k => line_Write.j0 k x5 z0 z1 z3 z2 z4 z5 z6 z7) (line_Write.j0L x5 z0 z1 z3 z2 z4 z5 z6 z7) := lim_spec (fun k => (line_Write.mono_l k).1 _ _ _ _ _ _ _ _ _)
noncomputable def line_Write.j1L (x5 : List ByteArray) (z0 : Int) (z1 : List ByteArray) (z3 : Int) (z2 : Int) (z4 : ByteArray) (z5 : Int) (z6 : Int) (z7 : Bool) : Option (ByteArray × Int) := lim (fun k => line_Write.j1 k x5 z0 z1 z3 z2 z4 z5 z6 z7)
theorem line_Write.j1Llm (x5 : List ByteArray) (z0 : Int) (z1 : List ByteArray) (z3 : Int) (z2 : Int) (z4 : ByteArray) (z5 : Int) (z6 : Int) (z7 : Bool) : Lm (fun k => line_Write.j1 k x5 z0 z1 z3 z2 z4 z5 z6 z7) (line_Write.j1L x5 z0 z1 z3 z2 z4 z5 z6 z7) := lim_spec (fun k => (line_Write.mono_l k).2.1 _ _ _ _ _ _ _ _ _)
noncomputable def line_Write.j3L (x5 : List ByteArray) (z0 : Int) (z1 : List ByteArray) (z3 : Int) (z2 : Int) (z4 : ByteArray) (z5 : Int) (z6 : Int) (z7 : Bool) : Option (ByteArray × Int) := lim (fun k => line_Write.j3 k x5 z0 z1 z3 z2 z4 z5 z6 z7)
theorem line_Write.j3Llm (x5 : List ByteArray) (z0 : Int) (z1 : List ByteArray) (z3 : Int) (z2 : Int) (z4 : ByteArray) (z5 : Int) (z6 : Int) (z7 : Bool) : Lm (fun k => line_Write.j3 k x5 z0 z1 z3 z2 z4 z5 z6 z7) (line_Write.j3L x5 z0 z1 z3 z2 z4 z5 z6 z7) := lim_spec (fun k => (line_Write.mono_l k).2.2.1 _ _ _ _ _ _ _ _ _)
noncomputable def line_Write.j4L (x5 : List ByteArray) : Option (ByteArray × Int) := lim (fun k => line_Write.j4 k x5)
theorem line_Write.j4Llm (x5 : List ByteArray) : Lm (fun k => line_Write.j4 k x5) (line_Write.j4L x5) := lim_spec (fun k => (line_Write.mono_l k).2.2.2.1 _)
noncomputable def line_Write.j2L (x5 : List ByteArray) (x65 : Bool) (z0 : Int) (z1 : List ByteArray) (z3 : Int) (z2 : Int) (z4 : ByteArray) (z5 : Int) (z6 : Int) (z7 : Bool) : Option (ByteArray × Int) := lim (fun k => line_Write.j2 k x5 x65 z0 z1 z3 z2 z4 z5 z6 z7)
theorem line_Write.j2Llm (x5 : List ByteArray) (x65 : Bool) (z0 : Int) (z1 : List ByteArray) (z3 : Int) (z2 : Int) (z4 : ByteArray) (z5 : Int) (z6 : Int) (z7 : Bool) : Lm (fun k => line_Write.j2 k x5 x65 z0 z1 z3 z2 z4 z5 z6 z7) (line_Write.j2L x5 x65 z0 z1 z3 z2 z4 z5 z6 z7) := lim_spec (fun k => (line_Write.mono_l k).2.2.2.2 _ _ _ _ _ _ _ _ _ _)
noncomputable def line_Write.L (a0_0 : Int) (l0_1 : List ByteArray) (a0_2 : Int) (a0_3 : Int) (a0_4 : ByteArray) (a0_5 : Int) (a0_6 : Int) (a0_7 : Bool) : Option (ByteArray × Int) := lim (fun k => line_Write.f k a0_0 l0_1 a0_2 a0_3 a0_4 a0_5 a0_6 a0_7)
theorem line_Write.Llm (a0_0 : Int) (l0_1 : List ByteArray) (a0_2 : Int) (a0_3 : Int) (a0_4 : ByteArray) (a0_5 : Int) (a0_6 : Int) (a0_7 : Bool) : Lm (fun k => line_Write.f k a0_0 l0_1 a0_2 a0_3 a0_4 a0_5 a0_6 a0_7) (line_Write.L a0_0 l0_1 a0_2 a0_3 a0_4 a0_5 a0_6 a0_7) := lim_spec (fun k => line_Write.mono a0_0 l0_1 a0_2 a0_3 a0_4 a0_5 a0_6 a0_7 k)
noncomputable def tallboyref17_Write.j3L (x5 : ByteArray) (z0 : Int) (z1 : List ByteArray) (z4 : Int) (z2 : Int) (z5 : ByteArray) (z6 : Int) (z3 : Int) (z7 : Bool) : Option (ByteArray × Int) := lim (fun k => tallboyref17_Write.j3 k x5 z0 z1 z4 z2 z5 z6 z3 z7)
theorem tallboyref17_Write.j3Llm (x5 : ByteArray) (z0 : Int) (z1 : List ByteArray) (z4 : Int) (z2 : Int) (z5 : ByteArray) (z6 : Int) (z3 : Int) (z7 : Bool) : Lm (fun k => tallboyref17_Write.j3 k x5 z0 z1 z4 z2 z5 z6 z3 z7) (tallboyref17_Write.j3L x5 z0 z1 z4 z2 z5 z6 z3 z7) := lim_spec (fun k => (tallboyref17_Write.mono_l k).2.2.2.1 _ _ _ _ _ _ _ _ _)
noncomputable def tallboyref17_Write.j4L (x5 : ByteArray) : Option (ByteArray × Int) := lim (fun k => tallboyref17_Write.j4 k x5)
theorem tallboyref17_Write.j4Llm (x5 : ByteArray) : Lm (fun k => tallboyref17_Write.j4 k x5) (tallboyref17_Write.j4L x5) := lim_spec (fun k => (tallboyref17_Write.mono_l k).2.2.2.2 _)
theorem line_Write.j0L_eq (x5 : List ByteArray) (z0 : Int) (z1 : List ByteArray) (z3 : Int) (z2 : Int) (z4 : ByteArray) (z5 : Int) (z6 : Int) (z7 : Bool) : line_Write.j0L x5 z0 z1 z3 z2 z4 z5 z6 z7 = (if x5.length + z1.length < 8796093022208 then ((some (x5 ++ z1 : List ByteArray)).bind fun y128 => ((verb_Stores.f z0).bind fun t131 => (if t131 = true then ((digits_Text.f (IntKind.u64.wrap (z3))).bind fun t132 => ((digits_TextSigned.f z2).bind fun t133 => ((digits_Text.f (IntKind.u64.wrap ((z4.size : Int)))).bind fun t134 => ((some (([t132, t133, t134] : List ByteArray) : List ByteArray)).bind fun y135 => (if y128.length + y135.length < 8796093022208 then (line_Write.j1L (y128 ++ y135) z0 z1 z3 z2 z4 z5 z6 z7) else (none)))))) else (line_Write.j1L y128 z0 z1 z3 z2 z4 z5 z6 z7)))) else (none)) := by
  refine Lm.unique (line_Write.j0Llm x5 z0 z1 z3 z2 z4 z5 z6 z7) ?_
  refine Lm.step rfl (f := fun k => line_Write.j0 (k + 1) x5 z0 z1 z3 z2 z4 z5 z6 z7) (fun _ => rfl) ?_; simp only [line_Write.j0]
  repeat' first
    | with_reducible exact line_Write.j1Llm _ _ _ _ _ _ _ _ _
    | with_reducible exact Lm.const _
    | with_reducible refine Lm.bind ?_ (fun _ => ?_)
    | with_reducible refine Lm.ite ?_ ?_
    | refine Lm.bind ?_ (fun _ => ?_)
    | refine Lm.ite ?_ ?_
theorem line_Write.j1L_eq (x5 : List ByteArray) (z0 : Int) (z1 : List ByteArray) (z3 : Int) (z2 : Int) (z4 : ByteArray) (z5 : Int) (z6 : Int) (z7 : Bool) : line_Write.j1L x5 z0 z1 z3 z2 z4 z5 z6 z7 = (if z0 = 10 then ((digits_Text.f z5).bind fun t141 => (if x5.length < 8796093022208 then (line_Write.j3L (x5 ++ [t141]) z0 z1 z3 z2 z4 z5 z6 z7) else (none))) else (if z0 = 14 then ((digits_TextSigned.f z2).bind fun t145 => (if x5.length < 8796093022208 then (line_Write.j3L (x5 ++ [t145]) z0 z1 z3 z2 z4 z5 z6 z7) else (none))) else (if z0 = 12 then (line_Write.j2L x5 (z0 == 12) z0 z1 z3 z2 z4 z5 z6 z7) else (line_Write.j2L x5 (z0 == 13) z0 z1 z3 z2 z4 z5 z6 z7)))) := by
  refine Lm.unique (line_Write.j1Llm x5 z0 z1 z3 z2 z4 z5 z6 z7) ?_
  refine Lm.step rfl (f := fun k => line_Write.j1 (k + 1) x5 z0 z1 z3 z2 z4 z5 z6 z7) (fun _ => rfl) ?_; simp only [line_Write.j1]
  repeat' first
    | with_reducible exact line_Write.j3Llm _ _ _ _ _ _ _ _ _
    | with_reducible exact line_Write.j2Llm _ _ _ _ _ _ _ _ _ _
    | with_reducible exact Lm.const _
    | with_reducible refine Lm.bind ?_ (fun _ => ?_)
    | with_reducible refine Lm.ite ?_ ?_
    | refine Lm.bind ?_ (fun _ => ?_)
    | refine Lm.ite ?_ ?_
theorem line_Write.j3L_eq (x5 : List ByteArray) (z0 : Int) (z1 : List ByteArray) (z3 : Int) (z2 : Int) (z4 : ByteArray) (z5 : Int) (z6 : Int) (z7 : Bool) : line_Write.j3L x5 z0 z1 z3 z2 z4 z5 z6 z7 = (if z7 = true then (if x5.length < 8796093022208 then (line_Write.j4L (x5 ++ [(⟨#[110, 111, 114, 101, 112, 108, 121]⟩ : ByteArray)])) else (none)) else (line_Write.j4L x5)) := by
  refine Lm.unique (line_Write.j3Llm x5 z0 z1 z3 z2 z4 z5 z6 z7) ?_
  refine Lm.step rfl (f := fun k => line_Write.j3 (k + 1) x5 z0 z1 z3 z2 z4 z5 z6 z7) (fun _ => rfl) ?_; simp only [line_Write.j3]
  repeat' first
    | with_reducible exact line_Write.j4Llm _
    | with_reducible exact Lm.const _
    | with_reducible refine Lm.bind ?_ (fun _ => ?_)
    | with_reducible refine Lm.ite ?_ ?_
    | refine Lm.bind ?_ (fun _ => ?_)
    | refine Lm.ite ?_ ?_
theorem line_Write.j4L_eq (x5 : List ByteArray) : line_Write.j4L x5 = ((strings_Join.f x5 (⟨#[32]⟩ : ByteArray)).bind fun t156 => (if (t156.size : Int) > 160 then (some ((⟨#[]⟩ : ByteArray), 7)) else (some (t156, 0)))) := by
  refine Lm.unique (line_Write.j4Llm x5) ?_
  refine Lm.step rfl (f := fun k => line_Write.j4 (k + 1) x5) (fun _ => rfl) ?_; simp only [line_Write.j4]
  repeat' first
    | with_reducible exact Lm.const _
    | with_reducible refine Lm.bind ?_ (fun _ => ?_)
    | with_reducible refine Lm.ite ?_ ?_
    | refine Lm.bind ?_ (fun _ => ?_)
    | refine Lm.ite ?_ ?_
theorem line_Write.j2L_eq (x5 : List ByteArray) (x65 : Bool) (z0 : Int) (z1 : List ByteArray) (z3 : Int) (z2 : Int) (z4 : ByteArray) (z5 : Int) (z6 : Int) (z7 : Bool) : line_Write.j2L x5 x65 z0 z1 z3 z2 z4 z5 z6 z7 = (if x65 = true then ((digits_Text.f z6).bind fun t149 => (if x5.length < 8796093022208 then (line_Write.j3L (x5 ++ [t149]) z0 z1 z3 z2 z4 z5 z6 z7) else (none))) else (line_Write.j3L x5 z0 z1 z3 z2 z4 z5 z6 z7)) := by
  refine Lm.unique (line_Write.j2Llm x5 x65 z0 z1 z3 z2 z4 z5 z6 z7) ?_
  refine Lm.step rfl (f := fun k => line_Write.j2 (k + 1) x5 x65 z0 z1 z3 z2 z4 z5 z6 z7) (fun _ => rfl) ?_; simp only [line_Write.j2]
  repeat' first
    | with_reducible exact line_Write.j3Llm _ _ _ _ _ _ _ _ _
    | with_reducible exact Lm.const _
    | with_reducible refine Lm.bind ?_ (fun _ => ?_)
    | with_reducible refine Lm.ite ?_ ?_
    | refine Lm.bind ?_ (fun _ => ?_)
    | refine Lm.ite ?_ ?_
theorem line_Write.L_eq (a0_0 : Int) (l0_1 : List ByteArray) (a0_2 : Int) (a0_3 : Int) (a0_4 : ByteArray) (a0_5 : Int) (a0_6 : Int) (a0_7 : Bool) : line_Write.L a0_0 l0_1 a0_2 a0_3 a0_4 a0_5 a0_6 a0_7 = ((verb_Check.L a0_0 l0_1 a0_2 a0_3 a0_4 a0_5 a0_6 a0_7).bind fun t118 => (if t118 = 0 then ((verb_Name.f a0_0).bind fun t119 => ((some (([t119] : List ByteArray) : List ByteArray)).bind fun y120 => ((line_timed.f a0_0).bind fun t123 => (if t123 = true then ((digits_TextSigned.f a0_3).bind fun t124 => (if y120.length < 8796093022208 then (line_Write.j0L (y120 ++ [t124]) a0_0 l0_1 a0_2 a0_3 a0_4 a0_5 a0_6 a0_7) else (none))) else (line_Write.j0L y120 a0_0 l0_1 a0_2 a0_3 a0_4 a0_5 a0_6 a0_7))))) else (some ((⟨#[]⟩ : ByteArray), t118)))) := by
  refine Lm.unique (line_Write.Llm a0_0 l0_1 a0_2 a0_3 a0_4 a0_5 a0_6 a0_7) ?_
  unfold line_Write.f
  repeat' first
    | with_reducible exact line_Write.j0Llm _ _ _ _ _ _ _ _ _
    | with_reducible exact verb_Check.Llm _ _ _ _ _ _ _ _
    | with_reducible exact Lm.const _
    | with_reducible refine Lm.bind ?_ (fun _ => ?_)
    | with_reducible refine Lm.ite ?_ ?_
    | refine Lm.bind ?_ (fun _ => ?_)
    | refine Lm.ite ?_ ?_
theorem tallboyref17_Write.j3L_eq (x5 : ByteArray) (z0 : Int) (z1 : List ByteArray) (z4 : Int) (z2 : Int) (z5 : ByteArray) (z6 : Int) (z3 : Int) (z7 : Bool) : tallboyref17_Write.j3L x5 z0 z1 z4 z2 z5 z6 z3 z7 = (if z7 = true then (if x5.size + 8 ≤ 9223372036854775807 then (tallboyref17_Write.j4L (x5 ++ (⟨#[32, 110, 111, 114, 101, 112, 108, 121]⟩ : ByteArray))) else (none)) else (tallboyref17_Write.j4L x5)) := by
  refine Lm.unique (tallboyref17_Write.j3Llm x5 z0 z1 z4 z2 z5 z6 z3 z7) ?_
  refine Lm.step rfl (f := fun k => tallboyref17_Write.j3 (k + 1) x5 z0 z1 z4 z2 z5 z6 z3 z7) (fun _ => rfl) ?_; simp only [tallboyref17_Write.j3]
  repeat' first
    | with_reducible exact tallboyref17_Write.j4Llm _
    | with_reducible exact Lm.const _
    | with_reducible refine Lm.bind ?_ (fun _ => ?_)
    | with_reducible refine Lm.ite ?_ ?_
    | refine Lm.bind ?_ (fun _ => ?_)
    | refine Lm.ite ?_ ?_
theorem tallboyref17_Write.j4L_eq (x5 : ByteArray) : tallboyref17_Write.j4L x5 = (if (x5.size : Int) > 160 then (some ((⟨#[]⟩ : ByteArray), 7)) else (some (x5, 0))) := by
  refine Lm.unique (tallboyref17_Write.j4Llm x5) ?_
  refine Lm.step rfl (f := fun k => tallboyref17_Write.j4 (k + 1) x5) (fun _ => rfl) ?_; simp only [tallboyref17_Write.j4]
  repeat' first
    | with_reducible exact Lm.const _
    | with_reducible refine Lm.bind ?_ (fun _ => ?_)
    | with_reducible refine Lm.ite ?_ ?_
    | refine Lm.bind ?_ (fun _ => ?_)
    | refine Lm.ite ?_ ?_
end Go.Proofs.YtbfgopinbpbddaaDoor.P
