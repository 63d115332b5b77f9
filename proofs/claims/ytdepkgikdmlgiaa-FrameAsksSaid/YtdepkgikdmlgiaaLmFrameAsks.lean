/- The limits of the functions with rounds, and the equations that reckon them. Plain Lean; no condition. Written by a program. -/
import Derived.Test.YtdepkgikdmlgiaaLim
import Derived.Test.YtdepkgikdmlgiaaLmR
import Derived.Test.YtdepkgikdmlgiaaLmU
import Derived.Test.YtdepkgikdmlgiaaLm1
import Derived.Test.YtdepkgikdmlgiaaLmC
import Derived.Test.YtdepkgikdmlgiaaPx0
import Derived.Test.YtdepkgikdmlgiaaPx4
import Derived.Test.YtdepkgikdmlgiaaPx7
import Derived.Test.YtdepkgikdmlgiaaPx3
import Derived.Test.YtdepkgikdmlgiaaShort
import Derived.Test.YtdepkgikdmlgiaaPx13
import Derived.Test.YtdepkgikdmlgiaaPx28
import Derived.Test.YtdepkgikdmlgiaaPx29
import Derived.Test.YtdepkgikdmlgiaaPx35
import Derived.Test.YtdepkgikdmlgiaaPx36
import Derived.Test.YtdepkgikdmlgiaaPx40
namespace Go.Proofs.Ytdepkgikdmlgiaa.P
open Go.RowKit Go.Proofs.Ytdepkgikdmlgiaa.Lim Go.Proofs.YtdepkgikdmlgiaaW.PrintWords Go.Proofs.YtdepkgikdmlgiaaW.PrintLast Go.Proofs.YtdepkgikdmlgiaaW.PrintMore
set_option linter.unusedVariables false

noncomputable def tallboylaw29_FrameAsks.j0L (x2 : Int) (x20 : Bool) (z0 : Bool) (z1 : Int) (z2 : Int) (z3 : Int) (z4 : Int) (z5 : ByteArray) (z6 : ByteArray) (z7 : ByteArray) (z8 : Int) (z9 : List ByteArray) (za : Int) (zb : Int) (zc : ByteArray) (zd : Int) (ze : Int) (zf : Bool) : Option (Bool) := lim (fun k => tallboylaw29_FrameAsks.j0 k x2 x20 z0 z1 z2 z3 z4 z5 z6 z7 z8 z9 za zb zc zd ze zf)
theorem tallboylaw29_FrameAsks.j0Llm (x2 : Int) (x20 : Bool) (z0 : Bool) (z1 : Int) (z2 : Int) (z3 : Int) (z4 : Int) (z5 : ByteArray) (z6 : ByteArray) (z7 : ByteArray) (z8 : Int) (z9 : List ByteArray) (za : Int) (zb : Int) (zc : ByteArray) (zd : Int) (ze : Int) (zf : Bool) : Lm (fun k => tallboylaw29_FrameAsks.j0 k x2 x20 z0 z1 z2 z3 z4 z5 z6 z7 z8 z9 za zb zc zd ze zf) (tallboylaw29_FrameAsks.j0L x2 x20 z0 z1 z2 z3 z4 z5 z6 z7 z8 z9 za zb zc zd ze zf) := lim_spec (fun k => (tallboylaw29_FrameAsks.mono_l k) _ _ _ _ _ _ _ _ _ _ _ _ _ _ _ _ _ _)
noncomputable def tallboylaw29_FrameAsks.L (a0_0 : Bool) (a0_1 : Int) (a0_2 : Int) (a0_3 : Int) (a0_4 : Int) (a0_5 : ByteArray) (a0_6 : ByteArray) (a0_7 : ByteArray) (a1_0 : Int) (l1_1 : List ByteArray) (a1_2 : Int) (a1_3 : Int) (a1_4 : ByteArray) (a1_5 : Int) (a1_6 : Int) (a1_7 : Bool) (a2 : Int) : Option (Bool) := lim (fun k => tallboylaw29_FrameAsks.f k a0_0 a0_1 a0_2 a0_3 a0_4 a0_5 a0_6 a0_7 a1_0 l1_1 a1_2 a1_3 a1_4 a1_5 a1_6 a1_7 a2)
theorem tallboylaw29_FrameAsks.Llm (a0_0 : Bool) (a0_1 : Int) (a0_2 : Int) (a0_3 : Int) (a0_4 : Int) (a0_5 : ByteArray) (a0_6 : ByteArray) (a0_7 : ByteArray) (a1_0 : Int) (l1_1 : List ByteArray) (a1_2 : Int) (a1_3 : Int) (a1_4 : ByteArray) (a1_5 : Int) (a1_6 : Int) (a1_7 : Bool) (a2 : Int) : Lm (fun k => tallboylaw29_FrameAsks.f k a0_0 a0_1 a0_2 a0_3 a0_4 a0_5 a0_6 a0_7 a1_0 l1_1 a1_2 a1_3 a1_4 a1_5 a1_6 a1_7 a2) (tallboylaw29_FrameAsks.L a0_0 a0_1 a0_2 a0_3 a0_4 a0_5 a0_6 a0_7 a1_0 l1_1 a1_2 a1_3 a1_4 a1_5 a1_6 a1_7 a2) := lim_spec (fun k => tallboylaw29_FrameAsks.mono a0_0 a0_1 a0_2 a0_3 a0_4 a0_5 a0_6 a0_7 a1_0 l1_1 a1_2 a1_3 a1_4 a1_5 a1_6 a1_7 a2 k)
theorem tallboylaw29_FrameAsks.j0L_eq (x2 : Int) (x20 : Bool) (z0 : Bool) (z1 : Int) (z2 : Int) (z3 : Int) (z4 : Int) (z5 : ByteArray) (z6 : ByteArray) (z7 : ByteArray) (z8 : Int) (z9 : List ByteArray) (za : Int) (zb : Int) (zc : ByteArray) (zd : Int) (ze : Int) (zf : Bool) : tallboylaw29_FrameAsks.j0L x2 x20 z0 z1 z2 z3 z4 z5 z6 z7 z8 z9 za zb zc zd ze zf = (if x20 = true then (some true) else ((tallboylaw29_To.f z0 z1 z2 z3 z4 z5 z6 z7).bind fun bt471 => ((frame_Command.L bt471.1 bt471.2.1 bt471.2.2.1 bt471.2.2.2.1 bt471.2.2.2.2.1 bt471.2.2.2.2.2.1 bt471.2.2.2.2.2.2.1 bt471.2.2.2.2.2.2.2).bind fun bt479 => ((tallboyref29_Command.L z0 z1 z2 z3 z4 z5 z6 z7).bind fun bt491 => ((tallboylaw15_Own.f z8 z9 za zb zc zd ze zf).bind fun bt503 => ((frame_Request.L bt503.1 bt503.2.1 bt503.2.2.1 bt503.2.2.2.1 bt503.2.2.2.2.1 bt503.2.2.2.2.2.1 bt503.2.2.2.2.2.2.1 bt503.2.2.2.2.2.2.2 x2).bind fun bt513 => ((tallboyref29_Request.L z8 z9 za zb zc zd ze zf x2).bind fun bt523 => ((tallboyref17_SameCommands.L bt479.1 bt479.2.1 bt479.2.2.1 bt479.2.2.2.1 bt479.2.2.2.2.1 bt479.2.2.2.2.2.1 bt479.2.2.2.2.2.2.1 bt479.2.2.2.2.2.2.2.1 bt491.1 bt491.2.1 bt491.2.2.1 bt491.2.2.2.1 bt491.2.2.2.2.1 bt491.2.2.2.2.2.1 bt491.2.2.2.2.2.2.1 bt491.2.2.2.2.2.2.2.1).bind fun t533 => (if t533 = true then (if bt479.2.2.2.2.2.2.2.2 = bt491.2.2.2.2.2.2.2.2 then ((tallboylaw29_From.f bt513.1 bt513.2.1 bt513.2.2.1 bt513.2.2.2.1 bt513.2.2.2.2.1 bt513.2.2.2.2.2.1 bt513.2.2.2.2.2.2.1 bt513.2.2.2.2.2.2.2.1).bind fun bt534 => (if (bt534.1 == bt523.1 && (bt534.2.1 == bt523.2.1 && (bt534.2.2.1 == bt523.2.2.1 && (bt534.2.2.2.1 == bt523.2.2.2.1 && (bt534.2.2.2.2.1 == bt523.2.2.2.2.1 && (bt534.2.2.2.2.2.1.toList == bt523.2.2.2.2.2.1.toList && (bt534.2.2.2.2.2.2.1.toList == bt523.2.2.2.2.2.2.1.toList && (bt534.2.2.2.2.2.2.2.toList == bt523.2.2.2.2.2.2.2.1.toList)))))))) = true then (some (bt513.2.2.2.2.2.2.2.2 == bt523.2.2.2.2.2.2.2.2)) else (none))) else (none)) else (none)))))))))) := by
  refine Lm.unique (tallboylaw29_FrameAsks.j0Llm x2 x20 z0 z1 z2 z3 z4 z5 z6 z7 z8 z9 za zb zc zd ze zf) ?_
  refine Lm.step rfl (f := fun k => tallboylaw29_FrameAsks.j0 (k + 1) x2 x20 z0 z1 z2 z3 z4 z5 z6 z7 z8 z9 za zb zc zd ze zf) (fun _ => rfl) ?_; simp only [tallboylaw29_FrameAsks.j0]
  repeat' first
    | with_reducible exact tallboyref17_SameCommands.Llm _ _ _ _ _ _ _ _ _ _ _ _ _ _ _ _
    | with_reducible exact tallboyref29_Command.Llm _ _ _ _ _ _ _ _
    | with_reducible exact tallboyref29_Request.Llm _ _ _ _ _ _ _ _ _
    | with_reducible exact frame_Request.Llm _ _ _ _ _ _ _ _ _
    | with_reducible exact frame_Command.Llm _ _ _ _ _ _ _ _
    | with_reducible exact Lm.const _
    | with_reducible refine Lm.bind ?_ (fun _ => ?_)
    | with_reducible refine Lm.ite ?_ ?_
    | refine Lm.bind ?_ (fun _ => ?_)
    | refine Lm.ite ?_ ?_
theorem tallboylaw29_FrameAsks.L_eq (a0_0 : Bool) (a0_1 : Int) (a0_2 : Int) (a0_3 : Int) (a0_4 : Int) (a0_5 : ByteArray) (a0_6 : ByteArray) (a0_7 : ByteArray) (a1_0 : Int) (l1_1 : List ByteArray) (a1_2 : Int) (a1_3 : Int) (a1_4 : ByteArray) (a1_5 : Int) (a1_6 : Int) (a1_7 : Bool) (a2 : Int) : tallboylaw29_FrameAsks.L a0_0 a0_1 a0_2 a0_3 a0_4 a0_5 a0_6 a0_7 a1_0 l1_1 a1_2 a1_3 a1_4 a1_5 a1_6 a1_7 a2 = ((tallboylaw29_Great.f a0_0 a0_1 a0_2 a0_3 a0_4 a0_5 a0_6 a0_7).bind fun t469 => (if t469 = true then (tallboylaw29_FrameAsks.j0L a2 true a0_0 a0_1 a0_2 a0_3 a0_4 a0_5 a0_6 a0_7 a1_0 l1_1 a1_2 a1_3 a1_4 a1_5 a1_6 a1_7) else ((tallboylaw15_Great.L a1_0 l1_1 a1_2 a1_3 a1_4 a1_5 a1_6 a1_7).bind fun t470 => (tallboylaw29_FrameAsks.j0L a2 t470 a0_0 a0_1 a0_2 a0_3 a0_4 a0_5 a0_6 a0_7 a1_0 l1_1 a1_2 a1_3 a1_4 a1_5 a1_6 a1_7)))) := by
  refine Lm.unique (tallboylaw29_FrameAsks.Llm a0_0 a0_1 a0_2 a0_3 a0_4 a0_5 a0_6 a0_7 a1_0 l1_1 a1_2 a1_3 a1_4 a1_5 a1_6 a1_7 a2) ?_
  unfold tallboylaw29_FrameAsks.f
  repeat' first
    | with_reducible exact tallboylaw29_FrameAsks.j0Llm _ _ _ _ _ _ _ _ _ _ _ _ _ _ _ _ _ _
    | with_reducible exact tallboylaw15_Great.Llm _ _ _ _ _ _ _ _
    | with_reducible exact Lm.const _
    | with_reducible refine Lm.bind ?_ (fun _ => ?_)
    | with_reducible refine Lm.ite ?_ ?_
    | refine Lm.bind ?_ (fun _ => ?_)
    | refine Lm.ite ?_ ?_
end Go.Proofs.Ytdepkgikdmlgiaa.P
