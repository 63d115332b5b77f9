/- The limits of the functions with rounds, and the equations that reckon them. Plain Lean; no condition. Written by a program. -/
import Derived.Test.YtdepkgikdmlgiaaLim
import Derived.Test.YtdepkgikdmlgiaaLmR
import Derived.Test.YtdepkgikdmlgiaaLmU
import Derived.Test.YtdepkgikdmlgiaaPx23
import Derived.Test.YtdepkgikdmlgiaaPx24
import Derived.Test.YtdepkgikdmlgiaaPx25
import Derived.Test.YtdepkgikdmlgiaaPx26
import Derived.Test.YtdepkgikdmlgiaaPx0
import Derived.Test.YtdepkgikdmlgiaaShort
import Derived.Test.YtdepkgikdmlgiaaPx5
import Derived.Test.YtdepkgikdmlgiaaPx28
import Derived.Test.YtdepkgikdmlgiaaPx35
import Derived.Test.YtdepkgikdmlgiaaLmW
import Derived.Test.YtdepkgikdmlgiaaPx43
namespace Go.Proofs.Ytdepkgikdmlgiaa.P
open Go.RowKit Go.Proofs.Ytdepkgikdmlgiaa.Lim Go.Proofs.YtdepkgikdmlgiaaW.PrintWords Go.Proofs.YtdepkgikdmlgiaaW.PrintLast Go.Proofs.YtdepkgikdmlgiaaW.PrintMore
set_option linter.unusedVariables false

noncomputable def tallboylaw29_FrameBack.j0L (x1 : ByteArray) (x2 : Int) (x24 : Bool) (z3 : Bool) (z4 : Int) (z5 : Int) (z6 : Int) (z7 : Int) (z0 : ByteArray) (z1 : ByteArray) (z2 : ByteArray) : Option (Bool) := lim (fun k => tallboylaw29_FrameBack.j0 k x1 x2 x24 z3 z4 z5 z6 z7 z0 z1 z2)
theorem tallboylaw29_FrameBack.j0Llm (x1 : ByteArray) (x2 : Int) (x24 : Bool) (z3 : Bool) (z4 : Int) (z5 : Int) (z6 : Int) (z7 : Int) (z0 : ByteArray) (z1 : ByteArray) (z2 : ByteArray) : Lm (fun k => tallboylaw29_FrameBack.j0 k x1 x2 x24 z3 z4 z5 z6 z7 z0 z1 z2) (tallboylaw29_FrameBack.j0L x1 x2 x24 z3 z4 z5 z6 z7 z0 z1 z2) := lim_spec (fun k => (tallboylaw29_FrameBack.mono_l k) _ _ _ _ _ _ _ _ _ _ _)
noncomputable def tallboylaw29_FrameBack.L (a0_0 : Bool) (a0_1 : Int) (a0_2 : Int) (a0_3 : Int) (a0_4 : Int) (a0_5 : ByteArray) (a0_6 : ByteArray) (a0_7 : ByteArray) (a1 : ByteArray) (a2 : Int) : Option (Bool) := lim (fun k => tallboylaw29_FrameBack.f k a0_0 a0_1 a0_2 a0_3 a0_4 a0_5 a0_6 a0_7 a1 a2)
theorem tallboylaw29_FrameBack.Llm (a0_0 : Bool) (a0_1 : Int) (a0_2 : Int) (a0_3 : Int) (a0_4 : Int) (a0_5 : ByteArray) (a0_6 : ByteArray) (a0_7 : ByteArray) (a1 : ByteArray) (a2 : Int) : Lm (fun k => tallboylaw29_FrameBack.f k a0_0 a0_1 a0_2 a0_3 a0_4 a0_5 a0_6 a0_7 a1 a2) (tallboylaw29_FrameBack.L a0_0 a0_1 a0_2 a0_3 a0_4 a0_5 a0_6 a0_7 a1 a2) := lim_spec (fun k => tallboylaw29_FrameBack.mono a0_0 a0_1 a0_2 a0_3 a0_4 a0_5 a0_6 a0_7 a1 a2 k)
theorem tallboylaw29_FrameBack.j0L_eq (x1 : ByteArray) (x2 : Int) (x24 : Bool) (z3 : Bool) (z4 : Int) (z5 : Int) (z6 : Int) (z7 : Int) (z0 : ByteArray) (z1 : ByteArray) (z2 : ByteArray) : tallboylaw29_FrameBack.j0L x1 x2 x24 z3 z4 z5 z6 z7 z0 z1 z2 = (if x24 = true then (some true) else ((tallboylaw29_To.f z3 z4 z5 z6 z7 z0 z1 z2).bind fun bt627 => ((frame_Pack.f bt627.1 bt627.2.1 bt627.2.2.1 bt627.2.2.2.1 bt627.2.2.2.2.1 bt627.2.2.2.2.2.1 bt627.2.2.2.2.2.2.1 bt627.2.2.2.2.2.2.2).bind fun bt635 => (if bt635.2 = 0 then (if bt635.1.size + x1.size ≤ 9223372036854775807 then ((frame_Unpack.L (bt635.1 ++ x1)).bind fun bt637 => (if (IntKind.u64.wrap ((bt635.1.size : Int))) = 0 then (none) else (if 0 ≤ (wrap64 (Int.tmod (IntKind.u64.wrap (x2)) (IntKind.u64.wrap ((bt635.1.size : Int))))) then (if (wrap64 (Int.tmod (IntKind.u64.wrap (x2)) (IntKind.u64.wrap ((bt635.1.size : Int))))) ≤ (bt635.1.size : Int) then ((frame_Unpack.L (bt635.1.extract 0 ((wrap64 (Int.tmod (IntKind.u64.wrap (x2)) (IntKind.u64.wrap ((bt635.1.size : Int))))) : Int).toNat)).bind fun bt648 => (if bt637.2.2.2.2.2.2.2.2.2 = 0 then ((tallboylaw29_From.f bt637.1 bt637.2.1 bt637.2.2.1 bt637.2.2.2.1 bt637.2.2.2.2.1 bt637.2.2.2.2.2.1 bt637.2.2.2.2.2.2.1 bt637.2.2.2.2.2.2.2.1).bind fun bt659 => (if (bt659.1 == z3 && (bt659.2.1 == z4 && (bt659.2.2.1 == z5 && (bt659.2.2.2.1 == z6 && (bt659.2.2.2.2.1 == z7 && (bt659.2.2.2.2.2.1.toList == z0.toList && (bt659.2.2.2.2.2.2.1.toList == z1.toList && (bt659.2.2.2.2.2.2.2.toList == z2.toList)))))))) = true then (if bt637.2.2.2.2.2.2.2.2.1 = (bt635.1.size : Int) then (if (bt635.1.size : Int) = (wrap64 ((wrap64 ((wrap64 (24 + (z0.size : Int))) + (z1.size : Int))) + (z2.size : Int))) then (some (bt648.2.2.2.2.2.2.2.2.2 == 3)) else (none)) else (none)) else (none))) else (none))) else (none)) else (none)))) else (none)) else (if bt635.2 = 7 then (some (bt635.1.toList == ([] : List UInt8))) else (none)))))) := by
  refine Lm.unique (tallboylaw29_FrameBack.j0Llm x1 x2 x24 z3 z4 z5 z6 z7 z0 z1 z2) ?_
  refine Lm.step rfl (f := fun k => tallboylaw29_FrameBack.j0 (k + 1) x1 x2 x24 z3 z4 z5 z6 z7 z0 z1 z2) (fun _ => rfl) ?_; simp only [tallboylaw29_FrameBack.j0]
  repeat' first
    | with_reducible exact frame_Unpack.Llm _
    | with_reducible exact Lm.const _
    | with_reducible refine Lm.bind ?_ (fun _ => ?_)
    | with_reducible refine Lm.ite ?_ ?_
    | refine Lm.bind ?_ (fun _ => ?_)
    | refine Lm.ite ?_ ?_
theorem tallboylaw29_FrameBack.L_eq (a0_0 : Bool) (a0_1 : Int) (a0_2 : Int) (a0_3 : Int) (a0_4 : Int) (a0_5 : ByteArray) (a0_6 : ByteArray) (a0_7 : ByteArray) (a1 : ByteArray) (a2 : Int) : tallboylaw29_FrameBack.L a0_0 a0_1 a0_2 a0_3 a0_4 a0_5 a0_6 a0_7 a1 a2 = ((tallboylaw29_works.L).bind fun t625 => (if t625 = true then ((tallboylaw29_Great.f a0_0 a0_1 a0_2 a0_3 a0_4 a0_5 a0_6 a0_7).bind fun t626 => (if t626 = true then (tallboylaw29_FrameBack.j0L a1 a2 true a0_0 a0_1 a0_2 a0_3 a0_4 a0_5 a0_6 a0_7) else (tallboylaw29_FrameBack.j0L a1 a2 (decide ((a1.size : Int) > 1000)) a0_0 a0_1 a0_2 a0_3 a0_4 a0_5 a0_6 a0_7))) else (none))) := by
  refine Lm.unique (tallboylaw29_FrameBack.Llm a0_0 a0_1 a0_2 a0_3 a0_4 a0_5 a0_6 a0_7 a1 a2) ?_
  unfold tallboylaw29_FrameBack.f
  repeat' first
    | with_reducible exact tallboylaw29_FrameBack.j0Llm _ _ _ _ _ _ _ _ _ _ _
    | with_reducible exact tallboylaw29_works.Llm
    | with_reducible exact Lm.const _
    | with_reducible refine Lm.bind ?_ (fun _ => ?_)
    | with_reducible refine Lm.ite ?_ ?_
    | refine Lm.bind ?_ (fun _ => ?_)
    | refine Lm.ite ?_ ?_
end Go.Proofs.Ytdepkgikdmlgiaa.P
