/- The limits of the functions with rounds, and the equations that reckon them. Plain Lean; no condition. Written by a program. -/
import Derived.Test.YtdepkgikdmlgiaaLim
import Derived.Test.YtdepkgikdmlgiaaLmR
import Derived.Test.YtdepkgikdmlgiaaLmU
import Derived.Test.YtdepkgikdmlgiaaPx12
namespace Go.Proofs.Ytdepkgikdmlgiaa.P
open Go.RowKit Go.Proofs.Ytdepkgikdmlgiaa.Lim Go.Proofs.YtdepkgikdmlgiaaW.PrintWords Go.Proofs.YtdepkgikdmlgiaaW.PrintLast Go.Proofs.YtdepkgikdmlgiaaW.PrintMore
set_option linter.unusedVariables false

noncomputable def tallboylaw29_FramePacks.j0L (x1 : ByteArray) (x21 : Bool) (x139000 : Bool) (x139001 : Int) (x139002 : Int) (x139003 : Int) (x139004 : Int) (x139005 : ByteArray) (x139006 : ByteArray) (x139007 : ByteArray) : Option (Bool) := lim (fun k => tallboylaw29_FramePacks.j0 k x1 x21 x139000 x139001 x139002 x139003 x139004 x139005 x139006 x139007)
theorem tallboylaw29_FramePacks.j0Llm (x1 : ByteArray) (x21 : Bool) (x139000 : Bool) (x139001 : Int) (x139002 : Int) (x139003 : Int) (x139004 : Int) (x139005 : ByteArray) (x139006 : ByteArray) (x139007 : ByteArray) : Lm (fun k => tallboylaw29_FramePacks.j0 k x1 x21 x139000 x139001 x139002 x139003 x139004 x139005 x139006 x139007) (tallboylaw29_FramePacks.j0L x1 x21 x139000 x139001 x139002 x139003 x139004 x139005 x139006 x139007) := lim_spec (fun k => (tallboylaw29_FramePacks.mono_l k) _ _ _ _ _ _ _ _ _ _)
noncomputable def tallboylaw29_FramePacks.L (a0_0 : Bool) (a0_1 : Int) (a0_2 : Int) (a0_3 : Int) (a0_4 : Int) (a0_5 : ByteArray) (a0_6 : ByteArray) (a0_7 : ByteArray) (a1 : ByteArray) : Option (Bool) := lim (fun k => tallboylaw29_FramePacks.f k a0_0 a0_1 a0_2 a0_3 a0_4 a0_5 a0_6 a0_7 a1)
theorem tallboylaw29_FramePacks.Llm (a0_0 : Bool) (a0_1 : Int) (a0_2 : Int) (a0_3 : Int) (a0_4 : Int) (a0_5 : ByteArray) (a0_6 : ByteArray) (a0_7 : ByteArray) (a1 : ByteArray) : Lm (fun k => tallboylaw29_FramePacks.f k a0_0 a0_1 a0_2 a0_3 a0_4 a0_5 a0_6 a0_7 a1) (tallboylaw29_FramePacks.L a0_0 a0_1 a0_2 a0_3 a0_4 a0_5 a0_6 a0_7 a1) := lim_spec (fun k => tallboylaw29_FramePacks.mono a0_0 a0_1 a0_2 a0_3 a0_4 a0_5 a0_6 a0_7 a1 k)
theorem tallboylaw29_FramePacks.j0L_eq (x1 : ByteArray) (x21 : Bool) (x139000 : Bool) (x139001 : Int) (x139002 : Int) (x139003 : Int) (x139004 : Int) (x139005 : ByteArray) (x139006 : ByteArray) (x139007 : ByteArray) : tallboylaw29_FramePacks.j0L x1 x21 x139000 x139001 x139002 x139003 x139004 x139005 x139006 x139007 = (if x21 = true then (some true) else ((tallboylaw29_To.f x139000 x139001 x139002 x139003 x139004 x139005 x139006 x139007).bind fun bt140 => ((frame_Pack.f bt140.1 bt140.2.1 bt140.2.2.1 bt140.2.2.2.1 bt140.2.2.2.2.1 bt140.2.2.2.2.2.1 bt140.2.2.2.2.2.2.1 bt140.2.2.2.2.2.2.2).bind fun bt148 => ((tallboyref29_Pack.L x139000 x139001 x139002 x139003 x139004 x139005 x139006 x139007).bind fun bt150 => ((frame_Unpack.L x1).bind fun bt152 => ((tallboyref29_Unpack.L x1).bind fun bt163 => (if bt148.1.toList = bt150.1.toList then (if bt148.2 = bt150.2 then ((tallboylaw29_From.f bt152.1 bt152.2.1 bt152.2.2.1 bt152.2.2.2.1 bt152.2.2.2.2.1 bt152.2.2.2.2.2.1 bt152.2.2.2.2.2.2.1 bt152.2.2.2.2.2.2.2.1).bind fun bt174 => (if (bt174.1 == bt163.1 && (bt174.2.1 == bt163.2.1 && (bt174.2.2.1 == bt163.2.2.1 && (bt174.2.2.2.1 == bt163.2.2.2.1 && (bt174.2.2.2.2.1 == bt163.2.2.2.2.1 && (bt174.2.2.2.2.2.1.toList == bt163.2.2.2.2.2.1.toList && (bt174.2.2.2.2.2.2.1.toList == bt163.2.2.2.2.2.2.1.toList && (bt174.2.2.2.2.2.2.2.toList == bt163.2.2.2.2.2.2.2.1.toList)))))))) = true then (if bt152.2.2.2.2.2.2.2.2.1 = bt163.2.2.2.2.2.2.2.2.1 then (some (bt152.2.2.2.2.2.2.2.2.2 == bt163.2.2.2.2.2.2.2.2.2)) else (none)) else (none))) else (none)) else (none)))))))) := by
  refine Lm.unique (tallboylaw29_FramePacks.j0Llm x1 x21 x139000 x139001 x139002 x139003 x139004 x139005 x139006 x139007) ?_
  refine Lm.step rfl (f := fun k => tallboylaw29_FramePacks.j0 (k + 1) x1 x21 x139000 x139001 x139002 x139003 x139004 x139005 x139006 x139007) (fun _ => rfl) ?_; simp only [tallboylaw29_FramePacks.j0]
  repeat' first
    | with_reducible exact tallboyref29_Unpack.Llm _
    | with_reducible exact tallboyref29_Pack.Llm _ _ _ _ _ _ _ _
    | with_reducible exact frame_Unpack.Llm _
    | with_reducible exact Lm.const _
    | with_reducible refine Lm.bind ?_ (fun _ => ?_)
    | with_reducible refine Lm.ite ?_ ?_
    | refine Lm.bind ?_ (fun _ => ?_)
    | refine Lm.ite ?_ ?_
theorem tallboylaw29_FramePacks.L_eq (a0_0 : Bool) (a0_1 : Int) (a0_2 : Int) (a0_3 : Int) (a0_4 : Int) (a0_5 : ByteArray) (a0_6 : ByteArray) (a0_7 : ByteArray) (a1 : ByteArray) : tallboylaw29_FramePacks.L a0_0 a0_1 a0_2 a0_3 a0_4 a0_5 a0_6 a0_7 a1 = ((tallboylaw29_Great.f a0_0 a0_1 a0_2 a0_3 a0_4 a0_5 a0_6 a0_7).bind fun t139 => (if t139 = true then (tallboylaw29_FramePacks.j0L a1 true a0_0 a0_1 a0_2 a0_3 a0_4 a0_5 a0_6 a0_7) else (tallboylaw29_FramePacks.j0L a1 (decide ((a1.size : Int) > 40000)) a0_0 a0_1 a0_2 a0_3 a0_4 a0_5 a0_6 a0_7))) := by
  refine Lm.unique (tallboylaw29_FramePacks.Llm a0_0 a0_1 a0_2 a0_3 a0_4 a0_5 a0_6 a0_7 a1) ?_
  unfold tallboylaw29_FramePacks.f
  repeat' first
    | with_reducible exact tallboylaw29_FramePacks.j0Llm _ _ _ _ _ _ _ _ _ _
    | with_reducible exact Lm.const _
    | with_reducible refine Lm.bind ?_ (fun _ => ?_)
    | with_reducible refine Lm.ite ?_ ?_
    | refine Lm.bind ?_ (fun _ => ?_)
    | refine Lm.ite ?_ ?_
end Go.Proofs.Ytdepkgikdmlgiaa.P
