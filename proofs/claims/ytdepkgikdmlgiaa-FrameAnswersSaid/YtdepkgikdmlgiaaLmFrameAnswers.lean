/- The limits of the functions with rounds, and the equations that reckon them. Plain Lean; no condition. Written by a program. -/
import Derived.Test.YtdepkgikdmlgiaaLim
import Derived.Test.YtdepkgikdmlgiaaLmR
import Derived.Test.YtdepkgikdmlgiaaPx20
import Derived.Test.YtdepkgikdmlgiaaPx21
namespace Go.Proofs.Ytdepkgikdmlgiaa.P
open Go.RowKit Go.Proofs.Ytdepkgikdmlgiaa.Lim Go.Proofs.YtdepkgikdmlgiaaW.PrintWords Go.Proofs.YtdepkgikdmlgiaaW.PrintLast Go.Proofs.YtdepkgikdmlgiaaW.PrintMore
set_option linter.unusedVariables false

noncomputable def frame_Refuse.j0L (x264000 : Bool) (x264001 : Int) (x264002 : Int) (x264003 : Int) (x264004 : Int) (x264005 : ByteArray) (x264006 : ByteArray) (x264007 : ByteArray) : Option (Bool × Int × Int × Int × Int × ByteArray × ByteArray × ByteArray) := lim (fun k => frame_Refuse.j0 k x264000 x264001 x264002 x264003 x264004 x264005 x264006 x264007)
theorem frame_Refuse.j0Llm (x264000 : Bool) (x264001 : Int) (x264002 : Int) (x264003 : Int) (x264004 : Int) (x264005 : ByteArray) (x264006 : ByteArray) (x264007 : ByteArray) : Lm (fun k => frame_Refuse.j0 k x264000 x264001 x264002 x264003 x264004 x264005 x264006 x264007) (frame_Refuse.j0L x264000 x264001 x264002 x264003 x264004 x264005 x264006 x264007) := lim_spec (fun k => (frame_Refuse.mono_l k) _ _ _ _ _ _ _ _)
noncomputable def frame_Refuse.L (a0_0 : Bool) (a0_1 : Int) (a0_2 : Int) (a0_3 : Int) (a0_4 : Int) (a0_5 : ByteArray) (a0_6 : ByteArray) (a0_7 : ByteArray) (a1 : Int) : Option (Bool × Int × Int × Int × Int × ByteArray × ByteArray × ByteArray) := lim (fun k => frame_Refuse.f k a0_0 a0_1 a0_2 a0_3 a0_4 a0_5 a0_6 a0_7 a1)
theorem frame_Refuse.Llm (a0_0 : Bool) (a0_1 : Int) (a0_2 : Int) (a0_3 : Int) (a0_4 : Int) (a0_5 : ByteArray) (a0_6 : ByteArray) (a0_7 : ByteArray) (a1 : Int) : Lm (fun k => frame_Refuse.f k a0_0 a0_1 a0_2 a0_3 a0_4 a0_5 a0_6 a0_7 a1) (frame_Refuse.L a0_0 a0_1 a0_2 a0_3 a0_4 a0_5 a0_6 a0_7 a1) := lim_spec (fun k => frame_Refuse.mono a0_0 a0_1 a0_2 a0_3 a0_4 a0_5 a0_6 a0_7 a1 k)
noncomputable def tallboyref29_Refuse.j0L (x267000 : Bool) (x267001 : Int) (x267002 : Int) (x267003 : Int) (x267004 : Int) (x267005 : ByteArray) (x267006 : ByteArray) (x267007 : ByteArray) : Option (Bool × Int × Int × Int × Int × ByteArray × ByteArray × ByteArray) := lim (fun k => tallboyref29_Refuse.j0 k x267000 x267001 x267002 x267003 x267004 x267005 x267006 x267007)
theorem tallboyref29_Refuse.j0Llm (x267000 : Bool) (x267001 : Int) (x267002 : Int) (x267003 : Int) (x267004 : Int) (x267005 : ByteArray) (x267006 : ByteArray) (x267007 : ByteArray) : Lm (fun k => tallboyref29_Refuse.j0 k x267000 x267001 x267002 x267003 x267004 x267005 x267006 x267007) (tallboyref29_Refuse.j0L x267000 x267001 x267002 x267003 x267004 x267005 x267006 x267007) := lim_spec (fun k => (tallboyref29_Refuse.mono_l k) _ _ _ _ _ _ _ _)
noncomputable def tallboyref29_Refuse.L (a0_0 : Bool) (a0_1 : Int) (a0_2 : Int) (a0_3 : Int) (a0_4 : Int) (a0_5 : ByteArray) (a0_6 : ByteArray) (a0_7 : ByteArray) (a1 : Int) : Option (Bool × Int × Int × Int × Int × ByteArray × ByteArray × ByteArray) := lim (fun k => tallboyref29_Refuse.f k a0_0 a0_1 a0_2 a0_3 a0_4 a0_5 a0_6 a0_7 a1)
theorem tallboyref29_Refuse.Llm (a0_0 : Bool) (a0_1 : Int) (a0_2 : Int) (a0_3 : Int) (a0_4 : Int) (a0_5 : ByteArray) (a0_6 : ByteArray) (a0_7 : ByteArray) (a1 : Int) : Lm (fun k => tallboyref29_Refuse.f k a0_0 a0_1 a0_2 a0_3 a0_4 a0_5 a0_6 a0_7 a1) (tallboyref29_Refuse.L a0_0 a0_1 a0_2 a0_3 a0_4 a0_5 a0_6 a0_7 a1) := lim_spec (fun k => tallboyref29_Refuse.mono a0_0 a0_1 a0_2 a0_3 a0_4 a0_5 a0_6 a0_7 a1 k)
noncomputable def tallboylaw29_FrameAnswers.j0L (x2 : Int) (x3 : Int) (x18 : Bool) (x268000 : Bool) (x268001 : Int) (x268002 : Int) (x268003 : Int) (x268004 : Int) (x268005 : ByteArray) (x268006 : ByteArray) (x268007 : ByteArray) (x269000 : Int) (x269001 : List (S97)) (x269002 : Int) : Option (Bool) := lim (fun k => tallboylaw29_FrameAnswers.j0 k x2 x3 x18 x268000 x268001 x268002 x268003 x268004 x268005 x268006 x268007 x269000 x269001 x269002)
theorem tallboylaw29_FrameAnswers.j0Llm (x2 : Int) (x3 : Int) (x18 : Bool) (x268000 : Bool) (x268001 : Int) (x268002 : Int) (x268003 : Int) (x268004 : Int) (x268005 : ByteArray) (x268006 : ByteArray) (x268007 : ByteArray) (x269000 : Int) (x269001 : List (S97)) (x269002 : Int) : Lm (fun k => tallboylaw29_FrameAnswers.j0 k x2 x3 x18 x268000 x268001 x268002 x268003 x268004 x268005 x268006 x268007 x269000 x269001 x269002) (tallboylaw29_FrameAnswers.j0L x2 x3 x18 x268000 x268001 x268002 x268003 x268004 x268005 x268006 x268007 x269000 x269001 x269002) := lim_spec (fun k => (tallboylaw29_FrameAnswers.mono_l k) _ _ _ _ _ _ _ _ _ _ _ _ _ _)
noncomputable def tallboylaw29_FrameAnswers.L (a0_0 : Bool) (a0_1 : Int) (a0_2 : Int) (a0_3 : Int) (a0_4 : Int) (a0_5 : ByteArray) (a0_6 : ByteArray) (a0_7 : ByteArray) (a1_0 : Int) (l1_1 : List (S97)) (a1_2 : Int) (a2 : Int) (a3 : Int) : Option (Bool) := lim (fun k => tallboylaw29_FrameAnswers.f k a0_0 a0_1 a0_2 a0_3 a0_4 a0_5 a0_6 a0_7 a1_0 l1_1 a1_2 a2 a3)
theorem tallboylaw29_FrameAnswers.Llm (a0_0 : Bool) (a0_1 : Int) (a0_2 : Int) (a0_3 : Int) (a0_4 : Int) (a0_5 : ByteArray) (a0_6 : ByteArray) (a0_7 : ByteArray) (a1_0 : Int) (l1_1 : List (S97)) (a1_2 : Int) (a2 : Int) (a3 : Int) : Lm (fun k => tallboylaw29_FrameAnswers.f k a0_0 a0_1 a0_2 a0_3 a0_4 a0_5 a0_6 a0_7 a1_0 l1_1 a1_2 a2 a3) (tallboylaw29_FrameAnswers.L a0_0 a0_1 a0_2 a0_3 a0_4 a0_5 a0_6 a0_7 a1_0 l1_1 a1_2 a2 a3) := lim_spec (fun k => tallboylaw29_FrameAnswers.mono a0_0 a0_1 a0_2 a0_3 a0_4 a0_5 a0_6 a0_7 a1_0 l1_1 a1_2 a2 a3 k)
theorem frame_Refuse.j0L_eq (x264000 : Bool) (x264001 : Int) (x264002 : Int) (x264003 : Int) (x264004 : Int) (x264005 : ByteArray) (x264006 : ByteArray) (x264007 : ByteArray) : frame_Refuse.j0L x264000 x264001 x264002 x264003 x264004 x264005 x264006 x264007 = (some (x264000, x264001, x264002, x264003, x264004, x264005, x264006, x264007)) := by
  refine Lm.unique (frame_Refuse.j0Llm x264000 x264001 x264002 x264003 x264004 x264005 x264006 x264007) ?_
  refine Lm.step rfl (f := fun k => frame_Refuse.j0 (k + 1) x264000 x264001 x264002 x264003 x264004 x264005 x264006 x264007) (fun _ => rfl) ?_; simp only [frame_Refuse.j0]
  repeat' first
    | with_reducible exact Lm.const _
    | with_reducible refine Lm.bind ?_ (fun _ => ?_)
    | with_reducible refine Lm.ite ?_ ?_
    | refine Lm.bind ?_ (fun _ => ?_)
    | refine Lm.ite ?_ ?_
theorem frame_Refuse.L_eq (a0_0 : Bool) (a0_1 : Int) (a0_2 : Int) (a0_3 : Int) (a0_4 : Int) (a0_5 : ByteArray) (a0_6 : ByteArray) (a0_7 : ByteArray) (a1 : Int) : frame_Refuse.L a0_0 a0_1 a0_2 a0_3 a0_4 a0_5 a0_6 a0_7 a1 = (if a1 = 70 then (frame_Refuse.j0L true a0_1 129 a0_3 0 (⟨#[]⟩ : ByteArray) (⟨#[]⟩ : ByteArray) (⟨#[]⟩ : ByteArray)) else (if a1 = 7 then (frame_Refuse.j0L true a0_1 3 a0_3 0 (⟨#[]⟩ : ByteArray) (⟨#[]⟩ : ByteArray) (⟨#[]⟩ : ByteArray)) else (frame_Refuse.j0L true a0_1 4 a0_3 0 (⟨#[]⟩ : ByteArray) (⟨#[]⟩ : ByteArray) (⟨#[]⟩ : ByteArray)))) := by
  refine Lm.unique (frame_Refuse.Llm a0_0 a0_1 a0_2 a0_3 a0_4 a0_5 a0_6 a0_7 a1) ?_
  unfold frame_Refuse.f
  repeat' first
    | with_reducible exact frame_Refuse.j0Llm _ _ _ _ _ _ _ _
    | with_reducible exact Lm.const _
    | with_reducible refine Lm.bind ?_ (fun _ => ?_)
    | with_reducible refine Lm.ite ?_ ?_
    | refine Lm.bind ?_ (fun _ => ?_)
    | refine Lm.ite ?_ ?_
theorem tallboyref29_Refuse.j0L_eq (x267000 : Bool) (x267001 : Int) (x267002 : Int) (x267003 : Int) (x267004 : Int) (x267005 : ByteArray) (x267006 : ByteArray) (x267007 : ByteArray) : tallboyref29_Refuse.j0L x267000 x267001 x267002 x267003 x267004 x267005 x267006 x267007 = (some (x267000, x267001, x267002, x267003, x267004, x267005, x267006, x267007)) := by
  refine Lm.unique (tallboyref29_Refuse.j0Llm x267000 x267001 x267002 x267003 x267004 x267005 x267006 x267007) ?_
  refine Lm.step rfl (f := fun k => tallboyref29_Refuse.j0 (k + 1) x267000 x267001 x267002 x267003 x267004 x267005 x267006 x267007) (fun _ => rfl) ?_; simp only [tallboyref29_Refuse.j0]
  repeat' first
    | with_reducible exact Lm.const _
    | with_reducible refine Lm.bind ?_ (fun _ => ?_)
    | with_reducible refine Lm.ite ?_ ?_
    | refine Lm.bind ?_ (fun _ => ?_)
    | refine Lm.ite ?_ ?_
theorem tallboyref29_Refuse.L_eq (a0_0 : Bool) (a0_1 : Int) (a0_2 : Int) (a0_3 : Int) (a0_4 : Int) (a0_5 : ByteArray) (a0_6 : ByteArray) (a0_7 : ByteArray) (a1 : Int) : tallboyref29_Refuse.L a0_0 a0_1 a0_2 a0_3 a0_4 a0_5 a0_6 a0_7 a1 = (if a1 = 70 then (tallboyref29_Refuse.j0L true a0_1 129 a0_3 0 (⟨#[]⟩ : ByteArray) (⟨#[]⟩ : ByteArray) (⟨#[]⟩ : ByteArray)) else (if a1 = 7 then (tallboyref29_Refuse.j0L true a0_1 3 a0_3 0 (⟨#[]⟩ : ByteArray) (⟨#[]⟩ : ByteArray) (⟨#[]⟩ : ByteArray)) else (tallboyref29_Refuse.j0L true a0_1 4 a0_3 0 (⟨#[]⟩ : ByteArray) (⟨#[]⟩ : ByteArray) (⟨#[]⟩ : ByteArray)))) := by
  refine Lm.unique (tallboyref29_Refuse.Llm a0_0 a0_1 a0_2 a0_3 a0_4 a0_5 a0_6 a0_7 a1) ?_
  unfold tallboyref29_Refuse.f
  repeat' first
    | with_reducible exact tallboyref29_Refuse.j0Llm _ _ _ _ _ _ _ _
    | with_reducible exact Lm.const _
    | with_reducible refine Lm.bind ?_ (fun _ => ?_)
    | with_reducible refine Lm.ite ?_ ?_
    | refine Lm.bind ?_ (fun _ => ?_)
    | refine Lm.ite ?_ ?_
theorem tallboylaw29_FrameAnswers.j0L_eq (x2 : Int) (x3 : Int) (x18 : Bool) (x268000 : Bool) (x268001 : Int) (x268002 : Int) (x268003 : Int) (x268004 : Int) (x268005 : ByteArray) (x268006 : ByteArray) (x268007 : ByteArray) (x269000 : Int) (x269001 : List (S97)) (x269002 : Int) : tallboylaw29_FrameAnswers.j0L x2 x3 x18 x268000 x268001 x268002 x268003 x268004 x268005 x268006 x268007 x269000 x269001 x269002 = (if x18 = true then (some true) else ((tallboylaw29_To.f x268000 x268001 x268002 x268003 x268004 x268005 x268006 x268007).bind fun bt271 => ((tallboylaw18_To.L x269000 x269001 x269002).bind fun bt279 => ((frame_Reply.L bt271.1 bt271.2.1 bt271.2.2.1 bt271.2.2.2.1 bt271.2.2.2.2.1 bt271.2.2.2.2.2.1 bt271.2.2.2.2.2.2.1 bt271.2.2.2.2.2.2.2 bt279.1 bt279.2.1 bt279.2.2 x2).bind fun bt284 => ((tallboyref29_Reply.L x268000 x268001 x268002 x268003 x268004 x268005 x268006 x268007 x269000 x269001 x269002 x2).bind fun bt294 => ((tallboylaw29_From.f bt284.1 bt284.2.1 bt284.2.2.1 bt284.2.2.2.1 bt284.2.2.2.2.1 bt284.2.2.2.2.2.1 bt284.2.2.2.2.2.2.1 bt284.2.2.2.2.2.2.2.1).bind fun bt304 => (if (bt304.1 == bt294.1 && (bt304.2.1 == bt294.2.1 && (bt304.2.2.1 == bt294.2.2.1 && (bt304.2.2.2.1 == bt294.2.2.2.1 && (bt304.2.2.2.2.1 == bt294.2.2.2.2.1 && (bt304.2.2.2.2.2.1.toList == bt294.2.2.2.2.2.1.toList && (bt304.2.2.2.2.2.2.1.toList == bt294.2.2.2.2.2.2.1.toList && (bt304.2.2.2.2.2.2.2.toList == bt294.2.2.2.2.2.2.2.1.toList)))))))) = true then (if (bt284.2.2.2.2.2.2.2.2 == bt294.2.2.2.2.2.2.2.2) = true then ((tallboylaw29_To.f x268000 x268001 x268002 x268003 x268004 x268005 x268006 x268007).bind fun bt312 => ((frame_Refuse.L bt312.1 bt312.2.1 bt312.2.2.1 bt312.2.2.2.1 bt312.2.2.2.2.1 bt312.2.2.2.2.2.1 bt312.2.2.2.2.2.2.1 bt312.2.2.2.2.2.2.2 x3).bind fun bt320 => ((tallboylaw29_From.f bt320.1 bt320.2.1 bt320.2.2.1 bt320.2.2.2.1 bt320.2.2.2.2.1 bt320.2.2.2.2.2.1 bt320.2.2.2.2.2.2.1 bt320.2.2.2.2.2.2.2).bind fun bt328 => ((tallboyref29_Refuse.L x268000 x268001 x268002 x268003 x268004 x268005 x268006 x268007 x3).bind fun bt336 => (some (bt328.1 == bt336.1 && (bt328.2.1 == bt336.2.1 && (bt328.2.2.1 == bt336.2.2.1 && (bt328.2.2.2.1 == bt336.2.2.2.1 && (bt328.2.2.2.2.1 == bt336.2.2.2.2.1 && (bt328.2.2.2.2.2.1.toList == bt336.2.2.2.2.2.1.toList && (bt328.2.2.2.2.2.2.1.toList == bt336.2.2.2.2.2.2.1.toList && (bt328.2.2.2.2.2.2.2.toList == bt336.2.2.2.2.2.2.2.toList))))))))))))) else (none)) else (none)))))))) := by
  refine Lm.unique (tallboylaw29_FrameAnswers.j0Llm x2 x3 x18 x268000 x268001 x268002 x268003 x268004 x268005 x268006 x268007 x269000 x269001 x269002) ?_
  refine Lm.step rfl (f := fun k => tallboylaw29_FrameAnswers.j0 (k + 1) x2 x3 x18 x268000 x268001 x268002 x268003 x268004 x268005 x268006 x268007 x269000 x269001 x269002) (fun _ => rfl) ?_; simp only [tallboylaw29_FrameAnswers.j0]
  repeat' first
    | with_reducible exact tallboyref29_Refuse.Llm _ _ _ _ _ _ _ _ _
    | with_reducible exact tallboyref29_Reply.Llm _ _ _ _ _ _ _ _ _ _ _ _
    | with_reducible exact tallboylaw18_To.Llm _ _ _
    | with_reducible exact frame_Refuse.Llm _ _ _ _ _ _ _ _ _
    | with_reducible exact frame_Reply.Llm _ _ _ _ _ _ _ _ _ _ _ _
    | with_reducible exact Lm.const _
    | with_reducible refine Lm.bind ?_ (fun _ => ?_)
    | with_reducible refine Lm.ite ?_ ?_
    | refine Lm.bind ?_ (fun _ => ?_)
    | refine Lm.ite ?_ ?_
theorem tallboylaw29_FrameAnswers.L_eq (a0_0 : Bool) (a0_1 : Int) (a0_2 : Int) (a0_3 : Int) (a0_4 : Int) (a0_5 : ByteArray) (a0_6 : ByteArray) (a0_7 : ByteArray) (a1_0 : Int) (l1_1 : List (S97)) (a1_2 : Int) (a2 : Int) (a3 : Int) : tallboylaw29_FrameAnswers.L a0_0 a0_1 a0_2 a0_3 a0_4 a0_5 a0_6 a0_7 a1_0 l1_1 a1_2 a2 a3 = ((tallboylaw29_Great.f a0_0 a0_1 a0_2 a0_3 a0_4 a0_5 a0_6 a0_7).bind fun t269 => (if t269 = true then (tallboylaw29_FrameAnswers.j0L a2 a3 true a0_0 a0_1 a0_2 a0_3 a0_4 a0_5 a0_6 a0_7 a1_0 l1_1 a1_2) else ((tallboylaw18_Great.L a1_0 l1_1 a1_2).bind fun t270 => (tallboylaw29_FrameAnswers.j0L a2 a3 t270 a0_0 a0_1 a0_2 a0_3 a0_4 a0_5 a0_6 a0_7 a1_0 l1_1 a1_2)))) := by
  refine Lm.unique (tallboylaw29_FrameAnswers.Llm a0_0 a0_1 a0_2 a0_3 a0_4 a0_5 a0_6 a0_7 a1_0 l1_1 a1_2 a2 a3) ?_
  unfold tallboylaw29_FrameAnswers.f
  repeat' first
    | with_reducible exact tallboylaw29_FrameAnswers.j0Llm _ _ _ _ _ _ _ _ _ _ _ _ _ _
    | with_reducible exact tallboylaw18_Great.Llm _ _ _
    | with_reducible exact Lm.const _
    | with_reducible refine Lm.bind ?_ (fun _ => ?_)
    | with_reducible refine Lm.ite ?_ ?_
    | refine Lm.bind ?_ (fun _ => ?_)
    | refine Lm.ite ?_ ?_
end Go.Proofs.Ytdepkgikdmlgiaa.P
