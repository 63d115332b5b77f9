/- The limits of the functions with rounds, and the equations that reckon them. Plain Lean; no condition. Written by a program. -/
import Derived.Test.YtdgpagocccabdaaDoorLim
import Derived.Test.YtdgpagocccabdaaDoorLmReplyReads
import Derived.Test.YtdgpagocccabdaaDoorLmReplyWrites
import Derived.Test.YtdgpagocccabdaaDoorPx10
import Derived.Test.YtdgpagocccabdaaDoorPx25
import Derived.Test.YtdgpagocccabdaaDoorLm1
import Derived.Test.YtdgpagocccabdaaDoorPx31
import Derived.Test.YtdgpagocccabdaaDoorPx32
import Derived.Test.YtdgpagocccabdaaDoorPx0
import Derived.Test.YtdgpagocccabdaaDoorPx3
import Derived.Test.YtdgpagocccabdaaDoorPx9
import Derived.Test.YtdgpagocccabdaaDoorPx24
import Derived.Test.YtdgpagocccabdaaDoorPx29
import Derived.Test.YtdgpagocccabdaaDoorShort
namespace Go.Proofs.YtdgpagocccabdaaDoor.P
open Go.RowKit Go.Proofs.YtdgpagocccabdaaDoor.Lim Go.Proofs.YtdgpagocccabdaaDoorW.PrintWords Go.Proofs.YtdgpagocccabdaaDoorW.PrintLast Go.Proofs.YtdgpagocccabdaaDoorW.PrintMore
set_option linter.unusedVariables false

noncomputable def tallboylaw18_works.L : Option (Bool) := lim (fun k => tallboylaw18_works.f k)
theorem tallboylaw18_works.Llm : Lm (fun k => tallboylaw18_works.f k) (tallboylaw18_works.L) := lim_spec (fun k => tallboylaw18_works.mono k)
noncomputable def tallboylaw18_ReplyBack.j0L (x0 : Int) (x2 : ByteArray) (x37 : Bool) (z0 : Int) (z2 : List (S47)) (z1 : Int) : Option (Bool) := lim (fun k => tallboylaw18_ReplyBack.j0 k x0 x2 x37 z0 z2 z1)
theorem tallboylaw18_ReplyBack.j0Llm (x0 : Int) (x2 : ByteArray) (x37 : Bool) (z0 : Int) (z2 : List (S47)) (z1 : Int) : Lm (fun k => tallboylaw18_ReplyBack.j0 k x0 x2 x37 z0 z2 z1) (tallboylaw18_ReplyBack.j0L x0 x2 x37 z0 z2 z1) := lim_spec (fun k => (tallboylaw18_ReplyBack.mono_l k).1 _ _ _ _ _ _)
noncomputable def tallboylaw18_ReplyBack.j1L (x0 : Int) (x2 : ByteArray) (z0 : Int) (z2 : List (S47)) (z1 : Int) : Option (Bool) := lim (fun k => tallboylaw18_ReplyBack.j1 k x0 x2 z0 z2 z1)
theorem tallboylaw18_ReplyBack.j1Llm (x0 : Int) (x2 : ByteArray) (z0 : Int) (z2 : List (S47)) (z1 : Int) : Lm (fun k => tallboylaw18_ReplyBack.j1 k x0 x2 z0 z2 z1) (tallboylaw18_ReplyBack.j1L x0 x2 z0 z2 z1) := lim_spec (fun k => (tallboylaw18_ReplyBack.mono_l k).2.1 _ _ _ _ _)
noncomputable def tallboylaw18_ReplyBack.l0L (x0 : Int) (x2 : ByteArray) (x7 : List (S47)) (x8 : Int) (z0 : Int) (z2 : List (S47)) (z1 : Int) : Option (Bool) := lim (fun k => tallboylaw18_ReplyBack.l0 k x0 x2 x7 x8 z0 z2 z1)
theorem tallboylaw18_ReplyBack.l0Llm (x0 : Int) (x2 : ByteArray) (x7 : List (S47)) (x8 : Int) (z0 : Int) (z2 : List (S47)) (z1 : Int) : Lm (fun k => tallboylaw18_ReplyBack.l0 k x0 x2 x7 x8 z0 z2 z1) (tallboylaw18_ReplyBack.l0L x0 x2 x7 x8 z0 z2 z1) := lim_spec (fun k => (tallboylaw18_ReplyBack.mono_l k).2.2.1 _ _ _ _ _ _ _)
noncomputable def tallboylaw18_ReplyBack.j3L (x0 : Int) (x2 : ByteArray) (x7 : List (S47)) (x8 : Int) (x71 : Bool) (z0 : Int) (z2 : List (S47)) (z1 : Int) : Option (Bool) := lim (fun k => tallboylaw18_ReplyBack.j3 k x0 x2 x7 x8 x71 z0 z2 z1)
theorem tallboylaw18_ReplyBack.j3Llm (x0 : Int) (x2 : ByteArray) (x7 : List (S47)) (x8 : Int) (x71 : Bool) (z0 : Int) (z2 : List (S47)) (z1 : Int) : Lm (fun k => tallboylaw18_ReplyBack.j3 k x0 x2 x7 x8 x71 z0 z2 z1) (tallboylaw18_ReplyBack.j3L x0 x2 x7 x8 x71 z0 z2 z1) := lim_spec (fun k => (tallboylaw18_ReplyBack.mono_l k).2.2.2.1 _ _ _ _ _ _ _ _)
noncomputable def tallboylaw18_ReplyBack.j4L (x0 : Int) (x2 : ByteArray) (x9 : ByteArray) (x95 : Bool) (z0 : Int) (z2 : List (S47)) (z1 : Int) : Option (Bool) := lim (fun k => tallboylaw18_ReplyBack.j4 k x0 x2 x9 x95 z0 z2 z1)
theorem tallboylaw18_ReplyBack.j4Llm (x0 : Int) (x2 : ByteArray) (x9 : ByteArray) (x95 : Bool) (z0 : Int) (z2 : List (S47)) (z1 : Int) : Lm (fun k => tallboylaw18_ReplyBack.j4 k x0 x2 x9 x95 z0 z2 z1) (tallboylaw18_ReplyBack.j4L x0 x2 x9 x95 z0 z2 z1) := lim_spec (fun k => (tallboylaw18_ReplyBack.mono_l k).2.2.2.2.1 _ _ _ _ _ _ _)
noncomputable def tallboylaw18_ReplyBack.l1L (x0 : Int) (x2 : ByteArray) (x7 : List (S47)) (x8 : Int) (z0 : Int) (z1 : Int) : Option (Bool) := lim (fun k => tallboylaw18_ReplyBack.l1 k x0 x2 x7 x8 z0 z1)
theorem tallboylaw18_ReplyBack.l1Llm (x0 : Int) (x2 : ByteArray) (x7 : List (S47)) (x8 : Int) (z0 : Int) (z1 : Int) : Lm (fun k => tallboylaw18_ReplyBack.l1 k x0 x2 x7 x8 z0 z1) (tallboylaw18_ReplyBack.l1L x0 x2 x7 x8 z0 z1) := lim_spec (fun k => (tallboylaw18_ReplyBack.mono_l k).2.2.2.2.2.1 _ _ _ _ _ _)
noncomputable def tallboylaw18_ReplyBack.j6L (x0 : Int) (x2 : ByteArray) (x7 : List (S47)) (x8 : Int) (x71 : Bool) (z0 : Int) (z1 : Int) : Option (Bool) := lim (fun k => tallboylaw18_ReplyBack.j6 k x0 x2 x7 x8 x71 z0 z1)
theorem tallboylaw18_ReplyBack.j6Llm (x0 : Int) (x2 : ByteArray) (x7 : List (S47)) (x8 : Int) (x71 : Bool) (z0 : Int) (z1 : Int) : Lm (fun k => tallboylaw18_ReplyBack.j6 k x0 x2 x7 x8 x71 z0 z1) (tallboylaw18_ReplyBack.j6L x0 x2 x7 x8 x71 z0 z1) := lim_spec (fun k => (tallboylaw18_ReplyBack.mono_l k).2.2.2.2.2.2.1 _ _ _ _ _ _ _)
noncomputable def tallboylaw18_ReplyBack.j7L (x0 : Int) (x2 : ByteArray) (x9 : ByteArray) (x95 : Bool) (z0 : Int) (z2 : List (S47)) (z1 : Int) : Option (Bool) := lim (fun k => tallboylaw18_ReplyBack.j7 k x0 x2 x9 x95 z0 z2 z1)
theorem tallboylaw18_ReplyBack.j7Llm (x0 : Int) (x2 : ByteArray) (x9 : ByteArray) (x95 : Bool) (z0 : Int) (z2 : List (S47)) (z1 : Int) : Lm (fun k => tallboylaw18_ReplyBack.j7 k x0 x2 x9 x95 z0 z2 z1) (tallboylaw18_ReplyBack.j7L x0 x2 x9 x95 z0 z2 z1) := lim_spec (fun k => (tallboylaw18_ReplyBack.mono_l k).2.2.2.2.2.2.2 _ _ _ _ _ _ _)
noncomputable def tallboylaw18_ReplyBack.L (a0 : Int) (a1_0 : Int) (l1_1 : List (S47)) (a1_2 : Int) (a2 : ByteArray) : Option (Bool) := lim (fun k => tallboylaw18_ReplyBack.f k a0 a1_0 l1_1 a1_2 a2)
theorem tallboylaw18_ReplyBack.Llm (a0 : Int) (a1_0 : Int) (l1_1 : List (S47)) (a1_2 : Int) (a2 : ByteArray) : Lm (fun k => tallboylaw18_ReplyBack.f k a0 a1_0 l1_1 a1_2 a2) (tallboylaw18_ReplyBack.L a0 a1_0 l1_1 a1_2 a2) := lim_spec (fun k => tallboylaw18_ReplyBack.mono a0 a1_0 l1_1 a1_2 a2 k)
theorem tallboylaw18_ReplyBack.j0L_eq (x0 : Int) (x2 : ByteArray) (x37 : Bool) (z0 : Int) (z2 : List (S47)) (z1 : Int) : tallboylaw18_ReplyBack.j0L x0 x2 x37 z0 z2 z1 = (if x37 = true then (some true) else (if z0 = 7 then (tallboylaw18_ReplyBack.j1L x0 x2 z0 z2 z1) else (tallboylaw18_ReplyBack.j1L x0 x2 z0 z2 0))) := by
  refine Lm.unique (tallboylaw18_ReplyBack.j0Llm x0 x2 x37 z0 z2 z1) ?_
  refine Lm.step rfl (f := fun k => tallboylaw18_ReplyBack.j0 (k + 1) x0 x2 x37 z0 z2 z1) (fun _ => rfl) ?_; simp only [tallboylaw18_ReplyBack.j0]
  repeat' first
    | with_reducible exact tallboylaw18_ReplyBack.j1Llm _ _ _ _ _
    | with_reducible exact Lm.const _
    | with_reducible refine Lm.bind ?_ (fun _ => ?_)
    | with_reducible refine Lm.ite ?_ ?_
    | refine Lm.bind ?_ (fun _ => ?_)
    | refine Lm.ite ?_ ?_
theorem tallboylaw18_ReplyBack.j1L_eq (x0 : Int) (x2 : ByteArray) (z0 : Int) (z2 : List (S47)) (z1 : Int) : tallboylaw18_ReplyBack.j1L x0 x2 z0 z2 z1 = (if z0 = 1 then ((some (([] : List (S47)) : List (S47))).bind fun y283 => (if y283.length + z2.length < 2932031007402 then (tallboylaw18_ReplyBack.l0L x0 x2 (y283 ++ z2) 0 z0 z2 z1) else (none))) else (tallboylaw18_ReplyBack.l1L x0 x2 (([] : List (S47))) 0 z0 z1)) := by
  refine Lm.unique (tallboylaw18_ReplyBack.j1Llm x0 x2 z0 z2 z1) ?_
  refine Lm.step rfl (f := fun k => tallboylaw18_ReplyBack.j1 (k + 1) x0 x2 z0 z2 z1) (fun _ => rfl) ?_; simp only [tallboylaw18_ReplyBack.j1]
  repeat' first
    | with_reducible exact tallboylaw18_ReplyBack.l0Llm _ _ _ _ _ _ _
    | with_reducible exact tallboylaw18_ReplyBack.l1Llm _ _ _ _ _ _
    | with_reducible exact Lm.const _
    | with_reducible refine Lm.bind ?_ (fun _ => ?_)
    | with_reducible refine Lm.ite ?_ ?_
    | refine Lm.bind ?_ (fun _ => ?_)
    | refine Lm.ite ?_ ?_
theorem tallboylaw18_ReplyBack.l0L_eq (x0 : Int) (x2 : ByteArray) (x7 : List (S47)) (x8 : Int) (z0 : Int) (z2 : List (S47)) (z1 : Int) : tallboylaw18_ReplyBack.l0L x0 x2 x7 x8 z0 z2 z1 = (if x8 < (x7.length : Int) then (if 0 ≤ x8 then ((tallboyref04_Key.L ((rd_T47 x7 x8).f0)).bind fun t290 => (if t290 = true then (tallboylaw18_ReplyBack.j3L x0 x2 x7 x8 (decide ((((rd_T47 x7 x8).f2).size : Int) > 2000)) z0 z2 z1) else (tallboylaw18_ReplyBack.j3L x0 x2 x7 x8 true z0 z2 z1))) else (none)) else ((tallboylaw18_To.L z0 x7 z1).bind fun bt294 => ((reply_Text.f x0 bt294.1 bt294.2.1 bt294.2.2).bind fun t299 => (if (t299.size : Int) < 3 then (tallboylaw18_ReplyBack.j4L x0 x2 t299 true z0 x7 z1) else (if 0 ≤ (wrap64 ((t299.size : Int) - 2)) then (if (wrap64 ((t299.size : Int) - 2)) ≤ (t299.size : Int) then (tallboylaw18_ReplyBack.j4L x0 x2 t299 ((t299.extract ((wrap64 ((t299.size : Int) - 2)) : Int).toNat t299.size).toList != ([13, 10] : List UInt8)) z0 x7 z1) else (none)) else (none)))))) := by
  refine Lm.unique (tallboylaw18_ReplyBack.l0Llm x0 x2 x7 x8 z0 z2 z1) ?_
  refine Lm.step rfl (f := fun k => tallboylaw18_ReplyBack.l0 (k + 1) x0 x2 x7 x8 z0 z2 z1) (fun _ => rfl) ?_; simp only [tallboylaw18_ReplyBack.l0]
  repeat' first
    | with_reducible exact tallboylaw18_ReplyBack.j3Llm _ _ _ _ _ _ _ _
    | with_reducible exact tallboylaw18_ReplyBack.j4Llm _ _ _ _ _ _ _
    | with_reducible exact tallboyref04_Key.Llm _
    | with_reducible exact tallboylaw18_To.Llm _ _ _
    | with_reducible exact Lm.const _
    | with_reducible refine Lm.bind ?_ (fun _ => ?_)
    | with_reducible refine Lm.ite ?_ ?_
    | refine Lm.bind ?_ (fun _ => ?_)
    | refine Lm.ite ?_ ?_
theorem tallboylaw18_ReplyBack.j3L_eq (x0 : Int) (x2 : ByteArray) (x7 : List (S47)) (x8 : Int) (x71 : Bool) (z0 : Int) (z2 : List (S47)) (z1 : Int) : tallboylaw18_ReplyBack.j3L x0 x2 x7 x8 x71 z0 z2 z1 = (if x71 = true then (some true) else ((verb_Shows.f x0).bind fun t292 => (if t292 = true then (tallboylaw18_ReplyBack.l0L x0 x2 x7 (wrap64 (x8 + 1)) z0 z2 z1) else (if 0 ≤ x8 then (if x8 < (x7.length : Int) then (tallboylaw18_ReplyBack.l0L x0 x2 (x7.set (x8 : Int).toNat (⟨(rd_T47 x7 x8).f0, (rd_T47 x7 x8).f1, (rd_T47 x7 x8).f2, 0⟩ : S47)) (wrap64 (x8 + 1)) z0 z2 z1) else (none)) else (none))))) := by
  refine Lm.unique (tallboylaw18_ReplyBack.j3Llm x0 x2 x7 x8 x71 z0 z2 z1) ?_
  refine Lm.step rfl (f := fun k => tallboylaw18_ReplyBack.j3 (k + 1) x0 x2 x7 x8 x71 z0 z2 z1) (fun _ => rfl) ?_; simp only [tallboylaw18_ReplyBack.j3]
  repeat' first
    | with_reducible exact tallboylaw18_ReplyBack.l0Llm _ _ _ _ _ _ _
    | with_reducible exact Lm.const _
    | with_reducible refine Lm.bind ?_ (fun _ => ?_)
    | with_reducible refine Lm.ite ?_ ?_
    | refine Lm.bind ?_ (fun _ => ?_)
    | refine Lm.ite ?_ ?_
theorem tallboylaw18_ReplyBack.j4L_eq (x0 : Int) (x2 : ByteArray) (x9 : ByteArray) (x95 : Bool) (z0 : Int) (z2 : List (S47)) (z1 : Int) : tallboylaw18_ReplyBack.j4L x0 x2 x9 x95 z0 z2 z1 = (if x95 = true then (none) else (if x9.size + x2.size ≤ 9223372036854775807 then ((reply_Read.L x0 (x9 ++ x2)).bind fun bt300 => (if bt300.2.2.2.2 = 0 then (if bt300.2.2.2.1 = (x9.size : Int) then ((tallboylaw16_From.L bt300.1 bt300.2.1 bt300.2.2.1).bind fun bt308 => ((tallboyref15_Same.L bt308.1 bt308.2.1 bt308.2.2 z0 z2 z1).bind fun t313 => (some t313))) else (none)) else (none))) else (none))) := by
  refine Lm.unique (tallboylaw18_ReplyBack.j4Llm x0 x2 x9 x95 z0 z2 z1) ?_
  refine Lm.step rfl (f := fun k => tallboylaw18_ReplyBack.j4 (k + 1) x0 x2 x9 x95 z0 z2 z1) (fun _ => rfl) ?_; simp only [tallboylaw18_ReplyBack.j4]
  repeat' first
    | with_reducible exact tallboylaw16_From.Llm _ _ _
    | with_reducible exact tallboyref15_Same.Llm _ _ _ _ _ _
    | with_reducible exact reply_Read.Llm _ _
    | with_reducible exact Lm.const _
    | with_reducible refine Lm.bind ?_ (fun _ => ?_)
    | with_reducible refine Lm.ite ?_ ?_
    | refine Lm.bind ?_ (fun _ => ?_)
    | refine Lm.ite ?_ ?_
theorem tallboylaw18_ReplyBack.l1L_eq (x0 : Int) (x2 : ByteArray) (x7 : List (S47)) (x8 : Int) (z0 : Int) (z1 : Int) : tallboylaw18_ReplyBack.l1L x0 x2 x7 x8 z0 z1 = (if x8 < (x7.length : Int) then (if 0 ≤ x8 then ((tallboyref04_Key.L ((rd_T47 x7 x8).f0)).bind fun t318 => (if t318 = true then (tallboylaw18_ReplyBack.j6L x0 x2 x7 x8 (decide ((((rd_T47 x7 x8).f2).size : Int) > 2000)) z0 z1) else (tallboylaw18_ReplyBack.j6L x0 x2 x7 x8 true z0 z1))) else (none)) else ((tallboylaw18_To.L z0 x7 z1).bind fun bt322 => ((reply_Text.f x0 bt322.1 bt322.2.1 bt322.2.2).bind fun t327 => (if (t327.size : Int) < 3 then (tallboylaw18_ReplyBack.j7L x0 x2 t327 true z0 x7 z1) else (if 0 ≤ (wrap64 ((t327.size : Int) - 2)) then (if (wrap64 ((t327.size : Int) - 2)) ≤ (t327.size : Int) then (tallboylaw18_ReplyBack.j7L x0 x2 t327 ((t327.extract ((wrap64 ((t327.size : Int) - 2)) : Int).toNat t327.size).toList != ([13, 10] : List UInt8)) z0 x7 z1) else (none)) else (none)))))) := by
  refine Lm.unique (tallboylaw18_ReplyBack.l1Llm x0 x2 x7 x8 z0 z1) ?_
  refine Lm.step rfl (f := fun k => tallboylaw18_ReplyBack.l1 (k + 1) x0 x2 x7 x8 z0 z1) (fun _ => rfl) ?_; simp only [tallboylaw18_ReplyBack.l1]
  repeat' first
    | with_reducible exact tallboylaw18_ReplyBack.j6Llm _ _ _ _ _ _ _
    | with_reducible exact tallboylaw18_ReplyBack.j7Llm _ _ _ _ _ _ _
    | with_reducible exact tallboyref04_Key.Llm _
    | with_reducible exact tallboylaw18_To.Llm _ _ _
    | with_reducible exact Lm.const _
    | with_reducible refine Lm.bind ?_ (fun _ => ?_)
    | with_reducible refine Lm.ite ?_ ?_
    | refine Lm.bind ?_ (fun _ => ?_)
    | refine Lm.ite ?_ ?_
theorem tallboylaw18_ReplyBack.j7L_eq (x0 : Int) (x2 : ByteArray) (x9 : ByteArray) (x95 : Bool) (z0 : Int) (z2 : List (S47)) (z1 : Int) : tallboylaw18_ReplyBack.j7L x0 x2 x9 x95 z0 z2 z1 = (if x95 = true then (none) else (if x9.size + x2.size ≤ 9223372036854775807 then ((reply_Read.L x0 (x9 ++ x2)).bind fun bt328 => (if bt328.2.2.2.2 = 0 then (if bt328.2.2.2.1 = (x9.size : Int) then ((tallboylaw16_From.L bt328.1 bt328.2.1 bt328.2.2.1).bind fun bt336 => ((tallboyref15_Same.L bt336.1 bt336.2.1 bt336.2.2 z0 z2 z1).bind fun t341 => (some t341))) else (none)) else (none))) else (none))) := by
  refine Lm.unique (tallboylaw18_ReplyBack.j7Llm x0 x2 x9 x95 z0 z2 z1) ?_
  refine Lm.step rfl (f := fun k => tallboylaw18_ReplyBack.j7 (k + 1) x0 x2 x9 x95 z0 z2 z1) (fun _ => rfl) ?_; simp only [tallboylaw18_ReplyBack.j7]
  repeat' first
    | with_reducible exact tallboylaw16_From.Llm _ _ _
    | with_reducible exact tallboyref15_Same.Llm _ _ _ _ _ _
    | with_reducible exact reply_Read.Llm _ _
    | with_reducible exact Lm.const _
    | with_reducible refine Lm.bind ?_ (fun _ => ?_)
    | with_reducible refine Lm.ite ?_ ?_
    | refine Lm.bind ?_ (fun _ => ?_)
    | refine Lm.ite ?_ ?_
theorem tallboylaw18_ReplyBack.L_eq (a0 : Int) (a1_0 : Int) (l1_1 : List (S47)) (a1_2 : Int) (a2 : ByteArray) : tallboylaw18_ReplyBack.L a0 a1_0 l1_1 a1_2 a2 = ((tallboylaw18_works.L).bind fun t281 => (if t281 = true then ((tallboylaw18_Great.L a1_0 l1_1 a1_2).bind fun t282 => (if t282 = true then (tallboylaw18_ReplyBack.j0L a0 a2 true a1_0 l1_1 a1_2) else (if (l1_1.length : Int) > 100 then (tallboylaw18_ReplyBack.j0L a0 a2 true a1_0 l1_1 a1_2) else (if (a2.size : Int) > 1000 then (tallboylaw18_ReplyBack.j0L a0 a2 true a1_0 l1_1 a1_2) else (if a1_0 < 1 then (tallboylaw18_ReplyBack.j0L a0 a2 true a1_0 l1_1 a1_2) else (tallboylaw18_ReplyBack.j0L a0 a2 (decide (a1_0 > 12)) a1_0 l1_1 a1_2)))))) else (none))) := by
  refine Lm.unique (tallboylaw18_ReplyBack.Llm a0 a1_0 l1_1 a1_2 a2) ?_
  unfold tallboylaw18_ReplyBack.f
  repeat' first
    | with_reducible exact tallboylaw18_ReplyBack.j0Llm _ _ _ _ _ _
    | with_reducible exact tallboylaw18_works.Llm
    | with_reducible exact tallboylaw18_Great.Llm _ _ _
    | with_reducible exact Lm.const _
    | with_reducible refine Lm.bind ?_ (fun _ => ?_)
    | with_reducible refine Lm.ite ?_ ?_
    | refine Lm.bind ?_ (fun _ => ?_)
    | refine Lm.ite ?_ ?_
end Go.Proofs.YtdgpagocccabdaaDoor.P
