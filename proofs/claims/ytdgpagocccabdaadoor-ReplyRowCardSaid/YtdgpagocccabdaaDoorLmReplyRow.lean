/- The limits of the functions with rounds, and the equations that reckon them. Plain Lean; no condition. Written by a program. -/
import Derived.Test.YtdgpagocccabdaaDoorLim
import Derived.Test.YtdgpagocccabdaaDoorLmReplyReads
import Derived.Test.YtdgpagocccabdaaDoorLmReplyWrites
import Derived.Test.YtdgpagocccabdaaDoorPx10
import Derived.Test.YtdgpagocccabdaaDoorPx25
import Derived.Test.YtdgpagocccabdaaDoorLm1
import Derived.Test.YtdgpagocccabdaaDoorPx31
import Derived.Test.YtdgpagocccabdaaDoorPx0
import Derived.Test.YtdgpagocccabdaaDoorPx3
import Derived.Test.YtdgpagocccabdaaDoorPx9
import Derived.Test.YtdgpagocccabdaaDoorPx24
import Derived.Test.YtdgpagocccabdaaDoorPx29
import Derived.Test.YtdgpagocccabdaaDoorShort
import Derived.Test.YtdgpagocccabdaaDoorPx35
namespace Go.Proofs.YtdgpagocccabdaaDoor.P
open Go.RowKit Go.Proofs.YtdgpagocccabdaaDoor.Lim Go.Proofs.YtdgpagocccabdaaDoorW.PrintWords Go.Proofs.YtdgpagocccabdaaDoorW.PrintLast Go.Proofs.YtdgpagocccabdaaDoorW.PrintMore
set_option linter.unusedVariables false

noncomputable def tallboylaw18_works.L : Option (Bool) := lim (fun k => tallboylaw18_works.f k)
theorem tallboylaw18_works.Llm : Lm (fun k => tallboylaw18_works.f k) (tallboylaw18_works.L) := lim_spec (fun k => tallboylaw18_works.mono k)
noncomputable def tallboylaw18_ReplyRow.l0L (x0 : Int) (x1 : List (S25)) (x5 : ByteArray) (x6 : List (S25)) (x7 : Int) : Option (Bool) := lim (fun k => tallboylaw18_ReplyRow.l0 k x0 x1 x5 x6 x7)
theorem tallboylaw18_ReplyRow.l0Llm (x0 : Int) (x1 : List (S25)) (x5 : ByteArray) (x6 : List (S25)) (x7 : Int) : Lm (fun k => tallboylaw18_ReplyRow.l0 k x0 x1 x5 x6 x7) (tallboylaw18_ReplyRow.l0L x0 x1 x5 x6 x7) := lim_spec (fun k => (tallboylaw18_ReplyRow.mono_l k).1 _ _ _ _ _)
noncomputable def tallboylaw18_ReplyRow.j1L (x0 : Int) (x1 : List (S25)) (x5 : ByteArray) (x6 : List (S25)) (x7 : Int) (x25 : Bool) : Option (Bool) := lim (fun k => tallboylaw18_ReplyRow.j1 k x0 x1 x5 x6 x7 x25)
theorem tallboylaw18_ReplyRow.j1Llm (x0 : Int) (x1 : List (S25)) (x5 : ByteArray) (x6 : List (S25)) (x7 : Int) (x25 : Bool) : Lm (fun k => tallboylaw18_ReplyRow.j1 k x0 x1 x5 x6 x7 x25) (tallboylaw18_ReplyRow.j1L x0 x1 x5 x6 x7 x25) := lim_spec (fun k => (tallboylaw18_ReplyRow.mono_l k).2.1 _ _ _ _ _ _)
noncomputable def tallboylaw18_ReplyRow.j2L (x0 : Int) (x1 : List (S25)) (x5 : ByteArray) (x6 : List (S25)) (x7 : Int) (x49 : Bool) (z1 : Int) (z0 : List (S47)) (z2 : Int) : Option (Bool) := lim (fun k => tallboylaw18_ReplyRow.j2 k x0 x1 x5 x6 x7 x49 z1 z0 z2)
theorem tallboylaw18_ReplyRow.j2Llm (x0 : Int) (x1 : List (S25)) (x5 : ByteArray) (x6 : List (S25)) (x7 : Int) (x49 : Bool) (z1 : Int) (z0 : List (S47)) (z2 : Int) : Lm (fun k => tallboylaw18_ReplyRow.j2 k x0 x1 x5 x6 x7 x49 z1 z0 z2) (tallboylaw18_ReplyRow.j2L x0 x1 x5 x6 x7 x49 z1 z0 z2) := lim_spec (fun k => (tallboylaw18_ReplyRow.mono_l k).2.2.1 _ _ _ _ _ _ _ _ _)
noncomputable def tallboylaw18_ReplyRow.j3L (x0 : Int) (x1 : List (S25)) (x5 : ByteArray) (x6 : List (S25)) (x7 : Int) (z1 : Int) (z0 : List (S47)) (z2 : Int) : Option (Bool) := lim (fun k => tallboylaw18_ReplyRow.j3 k x0 x1 x5 x6 x7 z1 z0 z2)
theorem tallboylaw18_ReplyRow.j3Llm (x0 : Int) (x1 : List (S25)) (x5 : ByteArray) (x6 : List (S25)) (x7 : Int) (z1 : Int) (z0 : List (S47)) (z2 : Int) : Lm (fun k => tallboylaw18_ReplyRow.j3 k x0 x1 x5 x6 x7 z1 z0 z2) (tallboylaw18_ReplyRow.j3L x0 x1 x5 x6 x7 z1 z0 z2) := lim_spec (fun k => (tallboylaw18_ReplyRow.mono_l k).2.2.2.1 _ _ _ _ _ _ _ _)
noncomputable def tallboylaw18_ReplyRow.l1L (x0 : Int) (x1 : List (S25)) (x5 : ByteArray) (x6 : List (S25)) (x7 : Int) (x9 : List (S47)) (x10 : Int) (z1 : Int) (z0 : List (S47)) (z2 : Int) : Option (Bool) := lim (fun k => tallboylaw18_ReplyRow.l1 k x0 x1 x5 x6 x7 x9 x10 z1 z0 z2)
theorem tallboylaw18_ReplyRow.l1Llm (x0 : Int) (x1 : List (S25)) (x5 : ByteArray) (x6 : List (S25)) (x7 : Int) (x9 : List (S47)) (x10 : Int) (z1 : Int) (z0 : List (S47)) (z2 : Int) : Lm (fun k => tallboylaw18_ReplyRow.l1 k x0 x1 x5 x6 x7 x9 x10 z1 z0 z2) (tallboylaw18_ReplyRow.l1L x0 x1 x5 x6 x7 x9 x10 z1 z0 z2) := lim_spec (fun k => (tallboylaw18_ReplyRow.mono_l k).2.2.2.2.1 _ _ _ _ _ _ _ _ _ _)
noncomputable def tallboylaw18_ReplyRow.j5L (x0 : Int) (x1 : List (S25)) (x5 : ByteArray) (x6 : List (S25)) (x7 : Int) (x9 : List (S47)) (x10 : Int) (x63 : Bool) (z1 : Int) (z0 : List (S47)) (z2 : Int) : Option (Bool) := lim (fun k => tallboylaw18_ReplyRow.j5 k x0 x1 x5 x6 x7 x9 x10 x63 z1 z0 z2)
theorem tallboylaw18_ReplyRow.j5Llm (x0 : Int) (x1 : List (S25)) (x5 : ByteArray) (x6 : List (S25)) (x7 : Int) (x9 : List (S47)) (x10 : Int) (x63 : Bool) (z1 : Int) (z0 : List (S47)) (z2 : Int) : Lm (fun k => tallboylaw18_ReplyRow.j5 k x0 x1 x5 x6 x7 x9 x10 x63 z1 z0 z2) (tallboylaw18_ReplyRow.j5L x0 x1 x5 x6 x7 x9 x10 x63 z1 z0 z2) := lim_spec (fun k => (tallboylaw18_ReplyRow.mono_l k).2.2.2.2.2.1 _ _ _ _ _ _ _ _ _ _ _)
noncomputable def tallboylaw18_ReplyRow.j6L (x0 : Int) (x1 : List (S25)) (x5 : ByteArray) (x6 : List (S25)) (x7 : Int) (x9 : List (S47)) (x10 : Int) (x80 : Bool) (z1 : Int) (z0 : List (S47)) (z2 : Int) (z3 : ByteArray) (z4 : Int) (z5 : ByteArray) (x366003 : Int) : Option (Bool) := lim (fun k => tallboylaw18_ReplyRow.j6 k x0 x1 x5 x6 x7 x9 x10 x80 z1 z0 z2 z3 z4 z5 x366003)
theorem tallboylaw18_ReplyRow.j6Llm (x0 : Int) (x1 : List (S25)) (x5 : ByteArray) (x6 : List (S25)) (x7 : Int) (x9 : List (S47)) (x10 : Int) (x80 : Bool) (z1 : Int) (z0 : List (S47)) (z2 : Int) (z3 : ByteArray) (z4 : Int) (z5 : ByteArray) (x366003 : Int) : Lm (fun k => tallboylaw18_ReplyRow.j6 k x0 x1 x5 x6 x7 x9 x10 x80 z1 z0 z2 z3 z4 z5 x366003) (tallboylaw18_ReplyRow.j6L x0 x1 x5 x6 x7 x9 x10 x80 z1 z0 z2 z3 z4 z5 x366003) := lim_spec (fun k => (tallboylaw18_ReplyRow.mono_l k).2.2.2.2.2.2.1 _ _ _ _ _ _ _ _ _ _ _ _ _ _ _)
noncomputable def tallboylaw18_ReplyRow.l2L (x0 : Int) (x5 : ByteArray) (x6 : List (S25)) (x12 : Int) : Option (Bool) := lim (fun k => tallboylaw18_ReplyRow.l2 k x0 x5 x6 x12)
theorem tallboylaw18_ReplyRow.l2Llm (x0 : Int) (x5 : ByteArray) (x6 : List (S25)) (x12 : Int) : Lm (fun k => tallboylaw18_ReplyRow.l2 k x0 x5 x6 x12) (tallboylaw18_ReplyRow.l2L x0 x5 x6 x12) := lim_spec (fun k => (tallboylaw18_ReplyRow.mono_l k).2.2.2.2.2.2.2.1 _ _ _ _)
noncomputable def tallboylaw18_ReplyRow.j8L (x0 : Int) (x5 : ByteArray) (x6 : List (S25)) (x12 : Int) (x14 : Int) (x135 : Bool) : Option (Bool) := lim (fun k => tallboylaw18_ReplyRow.j8 k x0 x5 x6 x12 x14 x135)
theorem tallboylaw18_ReplyRow.j8Llm (x0 : Int) (x5 : ByteArray) (x6 : List (S25)) (x12 : Int) (x14 : Int) (x135 : Bool) : Lm (fun k => tallboylaw18_ReplyRow.j8 k x0 x5 x6 x12 x14 x135) (tallboylaw18_ReplyRow.j8L x0 x5 x6 x12 x14 x135) := lim_spec (fun k => (tallboylaw18_ReplyRow.mono_l k).2.2.2.2.2.2.2.2 _ _ _ _ _ _)
noncomputable def tallboylaw18_ReplyRow.L (a0 : Int) (l1 : List (S25)) : Option (Bool) := lim (fun k => tallboylaw18_ReplyRow.f k a0 l1)
theorem tallboylaw18_ReplyRow.Llm (a0 : Int) (l1 : List (S25)) : Lm (fun k => tallboylaw18_ReplyRow.f k a0 l1) (tallboylaw18_ReplyRow.L a0 l1) := lim_spec (fun k => tallboylaw18_ReplyRow.mono a0 l1 k)
theorem tallboylaw18_ReplyRow.l0L_eq (x0 : Int) (x1 : List (S25)) (x5 : ByteArray) (x6 : List (S25)) (x7 : Int) : tallboylaw18_ReplyRow.l0L x0 x1 x5 x6 x7 = (if x7 < (x1.length : Int) then (tallboylaw18_ReplyRow.j1L x0 x1 x5 x6 x7 (decide (x7 < 12))) else (tallboylaw18_ReplyRow.j1L x0 x1 x5 x6 x7 false)) := by
  refine Lm.unique (tallboylaw18_ReplyRow.l0Llm x0 x1 x5 x6 x7) ?_
  refine Lm.step rfl (f := fun k => tallboylaw18_ReplyRow.l0 (k + 1) x0 x1 x5 x6 x7) (fun _ => rfl) ?_; simp only [tallboylaw18_ReplyRow.l0]
  repeat' first
    | with_reducible exact tallboylaw18_ReplyRow.j1Llm _ _ _ _ _ _
    | with_reducible exact Lm.const _
    | with_reducible refine Lm.bind ?_ (fun _ => ?_)
    | with_reducible refine Lm.ite ?_ ?_
    | refine Lm.bind ?_ (fun _ => ?_)
    | refine Lm.ite ?_ ?_
theorem tallboylaw18_ReplyRow.j1L_eq (x0 : Int) (x1 : List (S25)) (x5 : ByteArray) (x6 : List (S25)) (x7 : Int) (x25 : Bool) : tallboylaw18_ReplyRow.j1L x0 x1 x5 x6 x7 x25 = (if x25 = true then (if 0 ≤ x7 then (if x7 < (x1.length : Int) then ((tallboylaw18_Great.L ((rd_T25 x1 x7).f0) ((rd_T25 x1 x7).f1) ((rd_T25 x1 x7).f2)).bind fun t363 => (if t363 = true then (tallboylaw18_ReplyRow.j2L x0 x1 x5 x6 x7 true ((rd_T25 x1 x7).f0) ((rd_T25 x1 x7).f1) ((rd_T25 x1 x7).f2)) else (if ((rd_T25 x1 x7).f0) < 1 then (tallboylaw18_ReplyRow.j2L x0 x1 x5 x6 x7 true ((rd_T25 x1 x7).f0) ((rd_T25 x1 x7).f1) ((rd_T25 x1 x7).f2)) else (if ((rd_T25 x1 x7).f0) > 12 then (tallboylaw18_ReplyRow.j2L x0 x1 x5 x6 x7 true ((rd_T25 x1 x7).f0) ((rd_T25 x1 x7).f1) ((rd_T25 x1 x7).f2)) else (tallboylaw18_ReplyRow.j2L x0 x1 x5 x6 x7 (decide ((((rd_T25 x1 x7).f1).length : Int) > 100)) ((rd_T25 x1 x7).f0) ((rd_T25 x1 x7).f1) ((rd_T25 x1 x7).f2)))))) else (none)) else (none)) else (tallboylaw18_ReplyRow.l2L x0 x5 x6 0)) := by
  refine Lm.unique (tallboylaw18_ReplyRow.j1Llm x0 x1 x5 x6 x7 x25) ?_
  refine Lm.step rfl (f := fun k => tallboylaw18_ReplyRow.j1 (k + 1) x0 x1 x5 x6 x7 x25) (fun _ => rfl) ?_; simp only [tallboylaw18_ReplyRow.j1]
  repeat' first
    | with_reducible exact tallboylaw18_ReplyRow.j2Llm _ _ _ _ _ _ _ _ _
    | with_reducible exact tallboylaw18_ReplyRow.l2Llm _ _ _ _
    | with_reducible exact tallboylaw18_Great.Llm _ _ _
    | with_reducible exact Lm.const _
    | with_reducible refine Lm.bind ?_ (fun _ => ?_)
    | with_reducible refine Lm.ite ?_ ?_
    | refine Lm.bind ?_ (fun _ => ?_)
    | refine Lm.ite ?_ ?_
theorem tallboylaw18_ReplyRow.j2L_eq (x0 : Int) (x1 : List (S25)) (x5 : ByteArray) (x6 : List (S25)) (x7 : Int) (x49 : Bool) (z1 : Int) (z0 : List (S47)) (z2 : Int) : tallboylaw18_ReplyRow.j2L x0 x1 x5 x6 x7 x49 z1 z0 z2 = (if x49 = true then (some true) else (if z1 = 7 then (tallboylaw18_ReplyRow.j3L x0 x1 x5 x6 x7 z1 z0 z2) else (tallboylaw18_ReplyRow.j3L x0 x1 x5 x6 x7 z1 z0 0))) := by
  refine Lm.unique (tallboylaw18_ReplyRow.j2Llm x0 x1 x5 x6 x7 x49 z1 z0 z2) ?_
  refine Lm.step rfl (f := fun k => tallboylaw18_ReplyRow.j2 (k + 1) x0 x1 x5 x6 x7 x49 z1 z0 z2) (fun _ => rfl) ?_; simp only [tallboylaw18_ReplyRow.j2]
  repeat' first
    | with_reducible exact tallboylaw18_ReplyRow.j3Llm _ _ _ _ _ _ _ _
    | with_reducible exact Lm.const _
    | with_reducible refine Lm.bind ?_ (fun _ => ?_)
    | with_reducible refine Lm.ite ?_ ?_
    | refine Lm.bind ?_ (fun _ => ?_)
    | refine Lm.ite ?_ ?_
theorem tallboylaw18_ReplyRow.j3L_eq (x0 : Int) (x1 : List (S25)) (x5 : ByteArray) (x6 : List (S25)) (x7 : Int) (z1 : Int) (z0 : List (S47)) (z2 : Int) : tallboylaw18_ReplyRow.j3L x0 x1 x5 x6 x7 z1 z0 z2 = (tallboylaw18_ReplyRow.l1L x0 x1 x5 x6 x7 ([] : List (S47)) 0 z1 z0 z2) := by
  refine Lm.unique (tallboylaw18_ReplyRow.j3Llm x0 x1 x5 x6 x7 z1 z0 z2) ?_
  refine Lm.step rfl (f := fun k => tallboylaw18_ReplyRow.j3 (k + 1) x0 x1 x5 x6 x7 z1 z0 z2) (fun _ => rfl) ?_; simp only [tallboylaw18_ReplyRow.j3]
  repeat' first
    | with_reducible exact tallboylaw18_ReplyRow.l1Llm _ _ _ _ _ _ _ _ _ _
    | with_reducible exact Lm.const _
    | with_reducible refine Lm.bind ?_ (fun _ => ?_)
    | with_reducible refine Lm.ite ?_ ?_
    | refine Lm.bind ?_ (fun _ => ?_)
    | refine Lm.ite ?_ ?_
theorem tallboylaw18_ReplyRow.l1L_eq (x0 : Int) (x1 : List (S25)) (x5 : ByteArray) (x6 : List (S25)) (x7 : Int) (x9 : List (S47)) (x10 : Int) (z1 : Int) (z0 : List (S47)) (z2 : Int) : tallboylaw18_ReplyRow.l1L x0 x1 x5 x6 x7 x9 x10 z1 z0 z2 = (if x10 < (z0.length : Int) then (tallboylaw18_ReplyRow.j5L x0 x1 x5 x6 x7 x9 x10 (z1 == 1) z1 z0 z2) else (tallboylaw18_ReplyRow.j5L x0 x1 x5 x6 x7 x9 x10 false z1 z0 z2)) := by
  refine Lm.unique (tallboylaw18_ReplyRow.l1Llm x0 x1 x5 x6 x7 x9 x10 z1 z0 z2) ?_
  refine Lm.step rfl (f := fun k => tallboylaw18_ReplyRow.l1 (k + 1) x0 x1 x5 x6 x7 x9 x10 z1 z0 z2) (fun _ => rfl) ?_; simp only [tallboylaw18_ReplyRow.l1]
  repeat' first
    | with_reducible exact tallboylaw18_ReplyRow.j5Llm _ _ _ _ _ _ _ _ _ _ _
    | with_reducible exact Lm.const _
    | with_reducible refine Lm.bind ?_ (fun _ => ?_)
    | with_reducible refine Lm.ite ?_ ?_
    | refine Lm.bind ?_ (fun _ => ?_)
    | refine Lm.ite ?_ ?_
theorem tallboylaw18_ReplyRow.j5L_eq (x0 : Int) (x1 : List (S25)) (x5 : ByteArray) (x6 : List (S25)) (x7 : Int) (x9 : List (S47)) (x10 : Int) (x63 : Bool) (z1 : Int) (z0 : List (S47)) (z2 : Int) : tallboylaw18_ReplyRow.j5L x0 x1 x5 x6 x7 x9 x10 x63 z1 z0 z2 = (if x63 = true then (if 0 ≤ x10 then (if x10 < (z0.length : Int) then ((tallboyref04_Key.L ((rd_T47 z0 x10).f0)).bind fun t366 => (if t366 = true then (tallboylaw18_ReplyRow.j6L x0 x1 x5 x6 x7 x9 x10 (decide ((((rd_T47 z0 x10).f2).size : Int) > 2000)) z1 z0 z2 ((rd_T47 z0 x10).f0) ((rd_T47 z0 x10).f1) ((rd_T47 z0 x10).f2) ((rd_T47 z0 x10).f3)) else (tallboylaw18_ReplyRow.j6L x0 x1 x5 x6 x7 x9 x10 true z1 z0 z2 ((rd_T47 z0 x10).f0) ((rd_T47 z0 x10).f1) ((rd_T47 z0 x10).f2) ((rd_T47 z0 x10).f3)))) else (none)) else (none)) else (if x6.length < 3518437208883 then ((tallboylaw18_To.L z1 x9 z2).bind fun bt377 => ((reply_Text.f x0 bt377.1 bt377.2.1 bt377.2.2).bind fun t382 => (if x5.size + t382.size ≤ 9223372036854775807 then (tallboylaw18_ReplyRow.l0L x0 x1 (x5 ++ t382) (x6 ++ [(⟨z1, x9, z2⟩ : S25)]) (wrap64 (x7 + 1))) else (none)))) else (none))) := by
  refine Lm.unique (tallboylaw18_ReplyRow.j5Llm x0 x1 x5 x6 x7 x9 x10 x63 z1 z0 z2) ?_
  refine Lm.step rfl (f := fun k => tallboylaw18_ReplyRow.j5 (k + 1) x0 x1 x5 x6 x7 x9 x10 x63 z1 z0 z2) (fun _ => rfl) ?_; simp only [tallboylaw18_ReplyRow.j5]
  repeat' first
    | with_reducible exact tallboylaw18_ReplyRow.l0Llm _ _ _ _ _
    | with_reducible exact tallboylaw18_ReplyRow.j6Llm _ _ _ _ _ _ _ _ _ _ _ _ _ _ _
    | with_reducible exact tallboyref04_Key.Llm _
    | with_reducible exact tallboylaw18_To.Llm _ _ _
    | with_reducible exact Lm.const _
    | with_reducible refine Lm.bind ?_ (fun _ => ?_)
    | with_reducible refine Lm.ite ?_ ?_
    | refine Lm.bind ?_ (fun _ => ?_)
    | refine Lm.ite ?_ ?_
theorem tallboylaw18_ReplyRow.j6L_eq (x0 : Int) (x1 : List (S25)) (x5 : ByteArray) (x6 : List (S25)) (x7 : Int) (x9 : List (S47)) (x10 : Int) (x80 : Bool) (z1 : Int) (z0 : List (S47)) (z2 : Int) (z3 : ByteArray) (z4 : Int) (z5 : ByteArray) (x366003 : Int) : tallboylaw18_ReplyRow.j6L x0 x1 x5 x6 x7 x9 x10 x80 z1 z0 z2 z3 z4 z5 x366003 = (if x80 = true then (some true) else ((verb_Shows.f x0).bind fun t367 => (if t367 = true then (if x9.length < 2932031007402 then (tallboylaw18_ReplyRow.l1L x0 x1 x5 x6 x7 (x9 ++ [(⟨z3, z4, z5, x366003⟩ : S47)]) (wrap64 (x10 + 1)) z1 z0 z2) else (none)) else (if x9.length < 2932031007402 then (tallboylaw18_ReplyRow.l1L x0 x1 x5 x6 x7 (x9 ++ [(⟨z3, z4, z5, 0⟩ : S47)]) (wrap64 (x10 + 1)) z1 z0 z2) else (none))))) := by
  refine Lm.unique (tallboylaw18_ReplyRow.j6Llm x0 x1 x5 x6 x7 x9 x10 x80 z1 z0 z2 z3 z4 z5 x366003) ?_
  refine Lm.step rfl (f := fun k => tallboylaw18_ReplyRow.j6 (k + 1) x0 x1 x5 x6 x7 x9 x10 x80 z1 z0 z2 z3 z4 z5 x366003) (fun _ => rfl) ?_; simp only [tallboylaw18_ReplyRow.j6]
  repeat' first
    | with_reducible exact tallboylaw18_ReplyRow.l1Llm _ _ _ _ _ _ _ _ _ _
    | with_reducible exact Lm.const _
    | with_reducible refine Lm.bind ?_ (fun _ => ?_)
    | with_reducible refine Lm.ite ?_ ?_
    | refine Lm.bind ?_ (fun _ => ?_)
    | refine Lm.ite ?_ ?_
theorem tallboylaw18_ReplyRow.l2L_eq (x0 : Int) (x5 : ByteArray) (x6 : List (S25)) (x12 : Int) : tallboylaw18_ReplyRow.l2L x0 x5 x6 x12 = (if x12 < (x6.length : Int) then ((reply_Read.L x0 x5).bind fun bt383 => (if bt383.2.2.2.2 = 0 then (if bt383.2.2.2.1 < 1 then (tallboylaw18_ReplyRow.j8L x0 x5 x6 x12 bt383.2.2.2.1 true) else (if bt383.2.2.2.1 > (x5.size : Int) then (tallboylaw18_ReplyRow.j8L x0 x5 x6 x12 bt383.2.2.2.1 true) else ((tallboylaw16_From.L bt383.1 bt383.2.1 bt383.2.2.1).bind fun bt391 => (if 0 ≤ x12 then ((tallboyref15_Same.L bt391.1 bt391.2.1 bt391.2.2 ((rd_T25 x6 x12).f0) ((rd_T25 x6 x12).f1) ((rd_T25 x6 x12).f2)).bind fun t397 => (tallboylaw18_ReplyRow.j8L x0 x5 x6 x12 bt383.2.2.2.1 (!t397))) else (none))))) else (tallboylaw18_ReplyRow.j8L x0 x5 x6 x12 bt383.2.2.2.1 true))) else (some (x5.toList == ([] : List UInt8)))) := by
  refine Lm.unique (tallboylaw18_ReplyRow.l2Llm x0 x5 x6 x12) ?_
  refine Lm.step rfl (f := fun k => tallboylaw18_ReplyRow.l2 (k + 1) x0 x5 x6 x12) (fun _ => rfl) ?_; simp only [tallboylaw18_ReplyRow.l2]
  repeat' first
    | with_reducible exact tallboylaw18_ReplyRow.j8Llm _ _ _ _ _ _
    | with_reducible exact tallboylaw16_From.Llm _ _ _
    | with_reducible exact tallboyref15_Same.Llm _ _ _ _ _ _
    | with_reducible exact reply_Read.Llm _ _
    | with_reducible exact Lm.const _
    | with_reducible refine Lm.bind ?_ (fun _ => ?_)
    | with_reducible refine Lm.ite ?_ ?_
    | refine Lm.bind ?_ (fun _ => ?_)
    | refine Lm.ite ?_ ?_
theorem tallboylaw18_ReplyRow.j8L_eq (x0 : Int) (x5 : ByteArray) (x6 : List (S25)) (x12 : Int) (x14 : Int) (x135 : Bool) : tallboylaw18_ReplyRow.j8L x0 x5 x6 x12 x14 x135 = (if x135 = true then (none) else (if 0 ≤ x14 then (if x14 ≤ (x5.size : Int) then (tallboylaw18_ReplyRow.l2L x0 (x5.extract (x14 : Int).toNat x5.size) x6 (wrap64 (x12 + 1))) else (none)) else (none))) := by
  refine Lm.unique (tallboylaw18_ReplyRow.j8Llm x0 x5 x6 x12 x14 x135) ?_
  refine Lm.step rfl (f := fun k => tallboylaw18_ReplyRow.j8 (k + 1) x0 x5 x6 x12 x14 x135) (fun _ => rfl) ?_; simp only [tallboylaw18_ReplyRow.j8]
  repeat' first
    | with_reducible exact tallboylaw18_ReplyRow.l2Llm _ _ _ _
    | with_reducible exact Lm.const _
    | with_reducible refine Lm.bind ?_ (fun _ => ?_)
    | with_reducible refine Lm.ite ?_ ?_
    | refine Lm.bind ?_ (fun _ => ?_)
    | refine Lm.ite ?_ ?_
theorem tallboylaw18_ReplyRow.L_eq (a0 : Int) (l1 : List (S25)) : tallboylaw18_ReplyRow.L a0 l1 = ((tallboylaw18_works.L).bind fun t360 => (if t360 = true then (tallboylaw18_ReplyRow.l0L a0 l1 (⟨#[]⟩ : ByteArray) ([] : List (S25)) 0) else (none))) := by
  refine Lm.unique (tallboylaw18_ReplyRow.Llm a0 l1) ?_
  unfold tallboylaw18_ReplyRow.f
  repeat' first
    | with_reducible exact tallboylaw18_ReplyRow.l0Llm _ _ _ _ _
    | with_reducible exact tallboylaw18_works.Llm
    | with_reducible exact Lm.const _
    | with_reducible refine Lm.bind ?_ (fun _ => ?_)
    | with_reducible refine Lm.ite ?_ ?_
    | refine Lm.bind ?_ (fun _ => ?_)
    | refine Lm.ite ?_ ?_
end Go.Proofs.YtdgpagocccabdaaDoor.P
