/- The limits of the functions with rounds, and the equations that reckon them. Plain Lean; no condition. Written by a program. -/
import Derived.Test.YtdgpagocccabdaaDoorLim
import Derived.Test.YtdgpagocccabdaaDoorLmD
import Derived.Test.YtdgpagocccabdaaDoorPx10
import Derived.Test.YtdgpagocccabdaaDoorPx12
import Derived.Test.YtdgpagocccabdaaDoorPx2
import Derived.Test.YtdgpagocccabdaaDoorPx9
namespace Go.Proofs.YtdgpagocccabdaaDoor.P
open Go.RowKit Go.Proofs.YtdgpagocccabdaaDoor.Lim Go.Proofs.YtdgpagocccabdaaDoorW.PrintWords Go.Proofs.YtdgpagocccabdaaDoorW.PrintLast Go.Proofs.YtdgpagocccabdaaDoorW.PrintMore
set_option linter.unusedVariables false

noncomputable def tallboyref18_Text.l0L (x0 : Int) (x5 : ByteArray) (x6 : Int) (z1 : Int) (z0 : List (S47)) (z2 : Int) : Option (ByteArray) := lim (fun k => tallboyref18_Text.l0 k x0 x5 x6 z1 z0 z2)
theorem tallboyref18_Text.l0Llm (x0 : Int) (x5 : ByteArray) (x6 : Int) (z1 : Int) (z0 : List (S47)) (z2 : Int) : Lm (fun k => tallboyref18_Text.l0 k x0 x5 x6 z1 z0 z2) (tallboyref18_Text.l0L x0 x5 x6 z1 z0 z2) := lim_spec (fun k => (tallboyref18_Text.mono_l k) _ _ _ _ _ _)
noncomputable def tallboyref18_Text.L (a0 : Int) (a1_0 : Int) (l1_1 : List (S47)) (a1_2 : Int) : Option (ByteArray) := lim (fun k => tallboyref18_Text.f k a0 a1_0 l1_1 a1_2)
theorem tallboyref18_Text.Llm (a0 : Int) (a1_0 : Int) (l1_1 : List (S47)) (a1_2 : Int) : Lm (fun k => tallboyref18_Text.f k a0 a1_0 l1_1 a1_2) (tallboyref18_Text.L a0 a1_0 l1_1 a1_2) := lim_spec (fun k => tallboyref18_Text.mono a0 a1_0 l1_1 a1_2 k)
noncomputable def tallboylaw18_ReplyWrites.L (a0 : Int) (a1_0 : Int) (l1_1 : List (S47)) (a1_2 : Int) (a2 : Int) : Option (Bool) := lim (fun k => tallboylaw18_ReplyWrites.f k a0 a1_0 l1_1 a1_2 a2)
theorem tallboylaw18_ReplyWrites.Llm (a0 : Int) (a1_0 : Int) (l1_1 : List (S47)) (a1_2 : Int) (a2 : Int) : Lm (fun k => tallboylaw18_ReplyWrites.f k a0 a1_0 l1_1 a1_2 a2) (tallboylaw18_ReplyWrites.L a0 a1_0 l1_1 a1_2 a2) := lim_spec (fun k => tallboylaw18_ReplyWrites.mono a0 a1_0 l1_1 a1_2 a2 k)
noncomputable def tallboylaw18_Great.l0L (x3 : Int) (x4 : Int) (x102000 : Int) (z0 : List (S47)) (x102002 : Int) : Option (Bool) := lim (fun k => tallboylaw18_Great.l0 k x3 x4 x102000 z0 x102002)
theorem tallboylaw18_Great.l0Llm (x3 : Int) (x4 : Int) (x102000 : Int) (z0 : List (S47)) (x102002 : Int) : Lm (fun k => tallboylaw18_Great.l0 k x3 x4 x102000 z0 x102002) (tallboylaw18_Great.l0L x3 x4 x102000 z0 x102002) := lim_spec (fun k => (tallboylaw18_Great.mono_l k) _ _ _ _ _)
noncomputable def tallboylaw18_Great.L (a0_0 : Int) (l0_1 : List (S47)) (a0_2 : Int) : Option (Bool) := lim (fun k => tallboylaw18_Great.f k a0_0 l0_1 a0_2)
theorem tallboylaw18_Great.Llm (a0_0 : Int) (l0_1 : List (S47)) (a0_2 : Int) : Lm (fun k => tallboylaw18_Great.f k a0_0 l0_1 a0_2) (tallboylaw18_Great.L a0_0 l0_1 a0_2) := lim_spec (fun k => tallboylaw18_Great.mono a0_0 l0_1 a0_2 k)
noncomputable def tallboylaw18_To.l0L (x4 : Int) (x106000 : Int) (z2 : List (S47)) (x106002 : Int) (z5 : Int) (z4 : List (S60)) (z6 : Int) : Option (Int × (List (S60)) × Int) := lim (fun k => tallboylaw18_To.l0 k x4 x106000 z2 x106002 z5 z4 z6)
theorem tallboylaw18_To.l0Llm (x4 : Int) (x106000 : Int) (z2 : List (S47)) (x106002 : Int) (z5 : Int) (z4 : List (S60)) (z6 : Int) : Lm (fun k => tallboylaw18_To.l0 k x4 x106000 z2 x106002 z5 z4 z6) (tallboylaw18_To.l0L x4 x106000 z2 x106002 z5 z4 z6) := lim_spec (fun k => (tallboylaw18_To.mono_l k) _ _ _ _ _ _ _)
noncomputable def tallboylaw18_To.L (a0_0 : Int) (l0_1 : List (S47)) (a0_2 : Int) : Option (Int × (List (S60)) × Int) := lim (fun k => tallboylaw18_To.f k a0_0 l0_1 a0_2)
theorem tallboylaw18_To.Llm (a0_0 : Int) (l0_1 : List (S47)) (a0_2 : Int) : Lm (fun k => tallboylaw18_To.f k a0_0 l0_1 a0_2) (tallboylaw18_To.L a0_0 l0_1 a0_2) := lim_spec (fun k => tallboylaw18_To.mono a0_0 l0_1 a0_2 k)
theorem tallboyref18_Text.l0L_eq (x0 : Int) (x5 : ByteArray) (x6 : Int) (z1 : Int) (z0 : List (S47)) (z2 : Int) : tallboyref18_Text.l0L x0 x5 x6 z1 z0 z2 = (if x6 < (z0.length : Int) then (if 0 ≤ x6 then (if x5.size + 6 ≤ 9223372036854775807 then (if (x5 ++ (⟨#[86, 65, 76, 85, 69, 32]⟩ : ByteArray)).size + ((rd_T47 z0 x6).f0).size ≤ 9223372036854775807 then (if ((x5 ++ (⟨#[86, 65, 76, 85, 69, 32]⟩ : ByteArray)) ++ ((rd_T47 z0 x6).f0)).size + 1 ≤ 9223372036854775807 then ((tallboyref02_Text.L (IntKind.u64.wrap ((rd_T47 z0 x6).f1))).bind fun t122 => (if (((x5 ++ (⟨#[86, 65, 76, 85, 69, 32]⟩ : ByteArray)) ++ ((rd_T47 z0 x6).f0)) ++ (⟨#[32]⟩ : ByteArray)).size + t122.size ≤ 9223372036854775807 then (if ((((x5 ++ (⟨#[86, 65, 76, 85, 69, 32]⟩ : ByteArray)) ++ ((rd_T47 z0 x6).f0)) ++ (⟨#[32]⟩ : ByteArray)) ++ t122).size + 1 ≤ 9223372036854775807 then ((tallboyref02_Text.L (IntKind.u64.wrap ((((rd_T47 z0 x6).f2).size : Int)))).bind fun t123 => (if (((((x5 ++ (⟨#[86, 65, 76, 85, 69, 32]⟩ : ByteArray)) ++ ((rd_T47 z0 x6).f0)) ++ (⟨#[32]⟩ : ByteArray)) ++ t122) ++ (⟨#[32]⟩ : ByteArray)).size + t123.size ≤ 9223372036854775807 then ((tallboyref15_Shows.f x0).bind fun t124 => (if t124 = true then (if ((((((x5 ++ (⟨#[86, 65, 76, 85, 69, 32]⟩ : ByteArray)) ++ ((rd_T47 z0 x6).f0)) ++ (⟨#[32]⟩ : ByteArray)) ++ t122) ++ (⟨#[32]⟩ : ByteArray)) ++ t123).size + 1 ≤ 9223372036854775807 then ((tallboyref02_Text.L ((rd_T47 z0 x6).f3)).bind fun t125 => (if (((((((x5 ++ (⟨#[86, 65, 76, 85, 69, 32]⟩ : ByteArray)) ++ ((rd_T47 z0 x6).f0)) ++ (⟨#[32]⟩ : ByteArray)) ++ t122) ++ (⟨#[32]⟩ : ByteArray)) ++ t123) ++ (⟨#[32]⟩ : ByteArray)).size + t125.size ≤ 9223372036854775807 then (if ((((((((x5 ++ (⟨#[86, 65, 76, 85, 69, 32]⟩ : ByteArray)) ++ ((rd_T47 z0 x6).f0)) ++ (⟨#[32]⟩ : ByteArray)) ++ t122) ++ (⟨#[32]⟩ : ByteArray)) ++ t123) ++ (⟨#[32]⟩ : ByteArray)) ++ t125).size + 2 ≤ 9223372036854775807 then (if (((((((((x5 ++ (⟨#[86, 65, 76, 85, 69, 32]⟩ : ByteArray)) ++ ((rd_T47 z0 x6).f0)) ++ (⟨#[32]⟩ : ByteArray)) ++ t122) ++ (⟨#[32]⟩ : ByteArray)) ++ t123) ++ (⟨#[32]⟩ : ByteArray)) ++ t125) ++ (⟨#[13, 10]⟩ : ByteArray)).size + ((rd_T47 z0 x6).f2).size ≤ 9223372036854775807 then (if ((((((((((x5 ++ (⟨#[86, 65, 76, 85, 69, 32]⟩ : ByteArray)) ++ ((rd_T47 z0 x6).f0)) ++ (⟨#[32]⟩ : ByteArray)) ++ t122) ++ (⟨#[32]⟩ : ByteArray)) ++ t123) ++ (⟨#[32]⟩ : ByteArray)) ++ t125) ++ (⟨#[13, 10]⟩ : ByteArray)) ++ ((rd_T47 z0 x6).f2)).size + 2 ≤ 9223372036854775807 then (tallboyref18_Text.l0L x0 (((((((((((x5 ++ (⟨#[86, 65, 76, 85, 69, 32]⟩ : ByteArray)) ++ ((rd_T47 z0 x6).f0)) ++ (⟨#[32]⟩ : ByteArray)) ++ t122) ++ (⟨#[32]⟩ : ByteArray)) ++ t123) ++ (⟨#[32]⟩ : ByteArray)) ++ t125) ++ (⟨#[13, 10]⟩ : ByteArray)) ++ ((rd_T47 z0 x6).f2)) ++ (⟨#[13, 10]⟩ : ByteArray)) (wrap64 (x6 + 1)) z1 z0 z2) else (none)) else (none)) else (none)) else (none))) else (none)) else (if ((((((x5 ++ (⟨#[86, 65, 76, 85, 69, 32]⟩ : ByteArray)) ++ ((rd_T47 z0 x6).f0)) ++ (⟨#[32]⟩ : ByteArray)) ++ t122) ++ (⟨#[32]⟩ : ByteArray)) ++ t123).size + 2 ≤ 9223372036854775807 then (if (((((((x5 ++ (⟨#[86, 65, 76, 85, 69, 32]⟩ : ByteArray)) ++ ((rd_T47 z0 x6).f0)) ++ (⟨#[32]⟩ : ByteArray)) ++ t122) ++ (⟨#[32]⟩ : ByteArray)) ++ t123) ++ (⟨#[13, 10]⟩ : ByteArray)).size + ((rd_T47 z0 x6).f2).size ≤ 9223372036854775807 then (if ((((((((x5 ++ (⟨#[86, 65, 76, 85, 69, 32]⟩ : ByteArray)) ++ ((rd_T47 z0 x6).f0)) ++ (⟨#[32]⟩ : ByteArray)) ++ t122) ++ (⟨#[32]⟩ : ByteArray)) ++ t123) ++ (⟨#[13, 10]⟩ : ByteArray)) ++ ((rd_T47 z0 x6).f2)).size + 2 ≤ 9223372036854775807 then (tallboyref18_Text.l0L x0 (((((((((x5 ++ (⟨#[86, 65, 76, 85, 69, 32]⟩ : ByteArray)) ++ ((rd_T47 z0 x6).f0)) ++ (⟨#[32]⟩ : ByteArray)) ++ t122) ++ (⟨#[32]⟩ : ByteArray)) ++ t123) ++ (⟨#[13, 10]⟩ : ByteArray)) ++ ((rd_T47 z0 x6).f2)) ++ (⟨#[13, 10]⟩ : ByteArray)) (wrap64 (x6 + 1)) z1 z0 z2) else (none)) else (none)) else (none)))) else (none))) else (none)) else (none))) else (none)) else (none)) else (none)) else (none)) else (if x5.size + 5 ≤ 9223372036854775807 then (some (x5 ++ (⟨#[69, 78, 68, 13, 10]⟩ : ByteArray))) else (none))) := by
  refine Lm.unique (tallboyref18_Text.l0Llm x0 x5 x6 z1 z0 z2) ?_
  refine Lm.step rfl (f := fun k => tallboyref18_Text.l0 (k + 1) x0 x5 x6 z1 z0 z2) (fun _ => rfl) ?_; simp only [tallboyref18_Text.l0]
  repeat' first
    | with_reducible exact tallboyref18_Text.l0Llm _ _ _ _ _ _
    | with_reducible exact tallboyref02_Text.Llm _
    | with_reducible exact Lm.const _
    | with_reducible refine Lm.bind ?_ (fun _ => ?_)
    | with_reducible refine Lm.ite ?_ ?_
    | refine Lm.bind ?_ (fun _ => ?_)
    | refine Lm.ite ?_ ?_
theorem tallboyref18_Text.L_eq (a0 : Int) (a1_0 : Int) (l1_1 : List (S47)) (a1_2 : Int) : tallboyref18_Text.L a0 a1_0 l1_1 a1_2 = (if a1_0 = 1 then (tallboyref18_Text.l0L a0 (⟨#[]⟩ : ByteArray) 0 a1_0 l1_1 a1_2) else (if a1_0 = 7 then ((tallboyref02_Text.L a1_2).bind fun t126 => (if t126.size + 2 ≤ 9223372036854775807 then (some (t126 ++ (⟨#[13, 10]⟩ : ByteArray))) else (none))) else ((tallboyref18_plain.f a0 a1_0).bind fun t127 => (if t127.toList = ([] : List UInt8) then (some (⟨#[]⟩ : ByteArray)) else (if t127.size + 2 ≤ 9223372036854775807 then (some (t127 ++ (⟨#[13, 10]⟩ : ByteArray))) else (none)))))) := by
  refine Lm.unique (tallboyref18_Text.Llm a0 a1_0 l1_1 a1_2) ?_
  unfold tallboyref18_Text.f
  repeat' first
    | with_reducible exact tallboyref18_Text.l0Llm _ _ _ _ _ _
    | with_reducible exact tallboyref02_Text.Llm _
    | with_reducible exact Lm.const _
    | with_reducible refine Lm.bind ?_ (fun _ => ?_)
    | with_reducible refine Lm.ite ?_ ?_
    | refine Lm.bind ?_ (fun _ => ?_)
    | refine Lm.ite ?_ ?_
theorem tallboylaw18_ReplyWrites.L_eq (a0 : Int) (a1_0 : Int) (l1_1 : List (S47)) (a1_2 : Int) (a2 : Int) : tallboylaw18_ReplyWrites.L a0 a1_0 l1_1 a1_2 a2 = ((tallboylaw18_Great.L a1_0 l1_1 a1_2).bind fun t129 => (if t129 = true then (some true) else ((tallboylaw18_To.L a1_0 l1_1 a1_2).bind fun bt130 => ((reply_Text.f a0 bt130.1 bt130.2.1 bt130.2.2).bind fun t135 => ((tallboyref18_Text.L a0 a1_0 l1_1 a1_2).bind fun t136 => (if t135.toList = t136.toList then ((reply_Complaint.f a2).bind fun t137 => ((tallboyref18_Complaint.f a2).bind fun t138 => (some (t137.toList == t138.toList)))) else (none))))))) := by
  refine Lm.unique (tallboylaw18_ReplyWrites.Llm a0 a1_0 l1_1 a1_2 a2) ?_
  unfold tallboylaw18_ReplyWrites.f
  repeat' first
    | with_reducible exact tallboylaw18_Great.Llm _ _ _
    | with_reducible exact tallboyref18_Text.Llm _ _ _ _
    | with_reducible exact tallboylaw18_To.Llm _ _ _
    | with_reducible exact Lm.const _
    | with_reducible refine Lm.bind ?_ (fun _ => ?_)
    | with_reducible refine Lm.ite ?_ ?_
    | refine Lm.bind ?_ (fun _ => ?_)
    | refine Lm.ite ?_ ?_
theorem tallboylaw18_Great.l0L_eq (x3 : Int) (x4 : Int) (x102000 : Int) (z0 : List (S47)) (x102002 : Int) : tallboylaw18_Great.l0L x3 x4 x102000 z0 x102002 = (if x4 < (z0.length : Int) then (if x3 < 20000 then (if 0 ≤ x4 then (tallboylaw18_Great.l0L (wrap64 ((wrap64 ((wrap64 (x3 + 1)) + (((rd_T47 z0 x4).f0).size : Int))) + (((rd_T47 z0 x4).f2).size : Int))) (wrap64 (x4 + 1)) x102000 z0 x102002) else (none)) else (some (decide (x3 ≥ 20000)))) else (some (decide (x3 ≥ 20000)))) := by
  refine Lm.unique (tallboylaw18_Great.l0Llm x3 x4 x102000 z0 x102002) ?_
  refine Lm.step rfl (f := fun k => tallboylaw18_Great.l0 (k + 1) x3 x4 x102000 z0 x102002) (fun _ => rfl) ?_; simp only [tallboylaw18_Great.l0]
  repeat' first
    | with_reducible exact tallboylaw18_Great.l0Llm _ _ _ _ _
    | with_reducible exact Lm.const _
    | with_reducible refine Lm.bind ?_ (fun _ => ?_)
    | with_reducible refine Lm.ite ?_ ?_
    | refine Lm.bind ?_ (fun _ => ?_)
    | refine Lm.ite ?_ ?_
theorem tallboylaw18_Great.L_eq (a0_0 : Int) (l0_1 : List (S47)) (a0_2 : Int) : tallboylaw18_Great.L a0_0 l0_1 a0_2 = (tallboylaw18_Great.l0L 0 0 a0_0 l0_1 a0_2) := by
  refine Lm.unique (tallboylaw18_Great.Llm a0_0 l0_1 a0_2) ?_
  unfold tallboylaw18_Great.f
  repeat' first
    | with_reducible exact tallboylaw18_Great.l0Llm _ _ _ _ _
    | with_reducible exact Lm.const _
    | with_reducible refine Lm.bind ?_ (fun _ => ?_)
    | with_reducible refine Lm.ite ?_ ?_
    | refine Lm.bind ?_ (fun _ => ?_)
    | refine Lm.ite ?_ ?_
theorem tallboylaw18_To.l0L_eq (x4 : Int) (x106000 : Int) (z2 : List (S47)) (x106002 : Int) (z5 : Int) (z4 : List (S60)) (z6 : Int) : tallboylaw18_To.l0L x4 x106000 z2 x106002 z5 z4 z6 = (if x4 < (z2.length : Int) then (if 0 ≤ x4 then (if z4.length < 2932031007402 then (tallboylaw18_To.l0L (wrap64 (x4 + 1)) x106000 z2 x106002 z5 (z4 ++ [(⟨(rd_T47 z2 x4).f0, (rd_T47 z2 x4).f1, (rd_T47 z2 x4).f2, (rd_T47 z2 x4).f3⟩ : S60)]) z6) else (none)) else (none)) else (some (z5, z4, z6))) := by
  refine Lm.unique (tallboylaw18_To.l0Llm x4 x106000 z2 x106002 z5 z4 z6) ?_
  refine Lm.step rfl (f := fun k => tallboylaw18_To.l0 (k + 1) x4 x106000 z2 x106002 z5 z4 z6) (fun _ => rfl) ?_; simp only [tallboylaw18_To.l0]
  repeat' first
    | with_reducible exact tallboylaw18_To.l0Llm _ _ _ _ _ _ _
    | with_reducible exact Lm.const _
    | with_reducible refine Lm.bind ?_ (fun _ => ?_)
    | with_reducible refine Lm.ite ?_ ?_
    | refine Lm.bind ?_ (fun _ => ?_)
    | refine Lm.ite ?_ ?_
theorem tallboylaw18_To.L_eq (a0_0 : Int) (l0_1 : List (S47)) (a0_2 : Int) : tallboylaw18_To.L a0_0 l0_1 a0_2 = (tallboylaw18_To.l0L 0 a0_0 l0_1 a0_2 a0_0 ([] : List (S60)) a0_2) := by
  refine Lm.unique (tallboylaw18_To.Llm a0_0 l0_1 a0_2) ?_
  unfold tallboylaw18_To.f
  repeat' first
    | with_reducible exact tallboylaw18_To.l0Llm _ _ _ _ _ _ _
    | with_reducible exact Lm.const _
    | with_reducible refine Lm.bind ?_ (fun _ => ?_)
    | with_reducible refine Lm.ite ?_ ?_
    | refine Lm.bind ?_ (fun _ => ?_)
    | refine Lm.ite ?_ ?_
end Go.Proofs.YtdgpagocccabdaaDoor.P
