/- The limits of the functions with rounds, and the equations that reckon them. Plain Lean; no condition. Written by a program. -/
import Derived.Test.YtdgpagocccabdaaDoorLim
import Derived.Test.YtdgpagocccabdaaDoorPx10
import Derived.Test.YtdgpagocccabdaaDoorPx25
import Derived.Test.YtdgpagocccabdaaDoorLm1
import Derived.Test.YtdgpagocccabdaaDoorPx23
import Derived.Test.YtdgpagocccabdaaDoorPx24
import Derived.Test.YtdgpagocccabdaaDoorPx0
import Derived.Test.YtdgpagocccabdaaDoorShort
import Derived.Test.YtdgpagocccabdaaDoorPx29
namespace Go.Proofs.YtdgpagocccabdaaDoor.P
open Go.RowKit Go.Proofs.YtdgpagocccabdaaDoor.Lim Go.Proofs.YtdgpagocccabdaaDoorW.PrintWords Go.Proofs.YtdgpagocccabdaaDoorW.PrintLast Go.Proofs.YtdgpagocccabdaaDoorW.PrintMore
set_option linter.unusedVariables false

noncomputable def reply_hit.j0L (x0 : Int) (x1 : ByteArray) (x7 : ByteArray) (x30 : Bool) : Option (ByteArray × Int × ByteArray × Int × ByteArray × Bool) := lim (fun k => reply_hit.j0 k x0 x1 x7 x30)
theorem reply_hit.j0Llm (x0 : Int) (x1 : ByteArray) (x7 : ByteArray) (x30 : Bool) : Lm (fun k => reply_hit.j0 k x0 x1 x7 x30) (reply_hit.j0L x0 x1 x7 x30) := lim_spec (fun k => (reply_hit.mono_l k).1 _ _ _ _)
noncomputable def reply_hit.j1L (x1 : ByteArray) (x9 : List ByteArray) : Option (ByteArray × Int × ByteArray × Int × ByteArray × Bool) := lim (fun k => reply_hit.j1 k x1 x9)
theorem reply_hit.j1Llm (x1 : ByteArray) (x9 : List ByteArray) : Lm (fun k => reply_hit.j1 k x1 x9) (reply_hit.j1L x1 x9) := lim_spec (fun k => (reply_hit.mono_l k).2.1 _ _)
noncomputable def reply_hit.j2L (x1 : ByteArray) (x9 : List ByteArray) (x55 : Bool) : Option (ByteArray × Int × ByteArray × Int × ByteArray × Bool) := lim (fun k => reply_hit.j2 k x1 x9 x55)
theorem reply_hit.j2Llm (x1 : ByteArray) (x9 : List ByteArray) (x55 : Bool) : Lm (fun k => reply_hit.j2 k x1 x9 x55) (reply_hit.j2L x1 x9 x55) := lim_spec (fun k => (reply_hit.mono_l k).2.2.1 _ _ _)
noncomputable def reply_hit.j3L (x1 : ByteArray) (x9 : List ByteArray) (x10 : Int) (x12 : Int) (x14 : Int) (x94 : Bool) : Option (ByteArray × Int × ByteArray × Int × ByteArray × Bool) := lim (fun k => reply_hit.j3 k x1 x9 x10 x12 x14 x94)
theorem reply_hit.j3Llm (x1 : ByteArray) (x9 : List ByteArray) (x10 : Int) (x12 : Int) (x14 : Int) (x94 : Bool) : Lm (fun k => reply_hit.j3 k x1 x9 x10 x12 x14 x94) (reply_hit.j3L x1 x9 x10 x12 x14 x94) := lim_spec (fun k => (reply_hit.mono_l k).2.2.2 _ _ _ _ _ _)
noncomputable def reply_hit.L (a0 : Int) (a1 : ByteArray) : Option (ByteArray × Int × ByteArray × Int × ByteArray × Bool) := lim (fun k => reply_hit.f k a0 a1)
theorem reply_hit.Llm (a0 : Int) (a1 : ByteArray) : Lm (fun k => reply_hit.f k a0 a1) (reply_hit.L a0 a1) := lim_spec (fun k => reply_hit.mono a0 a1 k)
noncomputable def reply_Read.L (a0 : Int) (a1 : ByteArray) : Option (Int × List S60 × Int × Int × Int) := lim (fun k => reply_Read.f k a0 a1)
theorem reply_Read.Llm (a0 : Int) (a1 : ByteArray) : Lm (fun k => reply_Read.f k a0 a1) (reply_Read.L a0 a1) := lim_spec (fun k => reply_Read.mono a0 a1 k)
noncomputable def tallboyref15_Same.j0L (x26 : Bool) (z6 : Int) (z1 : List (S47)) (z7 : Int) (z8 : Int) (z2 : List (S47)) (z9 : Int) : Option (Bool) := lim (fun k => tallboyref15_Same.j0 k x26 z6 z1 z7 z8 z2 z9)
theorem tallboyref15_Same.j0Llm (x26 : Bool) (z6 : Int) (z1 : List (S47)) (z7 : Int) (z8 : Int) (z2 : List (S47)) (z9 : Int) : Lm (fun k => tallboyref15_Same.j0 k x26 z6 z1 z7 z8 z2 z9) (tallboyref15_Same.j0L x26 z6 z1 z7 z8 z2 z9) := lim_spec (fun k => (tallboyref15_Same.mono_l k).1 _ _ _ _ _ _ _)
noncomputable def tallboyref15_Same.l0L (x5 : Int) (z6 : Int) (z1 : List (S47)) (z7 : Int) (z8 : Int) (z2 : List (S47)) (z9 : Int) : Option (Bool) := lim (fun k => tallboyref15_Same.l0 k x5 z6 z1 z7 z8 z2 z9)
theorem tallboyref15_Same.l0Llm (x5 : Int) (z6 : Int) (z1 : List (S47)) (z7 : Int) (z8 : Int) (z2 : List (S47)) (z9 : Int) : Lm (fun k => tallboyref15_Same.l0 k x5 z6 z1 z7 z8 z2 z9) (tallboyref15_Same.l0L x5 z6 z1 z7 z8 z2 z9) := lim_spec (fun k => (tallboyref15_Same.mono_l k).2 _ _ _ _ _ _ _)
noncomputable def tallboyref15_Same.L (a0_0 : Int) (l0_1 : List (S47)) (a0_2 : Int) (a1_0 : Int) (l1_1 : List (S47)) (a1_2 : Int) : Option (Bool) := lim (fun k => tallboyref15_Same.f k a0_0 l0_1 a0_2 a1_0 l1_1 a1_2)
theorem tallboyref15_Same.Llm (a0_0 : Int) (l0_1 : List (S47)) (a0_2 : Int) (a1_0 : Int) (l1_1 : List (S47)) (a1_2 : Int) : Lm (fun k => tallboyref15_Same.f k a0_0 l0_1 a0_2 a1_0 l1_1 a1_2) (tallboyref15_Same.L a0_0 l0_1 a0_2 a1_0 l1_1 a1_2) := lim_spec (fun k => tallboyref15_Same.mono a0_0 l0_1 a0_2 a1_0 l1_1 a1_2 k)
noncomputable def tallboylaw16_From.l0L (x4 : Int) (x225000 : Int) (z4 : List (S60)) (x225002 : Int) (zb : Int) (za : List (S47)) (zc : Int) : Option (Int × (List (S47)) × Int) := lim (fun k => tallboylaw16_From.l0 k x4 x225000 z4 x225002 zb za zc)
theorem tallboylaw16_From.l0Llm (x4 : Int) (x225000 : Int) (z4 : List (S60)) (x225002 : Int) (zb : Int) (za : List (S47)) (zc : Int) : Lm (fun k => tallboylaw16_From.l0 k x4 x225000 z4 x225002 zb za zc) (tallboylaw16_From.l0L x4 x225000 z4 x225002 zb za zc) := lim_spec (fun k => (tallboylaw16_From.mono_l k) _ _ _ _ _ _ _)
noncomputable def tallboylaw16_From.L (a0_0 : Int) (l0_1 : List (S60)) (a0_2 : Int) : Option (Int × (List (S47)) × Int) := lim (fun k => tallboylaw16_From.f k a0_0 l0_1 a0_2)
theorem tallboylaw16_From.Llm (a0_0 : Int) (l0_1 : List (S60)) (a0_2 : Int) : Lm (fun k => tallboylaw16_From.f k a0_0 l0_1 a0_2) (tallboylaw16_From.L a0_0 l0_1 a0_2) := lim_spec (fun k => tallboylaw16_From.mono a0_0 l0_1 a0_2 k)
theorem reply_hit.j0L_eq (x0 : Int) (x1 : ByteArray) (x7 : ByteArray) (x30 : Bool) : reply_hit.j0L x0 x1 x7 x30 = (if x30 = true then (some ((⟨#[]⟩ : ByteArray), 0, (⟨#[]⟩ : ByteArray), 0, (⟨#[]⟩ : ByteArray), false)) else ((strings_Split.f x7 (⟨#[32]⟩ : ByteArray)).bind fun t147 => ((verb_Shows.f x0).bind fun t150 => (if t150 = true then (reply_hit.j1L x1 t147) else (if t147.length < 8796093022208 then (reply_hit.j1L x1 (t147 ++ [(⟨#[48]⟩ : ByteArray)])) else (none)))))) := by
  refine Lm.unique (reply_hit.j0Llm x0 x1 x7 x30) ?_
  refine Lm.step rfl (f := fun k => reply_hit.j0 (k + 1) x0 x1 x7 x30) (fun _ => rfl) ?_; simp only [reply_hit.j0]
  repeat' first
    | with_reducible exact reply_hit.j1Llm _ _
    | with_reducible exact Lm.const _
    | with_reducible refine Lm.bind ?_ (fun _ => ?_)
    | with_reducible refine Lm.ite ?_ ?_
    | refine Lm.bind ?_ (fun _ => ?_)
    | refine Lm.ite ?_ ?_
theorem reply_hit.j1L_eq (x1 : ByteArray) (x9 : List ByteArray) : reply_hit.j1L x1 x9 = (if (x9.length : Int) = 5 then (if 0 < (x9.length : Int) then (if (rdOf ByteArray.empty x9 0).toList = ([86, 65, 76, 85, 69] : List UInt8) then (if 1 < (x9.length : Int) then ((fnv_Key.L (rdOf ByteArray.empty x9 1)).bind fun t156 => (reply_hit.j2L x1 x9 (!t156))) else (none)) else (reply_hit.j2L x1 x9 true)) else (none)) else (reply_hit.j2L x1 x9 true)) := by
  refine Lm.unique (reply_hit.j1Llm x1 x9) ?_
  refine Lm.step rfl (f := fun k => reply_hit.j1 (k + 1) x1 x9) (fun _ => rfl) ?_; simp only [reply_hit.j1]
  repeat' first
    | with_reducible exact reply_hit.j2Llm _ _ _
    | with_reducible exact fnv_Key.Llm _
    | with_reducible exact Lm.const _
    | with_reducible refine Lm.bind ?_ (fun _ => ?_)
    | with_reducible refine Lm.ite ?_ ?_
    | refine Lm.bind ?_ (fun _ => ?_)
    | refine Lm.ite ?_ ?_
theorem reply_hit.j2L_eq (x1 : ByteArray) (x9 : List ByteArray) (x55 : Bool) : reply_hit.j2L x1 x9 x55 = (if x55 = true then (some ((⟨#[]⟩ : ByteArray), 0, (⟨#[]⟩ : ByteArray), 0, (⟨#[]⟩ : ByteArray), false)) else (if 2 < (x9.length : Int) then ((reply_number.f (rdOf ByteArray.empty x9 2) 4294967295).bind fun bt158 => (if 3 < (x9.length : Int) then ((reply_number.f (rdOf ByteArray.empty x9 3) 2000).bind fun bt161 => (if 4 < (x9.length : Int) then ((reply_number.f (rdOf ByteArray.empty x9 4) 18446744073709551615).bind fun bt164 => (if bt158.2 = true then (if bt161.2 = true then (if bt164.2 = true then (reply_hit.j3L x1 x9 bt158.1 bt161.1 bt164.1 (decide ((IntKind.u64.wrap ((x1.size : Int))) < bt161.1))) else (reply_hit.j3L x1 x9 bt158.1 bt161.1 bt164.1 true)) else (reply_hit.j3L x1 x9 bt158.1 bt161.1 bt164.1 true)) else (reply_hit.j3L x1 x9 bt158.1 bt161.1 bt164.1 true))) else (none))) else (none))) else (none))) := by
  refine Lm.unique (reply_hit.j2Llm x1 x9 x55) ?_
  refine Lm.step rfl (f := fun k => reply_hit.j2 (k + 1) x1 x9 x55) (fun _ => rfl) ?_; simp only [reply_hit.j2]
  repeat' first
    | with_reducible exact reply_hit.j3Llm _ _ _ _ _ _
    | with_reducible exact Lm.const _
    | with_reducible refine Lm.bind ?_ (fun _ => ?_)
    | with_reducible refine Lm.ite ?_ ?_
    | refine Lm.bind ?_ (fun _ => ?_)
    | refine Lm.ite ?_ ?_
theorem reply_hit.j3L_eq (x1 : ByteArray) (x9 : List ByteArray) (x10 : Int) (x12 : Int) (x14 : Int) (x94 : Bool) : reply_hit.j3L x1 x9 x10 x12 x14 x94 = (if x94 = true then (some ((⟨#[]⟩ : ByteArray), 0, (⟨#[]⟩ : ByteArray), 0, (⟨#[]⟩ : ByteArray), false)) else (if 1 < (x9.length : Int) then (if 0 ≤ x12 then (if x12 ≤ (x1.size : Int) then ((strings_CutPrefix.f (x1.extract (x12 : Int).toNat x1.size) (⟨#[13, 10]⟩ : ByteArray)).bind fun bt168 => (some (rdOf ByteArray.empty x9 1, (x10) % 4294967296, x1.extract 0 (x12 : Int).toNat, x14, bt168.1, bt168.2))) else (none)) else (none)) else (none))) := by
  refine Lm.unique (reply_hit.j3Llm x1 x9 x10 x12 x14 x94) ?_
  refine Lm.step rfl (f := fun k => reply_hit.j3 (k + 1) x1 x9 x10 x12 x14 x94) (fun _ => rfl) ?_; simp only [reply_hit.j3]
  repeat' first
    | with_reducible exact Lm.const _
    | with_reducible refine Lm.bind ?_ (fun _ => ?_)
    | with_reducible refine Lm.ite ?_ ?_
    | refine Lm.bind ?_ (fun _ => ?_)
    | refine Lm.ite ?_ ?_
theorem reply_hit.L_eq (a0 : Int) (a1 : ByteArray) : reply_hit.L a0 a1 = ((strings_Cut.f a1 (⟨#[13, 10]⟩ : ByteArray)).bind fun bt144 => (if bt144.2.2 = true then (reply_hit.j0L a0 bt144.2.1 bt144.1 (decide ((bt144.1.size : Int) > 200))) else (reply_hit.j0L a0 bt144.2.1 bt144.1 true))) := by
  refine Lm.unique (reply_hit.Llm a0 a1) ?_
  unfold reply_hit.f
  repeat' first
    | with_reducible exact reply_hit.j0Llm _ _ _ _
    | with_reducible exact Lm.const _
    | with_reducible refine Lm.bind ?_ (fun _ => ?_)
    | with_reducible refine Lm.ite ?_ ?_
    | refine Lm.bind ?_ (fun _ => ?_)
    | refine Lm.ite ?_ ?_
theorem tallboyref15_Same.j0L_eq (x26 : Bool) (z6 : Int) (z1 : List (S47)) (z7 : Int) (z8 : Int) (z2 : List (S47)) (z9 : Int) : tallboyref15_Same.j0L x26 z6 z1 z7 z8 z2 z9 = (if x26 = true then (some false) else (tallboyref15_Same.l0L 0 z6 z1 z7 z8 z2 z9)) := by
  refine Lm.unique (tallboyref15_Same.j0Llm x26 z6 z1 z7 z8 z2 z9) ?_
  refine Lm.step rfl (f := fun k => tallboyref15_Same.j0 (k + 1) x26 z6 z1 z7 z8 z2 z9) (fun _ => rfl) ?_; simp only [tallboyref15_Same.j0]
  repeat' first
    | with_reducible exact tallboyref15_Same.l0Llm _ _ _ _ _ _ _
    | with_reducible exact Lm.const _
    | with_reducible refine Lm.bind ?_ (fun _ => ?_)
    | with_reducible refine Lm.ite ?_ ?_
    | refine Lm.bind ?_ (fun _ => ?_)
    | refine Lm.ite ?_ ?_
theorem tallboyref15_Same.l0L_eq (x5 : Int) (z6 : Int) (z1 : List (S47)) (z7 : Int) (z8 : Int) (z2 : List (S47)) (z9 : Int) : tallboyref15_Same.l0L x5 z6 z1 z7 z8 z2 z9 = (if x5 < (z1.length : Int) then (if 0 ≤ x5 then (if x5 < (z2.length : Int) then (if (!((((rd_T47 z1 x5).f0).toList) == (((rd_T47 z2 x5).f0).toList)) || (!(((rd_T47 z1 x5).f1) == ((rd_T47 z2 x5).f1)) || (!((((rd_T47 z1 x5).f2).toList) == (((rd_T47 z2 x5).f2).toList)) || (!(((rd_T47 z1 x5).f3) == ((rd_T47 z2 x5).f3)))))) = true then (some false) else (tallboyref15_Same.l0L (wrap64 (x5 + 1)) z6 z1 z7 z8 z2 z9)) else (none)) else (none)) else (some true)) := by
  refine Lm.unique (tallboyref15_Same.l0Llm x5 z6 z1 z7 z8 z2 z9) ?_
  refine Lm.step rfl (f := fun k => tallboyref15_Same.l0 (k + 1) x5 z6 z1 z7 z8 z2 z9) (fun _ => rfl) ?_; simp only [tallboyref15_Same.l0]
  repeat' first
    | with_reducible exact tallboyref15_Same.l0Llm _ _ _ _ _ _ _
    | with_reducible exact Lm.const _
    | with_reducible refine Lm.bind ?_ (fun _ => ?_)
    | with_reducible refine Lm.ite ?_ ?_
    | refine Lm.bind ?_ (fun _ => ?_)
    | refine Lm.ite ?_ ?_
theorem tallboyref15_Same.L_eq (a0_0 : Int) (l0_1 : List (S47)) (a0_2 : Int) (a1_0 : Int) (l1_1 : List (S47)) (a1_2 : Int) : tallboyref15_Same.L a0_0 l0_1 a0_2 a1_0 l1_1 a1_2 = (if a0_0 = a1_0 then (if a0_2 = a1_2 then (tallboyref15_Same.j0L ((l0_1.length : Int) != (l1_1.length : Int)) a0_0 l0_1 a0_2 a1_0 l1_1 a1_2) else (tallboyref15_Same.j0L true a0_0 l0_1 a0_2 a1_0 l1_1 a1_2)) else (tallboyref15_Same.j0L true a0_0 l0_1 a0_2 a1_0 l1_1 a1_2)) := by
  refine Lm.unique (tallboyref15_Same.Llm a0_0 l0_1 a0_2 a1_0 l1_1 a1_2) ?_
  unfold tallboyref15_Same.f
  repeat' first
    | with_reducible exact tallboyref15_Same.j0Llm _ _ _ _ _ _ _
    | with_reducible exact Lm.const _
    | with_reducible refine Lm.bind ?_ (fun _ => ?_)
    | with_reducible refine Lm.ite ?_ ?_
    | refine Lm.bind ?_ (fun _ => ?_)
    | refine Lm.ite ?_ ?_
theorem tallboylaw16_From.l0L_eq (x4 : Int) (x225000 : Int) (z4 : List (S60)) (x225002 : Int) (zb : Int) (za : List (S47)) (zc : Int) : tallboylaw16_From.l0L x4 x225000 z4 x225002 zb za zc = (if x4 < (z4.length : Int) then (if 0 ≤ x4 then (if za.length < 2932031007402 then (tallboylaw16_From.l0L (wrap64 (x4 + 1)) x225000 z4 x225002 zb (za ++ [(⟨(rd_T60 z4 x4).f0, (rd_T60 z4 x4).f1, (rd_T60 z4 x4).f2, (rd_T60 z4 x4).f3⟩ : S47)]) zc) else (none)) else (none)) else (some (zb, za, zc))) := by
  refine Lm.unique (tallboylaw16_From.l0Llm x4 x225000 z4 x225002 zb za zc) ?_
  refine Lm.step rfl (f := fun k => tallboylaw16_From.l0 (k + 1) x4 x225000 z4 x225002 zb za zc) (fun _ => rfl) ?_; simp only [tallboylaw16_From.l0]
  repeat' first
    | with_reducible exact tallboylaw16_From.l0Llm _ _ _ _ _ _ _
    | with_reducible exact Lm.const _
    | with_reducible refine Lm.bind ?_ (fun _ => ?_)
    | with_reducible refine Lm.ite ?_ ?_
    | refine Lm.bind ?_ (fun _ => ?_)
    | refine Lm.ite ?_ ?_
theorem tallboylaw16_From.L_eq (a0_0 : Int) (l0_1 : List (S60)) (a0_2 : Int) : tallboylaw16_From.L a0_0 l0_1 a0_2 = (tallboylaw16_From.l0L 0 a0_0 l0_1 a0_2 a0_0 ([] : List (S47)) a0_2) := by
  refine Lm.unique (tallboylaw16_From.Llm a0_0 l0_1 a0_2) ?_
  unfold tallboylaw16_From.f
  repeat' first
    | with_reducible exact tallboylaw16_From.l0Llm _ _ _ _ _ _ _
    | with_reducible exact Lm.const _
    | with_reducible refine Lm.bind ?_ (fun _ => ?_)
    | with_reducible refine Lm.ite ?_ ?_
    | refine Lm.bind ?_ (fun _ => ?_)
    | refine Lm.ite ?_ ?_
end Go.Proofs.YtdgpagocccabdaaDoor.P
