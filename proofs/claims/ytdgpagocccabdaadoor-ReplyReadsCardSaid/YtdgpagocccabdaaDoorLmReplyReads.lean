/- The limits of the functions with rounds, and the equations that reckon them. Plain Lean; no condition. Written by a program. -/
import Derived.Test.YtdgpagocccabdaaDoorLim
import Derived.Test.YtdgpagocccabdaaDoorLmD
import Derived.Test.YtdgpagocccabdaaDoorLm1
import Derived.Test.YtdgpagocccabdaaDoorPx23
import Derived.Test.YtdgpagocccabdaaDoorPx24
import Derived.Test.YtdgpagocccabdaaDoorPx25
import Derived.Test.YtdgpagocccabdaaDoorPx26
import Derived.Test.YtdgpagocccabdaaDoorPx27
import Derived.Test.YtdgpagocccabdaaDoorPx28
import Derived.Test.YtdgpagocccabdaaDoorPx29
import Derived.Test.YtdgpagocccabdaaDoorPx30
namespace Go.Proofs.YtdgpagocccabdaaDoor.P
open Go.RowKit Go.Proofs.YtdgpagocccabdaaDoor.Lim Go.Proofs.YtdgpagocccabdaaDoorW.PrintWords Go.Proofs.YtdgpagocccabdaaDoorW.PrintLast Go.Proofs.YtdgpagocccabdaaDoorW.PrintMore
set_option linter.unusedVariables false

noncomputable def reply_hit.j0L (x0 : Int) (x1 : ByteArray) (x7 : ByteArray) (x30 : Bool) : Option (ByteArray × Int × ByteArray × Int × ByteArray × Bool) := lim (fun k => reply_hit.j0 k x0 x1 x7 x30)
theorem reply_hit.j0Llm (x0 : Int) (x1 : ByteArray) (x7 : ByteArray) (x30 : Bool) : Lm (fun k => reply_hit.j0 k x0 x1 x7 x30) (reply_hit.j0L x0 x1 x7 x30) := lim_spec (fun k => (reply_hit.mono_l k).1 _ _ _ _)
noncomputable def reply_hit.j1L (x1 : ByteArray) (x9 : List ByteArray) : Option (ByteArray × Int × ByteArray × Int × ByteArray × Bool) := lim (fun k => reply_hit.j1 k x1 x9)
theorem reply_hit.j1Llm (x1 : ByteArray) (x9 : List ByteArray) : Lm (fun k => reply_hit.j1 k x1 x9) (reply_hit.j1L x1 x9) := lim_spec (fun k => (reply_hit.mono_l k).2.1 _ _)
noncomputable def reply_hit.j2L (x1 : ByteArray) (x9 : List ByteArray) (x55 : Bool) : Option (ByteArray × Int × ByteArray × Int × ByteArray × Bool) := lim (fun k => reply_hit.j2 k x1 x9 x55)
theorem reply_hit.j2Llm (x1 : ByteArray) (x9 : List ByteArray) (x55 : Bool) : Lm (fun k => reply_hit.j2 k x1 x9 x55) (reply_hit.j2L x1 x9 x55) := lim_spec (fun k => (reply_hit.mono_l k).2.2.1 _ _ _)
noncomputable def reply_hit.j3L (x1 : ByteArray) (x9 : List ByteArray) (x10 : Int) (x12 : Int) (x14 : Int) (x94 : Bool) : Option (ByteArray × Int × ByteArray × Int × ByteArray × Bool) := lim (fun k => reply_hit.j3 k x1 x9 x10 x12 x14 x94)
theorem reply_hit.j3Llm (x1 : ByteArray) (x9 : List ByteArray) (x10 : Int) (x12 : Int) (x14 : Int) (x94 : Bool) : Lm (fun k => reply_hit.j3 k x1 x9 x10 x12 x14 x94) (reply_hit.j3L x1 x9 x10 x12 x14 x94) := lim_spec (fun k => (reply_hit.mono_l k).2.2.2 _ _ _ _ _ _)
noncomputable def reply_hit.L (a0 : Int) (a1 : ByteArray) : Option (ByteArray × Int × ByteArray × Int × ByteArray × Bool) := lim (fun k => reply_hit.f k a0 a1)
theorem reply_hit.Llm (a0 : Int) (a1 : ByteArray) : Lm (fun k => reply_hit.f k a0 a1) (reply_hit.L a0 a1) := lim_spec (fun k => reply_hit.mono a0 a1 k)
noncomputable def reply_Read.L (a0 : Int) (a1 : ByteArray) : Option (Int × List S60 × Int × Int × Int) := lim (fun k => reply_Read.f k a0 a1)
theorem reply_Read.Llm (a0 : Int) (a1 : ByteArray) : Lm (fun k => reply_Read.f k a0 a1) (reply_Read.L a0 a1) := lim_spec (fun k => reply_Read.mono a0 a1 k)
noncomputable def tallboyref18_line.l0L (x0 : ByteArray) (x5 : Int) : Option (ByteArray × Int × Bool) := lim (fun k => tallboyref18_line.l0 k x0 x5)
theorem tallboyref18_line.l0Llm (x0 : ByteArray) (x5 : Int) : Lm (fun k => tallboyref18_line.l0 k x0 x5) (tallboyref18_line.l0L x0 x5) := lim_spec (fun k => (tallboyref18_line.mono_l k) _ _)
noncomputable def tallboyref18_line.L (a0 : ByteArray) : Option (ByteArray × Int × Bool) := lim (fun k => tallboyref18_line.f k a0)
theorem tallboyref18_line.Llm (a0 : ByteArray) : Lm (fun k => tallboyref18_line.f k a0) (tallboyref18_line.L a0) := lim_spec (fun k => tallboyref18_line.mono a0 k)
noncomputable def tallboyref18_number.L (a0 : ByteArray) (a1 : Int) : Option (Int × Bool) := lim (fun k => tallboyref18_number.f k a0 a1)
theorem tallboyref18_number.Llm (a0 : ByteArray) (a1 : Int) : Lm (fun k => tallboyref18_number.f k a0 a1) (tallboyref18_number.L a0 a1) := lim_spec (fun k => tallboyref18_number.mono a0 a1 k)
noncomputable def tallboyref18_cut.l0L (x0 : ByteArray) (x3 : List ByteArray) (x4 : Int) : Option (List ByteArray) := lim (fun k => tallboyref18_cut.l0 k x0 x3 x4)
theorem tallboyref18_cut.l0Llm (x0 : ByteArray) (x3 : List ByteArray) (x4 : Int) : Lm (fun k => tallboyref18_cut.l0 k x0 x3 x4) (tallboyref18_cut.l0L x0 x3 x4) := lim_spec (fun k => (tallboyref18_cut.mono_l k) _ _ _)
noncomputable def tallboyref18_cut.L (a0 : ByteArray) : Option (List ByteArray) := lim (fun k => tallboyref18_cut.f k a0)
theorem tallboyref18_cut.Llm (a0 : ByteArray) : Lm (fun k => tallboyref18_cut.f k a0) (tallboyref18_cut.L a0) := lim_spec (fun k => tallboyref18_cut.mono a0 k)
noncomputable def tallboyref18_hit.j0L (x0 : Int) (x1 : ByteArray) (x7 : ByteArray) (x8 : Int) (x30 : Bool) : Option (ByteArray × Int × ByteArray × Int × Int × Bool) := lim (fun k => tallboyref18_hit.j0 k x0 x1 x7 x8 x30)
theorem tallboyref18_hit.j0Llm (x0 : Int) (x1 : ByteArray) (x7 : ByteArray) (x8 : Int) (x30 : Bool) : Lm (fun k => tallboyref18_hit.j0 k x0 x1 x7 x8 x30) (tallboyref18_hit.j0L x0 x1 x7 x8 x30) := lim_spec (fun k => (tallboyref18_hit.mono_l k).1 _ _ _ _ _)
noncomputable def tallboyref18_hit.j1L (x1 : ByteArray) (x8 : Int) (x10 : List ByteArray) (x11 : Int) : Option (ByteArray × Int × ByteArray × Int × Int × Bool) := lim (fun k => tallboyref18_hit.j1 k x1 x8 x10 x11)
theorem tallboyref18_hit.j1Llm (x1 : ByteArray) (x8 : Int) (x10 : List ByteArray) (x11 : Int) : Lm (fun k => tallboyref18_hit.j1 k x1 x8 x10 x11) (tallboyref18_hit.j1L x1 x8 x10 x11) := lim_spec (fun k => (tallboyref18_hit.mono_l k).2.1 _ _ _ _)
noncomputable def tallboyref18_hit.j2L (x1 : ByteArray) (x8 : Int) (x10 : List ByteArray) (x11 : Int) (x52 : Bool) : Option (ByteArray × Int × ByteArray × Int × Int × Bool) := lim (fun k => tallboyref18_hit.j2 k x1 x8 x10 x11 x52)
theorem tallboyref18_hit.j2Llm (x1 : ByteArray) (x8 : Int) (x10 : List ByteArray) (x11 : Int) (x52 : Bool) : Lm (fun k => tallboyref18_hit.j2 k x1 x8 x10 x11 x52) (tallboyref18_hit.j2L x1 x8 x10 x11 x52) := lim_spec (fun k => (tallboyref18_hit.mono_l k).2.2.1 _ _ _ _ _)
noncomputable def tallboyref18_hit.j3L (x1 : ByteArray) (x8 : Int) (x10 : List ByteArray) (x12 : Int) (x13 : Bool) (x14 : Int) (x15 : Bool) (x16 : Int) (x17 : Bool) : Option (ByteArray × Int × ByteArray × Int × Int × Bool) := lim (fun k => tallboyref18_hit.j3 k x1 x8 x10 x12 x13 x14 x15 x16 x17)
theorem tallboyref18_hit.j3Llm (x1 : ByteArray) (x8 : Int) (x10 : List ByteArray) (x12 : Int) (x13 : Bool) (x14 : Int) (x15 : Bool) (x16 : Int) (x17 : Bool) : Lm (fun k => tallboyref18_hit.j3 k x1 x8 x10 x12 x13 x14 x15 x16 x17) (tallboyref18_hit.j3L x1 x8 x10 x12 x13 x14 x15 x16 x17) := lim_spec (fun k => (tallboyref18_hit.mono_l k).2.2.2.1 _ _ _ _ _ _ _ _ _)
noncomputable def tallboyref18_hit.j4L (x1 : ByteArray) (x8 : Int) (x10 : List ByteArray) (x12 : Int) (x14 : Int) (x16 : Int) (x110 : Bool) : Option (ByteArray × Int × ByteArray × Int × Int × Bool) := lim (fun k => tallboyref18_hit.j4 k x1 x8 x10 x12 x14 x16 x110)
theorem tallboyref18_hit.j4Llm (x1 : ByteArray) (x8 : Int) (x10 : List ByteArray) (x12 : Int) (x14 : Int) (x16 : Int) (x110 : Bool) : Lm (fun k => tallboyref18_hit.j4 k x1 x8 x10 x12 x14 x16 x110) (tallboyref18_hit.j4L x1 x8 x10 x12 x14 x16 x110) := lim_spec (fun k => (tallboyref18_hit.mono_l k).2.2.2.2 _ _ _ _ _ _ _)
noncomputable def tallboyref18_hit.L (a0 : Int) (a1 : ByteArray) : Option (ByteArray × Int × ByteArray × Int × Int × Bool) := lim (fun k => tallboyref18_hit.f k a0 a1)
theorem tallboyref18_hit.Llm (a0 : Int) (a1 : ByteArray) : Lm (fun k => tallboyref18_hit.f k a0 a1) (tallboyref18_hit.L a0 a1) := lim_spec (fun k => tallboyref18_hit.mono a0 a1 k)
noncomputable def tallboyref18_Read.l0L (x0 : Int) (x1 : ByteArray) (x7 : ByteArray) (x8 : Int) (x10 : Int) : Option (Int × (List (S47)) × Int × Int × Int) := lim (fun k => tallboyref18_Read.l0 k x0 x1 x7 x8 x10)
theorem tallboyref18_Read.l0Llm (x0 : Int) (x1 : ByteArray) (x7 : ByteArray) (x8 : Int) (x10 : Int) : Lm (fun k => tallboyref18_Read.l0 k x0 x1 x7 x8 x10) (tallboyref18_Read.l0L x0 x1 x7 x8 x10) := lim_spec (fun k => (tallboyref18_Read.mono_l k).1 _ _ _ _ _)
noncomputable def tallboyref18_Read.j1L (x0 : Int) (x1 : ByteArray) : Option (Int × (List (S47)) × Int × Int × Int) := lim (fun k => tallboyref18_Read.j1 k x0 x1)
theorem tallboyref18_Read.j1Llm (x0 : Int) (x1 : ByteArray) : Lm (fun k => tallboyref18_Read.j1 k x0 x1) (tallboyref18_Read.j1L x0 x1) := lim_spec (fun k => (tallboyref18_Read.mono_l k).2.1 _ _)
noncomputable def tallboyref18_Read.l1L (x0 : Int) (x1 : ByteArray) (x15 : Int) (x16 : Int) (z6 : Int) (z3 : List (S47)) (z7 : Int) : Option (Int × (List (S47)) × Int × Int × Int) := lim (fun k => tallboyref18_Read.l1 k x0 x1 x15 x16 z6 z3 z7)
theorem tallboyref18_Read.l1Llm (x0 : Int) (x1 : ByteArray) (x15 : Int) (x16 : Int) (z6 : Int) (z3 : List (S47)) (z7 : Int) : Lm (fun k => tallboyref18_Read.l1 k x0 x1 x15 x16 z6 z3 z7) (tallboyref18_Read.l1L x0 x1 x15 x16 z6 z3 z7) := lim_spec (fun k => (tallboyref18_Read.mono_l k).2.2.1 _ _ _ _ _ _ _)
noncomputable def tallboyref18_Read.j3L (x0 : Int) (x1 : ByteArray) (x15 : Int) (x16 : Int) (x75 : Bool) (z6 : Int) (z3 : List (S47)) (z7 : Int) : Option (Int × (List (S47)) × Int × Int × Int) := lim (fun k => tallboyref18_Read.j3 k x0 x1 x15 x16 x75 z6 z3 z7)
theorem tallboyref18_Read.j3Llm (x0 : Int) (x1 : ByteArray) (x15 : Int) (x16 : Int) (x75 : Bool) (z6 : Int) (z3 : List (S47)) (z7 : Int) : Lm (fun k => tallboyref18_Read.j3 k x0 x1 x15 x16 x75 z6 z3 z7) (tallboyref18_Read.j3L x0 x1 x15 x16 x75 z6 z3 z7) := lim_spec (fun k => (tallboyref18_Read.mono_l k).2.2.2 _ _ _ _ _ _ _ _)
noncomputable def tallboyref18_Read.L (a0 : Int) (a1 : ByteArray) : Option (Int × (List (S47)) × Int × Int × Int) := lim (fun k => tallboyref18_Read.f k a0 a1)
theorem tallboyref18_Read.Llm (a0 : Int) (a1 : ByteArray) : Lm (fun k => tallboyref18_Read.f k a0 a1) (tallboyref18_Read.L a0 a1) := lim_spec (fun k => tallboyref18_Read.mono a0 a1 k)
noncomputable def tallboyref15_Same.j0L (x26 : Bool) (z6 : Int) (z1 : List (S47)) (z7 : Int) (z8 : Int) (z2 : List (S47)) (z9 : Int) : Option (Bool) := lim (fun k => tallboyref15_Same.j0 k x26 z6 z1 z7 z8 z2 z9)
theorem tallboyref15_Same.j0Llm (x26 : Bool) (z6 : Int) (z1 : List (S47)) (z7 : Int) (z8 : Int) (z2 : List (S47)) (z9 : Int) : Lm (fun k => tallboyref15_Same.j0 k x26 z6 z1 z7 z8 z2 z9) (tallboyref15_Same.j0L x26 z6 z1 z7 z8 z2 z9) := lim_spec (fun k => (tallboyref15_Same.mono_l k).1 _ _ _ _ _ _ _)
noncomputable def tallboyref15_Same.l0L (x5 : Int) (z6 : Int) (z1 : List (S47)) (z7 : Int) (z8 : Int) (z2 : List (S47)) (z9 : Int) : Option (Bool) := lim (fun k => tallboyref15_Same.l0 k x5 z6 z1 z7 z8 z2 z9)
theorem tallboyref15_Same.l0Llm (x5 : Int) (z6 : Int) (z1 : List (S47)) (z7 : Int) (z8 : Int) (z2 : List (S47)) (z9 : Int) : Lm (fun k => tallboyref15_Same.l0 k x5 z6 z1 z7 z8 z2 z9) (tallboyref15_Same.l0L x5 z6 z1 z7 z8 z2 z9) := lim_spec (fun k => (tallboyref15_Same.mono_l k).2 _ _ _ _ _ _ _)
noncomputable def tallboyref15_Same.L (a0_0 : Int) (l0_1 : List (S47)) (a0_2 : Int) (a1_0 : Int) (l1_1 : List (S47)) (a1_2 : Int) : Option (Bool) := lim (fun k => tallboyref15_Same.f k a0_0 l0_1 a0_2 a1_0 l1_1 a1_2)
theorem tallboyref15_Same.Llm (a0_0 : Int) (l0_1 : List (S47)) (a0_2 : Int) (a1_0 : Int) (l1_1 : List (S47)) (a1_2 : Int) : Lm (fun k => tallboyref15_Same.f k a0_0 l0_1 a0_2 a1_0 l1_1 a1_2) (tallboyref15_Same.L a0_0 l0_1 a0_2 a1_0 l1_1 a1_2) := lim_spec (fun k => tallboyref15_Same.mono a0_0 l0_1 a0_2 a1_0 l1_1 a1_2 k)
noncomputable def tallboylaw16_From.l0L (x4 : Int) (x225000 : Int) (z4 : List (S60)) (x225002 : Int) (zb : Int) (za : List (S47)) (zc : Int) : Option (Int × (List (S47)) × Int) := lim (fun k => tallboylaw16_From.l0 k x4 x225000 z4 x225002 zb za zc)
theorem tallboylaw16_From.l0Llm (x4 : Int) (x225000 : Int) (z4 : List (S60)) (x225002 : Int) (zb : Int) (za : List (S47)) (zc : Int) : Lm (fun k => tallboylaw16_From.l0 k x4 x225000 z4 x225002 zb za zc) (tallboylaw16_From.l0L x4 x225000 z4 x225002 zb za zc) := lim_spec (fun k => (tallboylaw16_From.mono_l k) _ _ _ _ _ _ _)
noncomputable def tallboylaw16_From.L (a0_0 : Int) (l0_1 : List (S60)) (a0_2 : Int) : Option (Int × (List (S47)) × Int) := lim (fun k => tallboylaw16_From.f k a0_0 l0_1 a0_2)
theorem tallboylaw16_From.Llm (a0_0 : Int) (l0_1 : List (S60)) (a0_2 : Int) : Lm (fun k => tallboylaw16_From.f k a0_0 l0_1 a0_2) (tallboylaw16_From.L a0_0 l0_1 a0_2) := lim_spec (fun k => tallboylaw16_From.mono a0_0 l0_1 a0_2 k)
noncomputable def tallboylaw18_ReplyReads.L (a0 : Int) (a1 : ByteArray) : Option (Bool) := lim (fun k => tallboylaw18_ReplyReads.f k a0 a1)
theorem tallboylaw18_ReplyReads.Llm (a0 : Int) (a1 : ByteArray) : Lm (fun k => tallboylaw18_ReplyReads.f k a0 a1) (tallboylaw18_ReplyReads.L a0 a1) := lim_spec (fun k => tallboylaw18_ReplyReads.mono a0 a1 k)
theorem reply_hit.j0L_eq (x0 : Int) (x1 : ByteArray) (x7 : ByteArray) (x30 : Bool) : reply_hit.j0L x0 x1 x7 x30 = (if x30 = true then (some ((⟨#[]⟩ : ByteArray), 0, (⟨#[]⟩ : ByteArray), 0, (⟨#[]⟩ : ByteArray), false)) else ((strings_Split.f x7 (⟨#[32]⟩ : ByteArray)).bind fun t147 => ((verb_Shows.f x0).bind fun t150 => (if t150 = true then (reply_hit.j1L x1 t147) else (if t147.length < 8796093022208 then (reply_hit.j1L x1 (t147 ++ [(⟨#[48]⟩ : ByteArray)])) else (none)))))) := by
  refine Lm.unique (reply_hit.j0Llm x0 x1 x7 x30) ?_
  refine Lm.step rfl (f := fun k => reply_hit.j0 (k + 1) x0 x1 x7 x30) (fun _ => rfl) ?_; simp only [reply_hit.j0]
  repeat' first
    | with_reducible exact reply_hit.j1Llm _ _
    | with_reducible exact Lm.const _
    | with_reducible refine Lm.bind ?_ (fun _ => ?_)
    | with_reducible refine Lm.ite ?_ ?_
    | refine Lm.bind ?_ (fun _ => ?_)
    | refine Lm.ite ?_ ?_
theorem reply_hit.j1L_eq (x1 : ByteArray) (x9 : List ByteArray) : reply_hit.j1L x1 x9 = (if (x9.length : Int) = 5 then (if 0 < (x9.length : Int) then (if (rdOf ByteArray.empty x9 0).toList = ([86, 65, 76, 85, 69] : List UInt8) then (if 1 < (x9.length : Int) then ((fnv_Key.L (rdOf ByteArray.empty x9 1)).bind fun t156 => (reply_hit.j2L x1 x9 (!t156))) else (none)) else (reply_hit.j2L x1 x9 true)) else (none)) else (reply_hit.j2L x1 x9 true)) := by
  refine Lm.unique (reply_hit.j1Llm x1 x9) ?_
  refine Lm.step rfl (f := fun k => reply_hit.j1 (k + 1) x1 x9) (fun _ => rfl) ?_; simp only [reply_hit.j1]
  repeat' first
    | with_reducible exact reply_hit.j2Llm _ _ _
    | with_reducible exact fnv_Key.Llm _
    | with_reducible exact Lm.const _
    | with_reducible refine Lm.bind ?_ (fun _ => ?_)
    | with_reducible refine Lm.ite ?_ ?_
    | refine Lm.bind ?_ (fun _ => ?_)
    | refine Lm.ite ?_ ?_
theorem reply_hit.j2L_eq (x1 : ByteArray) (x9 : List ByteArray) (x55 : Bool) : reply_hit.j2L x1 x9 x55 = (if x55 = true then (some ((⟨#[]⟩ : ByteArray), 0, (⟨#[]⟩ : ByteArray), 0, (⟨#[]⟩ : ByteArray), false)) else (if 2 < (x9.length : Int) then ((reply_number.f (rdOf ByteArray.empty x9 2) 4294967295).bind fun bt158 => (if 3 < (x9.length : Int) then ((reply_number.f (rdOf ByteArray.empty x9 3) 2000).bind fun bt161 => (if 4 < (x9.length : Int) then ((reply_number.f (rdOf ByteArray.empty x9 4) 18446744073709551615).bind fun bt164 => (if bt158.2 = true then (if bt161.2 = true then (if bt164.2 = true then (reply_hit.j3L x1 x9 bt158.1 bt161.1 bt164.1 (decide ((IntKind.u64.wrap ((x1.size : Int))) < bt161.1))) else (reply_hit.j3L x1 x9 bt158.1 bt161.1 bt164.1 true)) else (reply_hit.j3L x1 x9 bt158.1 bt161.1 bt164.1 true)) else (reply_hit.j3L x1 x9 bt158.1 bt161.1 bt164.1 true))) else (none))) else (none))) else (none))) := by
  refine Lm.unique (reply_hit.j2Llm x1 x9 x55) ?_
  refine Lm.step rfl (f := fun k => reply_hit.j2 (k + 1) x1 x9 x55) (fun _ => rfl) ?_; simp only [reply_hit.j2]
  repeat' first
    | with_reducible exact reply_hit.j3Llm _ _ _ _ _ _
    | with_reducible exact Lm.const _
    | with_reducible refine Lm.bind ?_ (fun _ => ?_)
    | with_reducible refine Lm.ite ?_ ?_
    | refine Lm.bind ?_ (fun _ => ?_)
    | refine Lm.ite ?_ ?_
theorem reply_hit.j3L_eq (x1 : ByteArray) (x9 : List ByteArray) (x10 : Int) (x12 : Int) (x14 : Int) (x94 : Bool) : reply_hit.j3L x1 x9 x10 x12 x14 x94 = (if x94 = true then (some ((⟨#[]⟩ : ByteArray), 0, (⟨#[]⟩ : ByteArray), 0, (⟨#[]⟩ : ByteArray), false)) else (if 1 < (x9.length : Int) then (if 0 ≤ x12 then (if x12 ≤ (x1.size : Int) then ((strings_CutPrefix.f (x1.extract (x12 : Int).toNat x1.size) (⟨#[13, 10]⟩ : ByteArray)).bind fun bt168 => (some (rdOf ByteArray.empty x9 1, (x10) % 4294967296, x1.extract 0 (x12 : Int).toNat, x14, bt168.1, bt168.2))) else (none)) else (none)) else (none))) := by
  refine Lm.unique (reply_hit.j3Llm x1 x9 x10 x12 x14 x94) ?_
  refine Lm.step rfl (f := fun k => reply_hit.j3 (k + 1) x1 x9 x10 x12 x14 x94) (fun _ => rfl) ?_; simp only [reply_hit.j3]
  repeat' first
    | with_reducible exact Lm.const _
    | with_reducible refine Lm.bind ?_ (fun _ => ?_)
    | with_reducible refine Lm.ite ?_ ?_
    | refine Lm.bind ?_ (fun _ => ?_)
    | refine Lm.ite ?_ ?_
theorem reply_hit.L_eq (a0 : Int) (a1 : ByteArray) : reply_hit.L a0 a1 = ((strings_Cut.f a1 (⟨#[13, 10]⟩ : ByteArray)).bind fun bt144 => (if bt144.2.2 = true then (reply_hit.j0L a0 bt144.2.1 bt144.1 (decide ((bt144.1.size : Int) > 200))) else (reply_hit.j0L a0 bt144.2.1 bt144.1 true))) := by
  refine Lm.unique (reply_hit.Llm a0 a1) ?_
  unfold reply_hit.f
  repeat' first
    | with_reducible exact reply_hit.j0Llm _ _ _ _
    | with_reducible exact Lm.const _
    | with_reducible refine Lm.bind ?_ (fun _ => ?_)
    | with_reducible refine Lm.ite ?_ ?_
    | refine Lm.bind ?_ (fun _ => ?_)
    | refine Lm.ite ?_ ?_
theorem tallboyref18_line.l0L_eq (x0 : ByteArray) (x5 : Int) : tallboyref18_line.l0L x0 x5 = (if (wrap64 (x5 + 1)) < (x0.size : Int) then (if 0 ≤ x5 then (if x5 < (x0.size : Int) then (if (bt x0 x5) = 13 then (if 0 ≤ (wrap64 (x5 + 1)) then (if (bt x0 (wrap64 (x5 + 1))) = 10 then (if x5 ≤ (x0.size : Int) then (some (x0.extract 0 (x5 : Int).toNat, wrap64 (x5 + 2), true)) else (none)) else (tallboyref18_line.l0L x0 (wrap64 (x5 + 1)))) else (none)) else (tallboyref18_line.l0L x0 (wrap64 (x5 + 1)))) else (none)) else (none)) else (some ((⟨#[]⟩ : ByteArray), 0, false))) := by
  refine Lm.unique (tallboyref18_line.l0Llm x0 x5) ?_
  refine Lm.step rfl (f := fun k => tallboyref18_line.l0 (k + 1) x0 x5) (fun _ => rfl) ?_; simp only [tallboyref18_line.l0]
  repeat' first
    | with_reducible exact tallboyref18_line.l0Llm _ _
    | with_reducible exact Lm.const _
    | with_reducible refine Lm.bind ?_ (fun _ => ?_)
    | with_reducible refine Lm.ite ?_ ?_
    | refine Lm.bind ?_ (fun _ => ?_)
    | refine Lm.ite ?_ ?_
theorem tallboyref18_line.L_eq (a0 : ByteArray) : tallboyref18_line.L a0 = (tallboyref18_line.l0L a0 0) := by
  refine Lm.unique (tallboyref18_line.Llm a0) ?_
  unfold tallboyref18_line.f
  repeat' first
    | with_reducible exact tallboyref18_line.l0Llm _ _
    | with_reducible exact Lm.const _
    | with_reducible refine Lm.bind ?_ (fun _ => ?_)
    | with_reducible refine Lm.ite ?_ ?_
    | refine Lm.bind ?_ (fun _ => ?_)
    | refine Lm.ite ?_ ?_
theorem tallboyref18_number.L_eq (a0 : ByteArray) (a1 : Int) : tallboyref18_number.L a0 a1 = ((tallboyref02_Parse.L a0).bind fun bt170 => (if bt170.2 = 0 then ((tallboyref02_Text.L bt170.1).bind fun t172 => (if t172.toList = a0.toList then (some (bt170.1, decide (bt170.1 ≤ a1))) else (some (bt170.1, false)))) else (some (bt170.1, false)))) := by
  refine Lm.unique (tallboyref18_number.Llm a0 a1) ?_
  unfold tallboyref18_number.f
  repeat' first
    | with_reducible exact tallboyref02_Parse.Llm _
    | with_reducible exact tallboyref02_Text.Llm _
    | with_reducible exact Lm.const _
    | with_reducible refine Lm.bind ?_ (fun _ => ?_)
    | with_reducible refine Lm.ite ?_ ?_
    | refine Lm.bind ?_ (fun _ => ?_)
    | refine Lm.ite ?_ ?_
theorem tallboyref18_cut.l0L_eq (x0 : ByteArray) (x3 : List ByteArray) (x4 : Int) : tallboyref18_cut.l0L x0 x3 x4 = (if x4 < (x0.size : Int) then (if 0 ≤ x4 then (if (bt x0 x4) = 32 then (if x3.length < 8796093022208 then (tallboyref18_cut.l0L x0 (x3 ++ [(⟨#[]⟩ : ByteArray)]) (wrap64 (x4 + 1))) else (none)) else (if 0 ≤ (wrap64 ((x3.length : Int) - 1)) then (if (wrap64 ((x3.length : Int) - 1)) < (x3.length : Int) then (if x4 ≤ (wrap64 (x4 + 1)) then (if (wrap64 (x4 + 1)) ≤ (x0.size : Int) then (if (rdOf ByteArray.empty x3 (wrap64 ((x3.length : Int) - 1))).size + (x0.extract (x4 : Int).toNat ((wrap64 (x4 + 1)) : Int).toNat).size ≤ 9223372036854775807 then (tallboyref18_cut.l0L x0 (x3.set ((wrap64 ((x3.length : Int) - 1)) : Int).toNat ((rdOf ByteArray.empty x3 (wrap64 ((x3.length : Int) - 1))) ++ (x0.extract (x4 : Int).toNat ((wrap64 (x4 + 1)) : Int).toNat))) (wrap64 (x4 + 1))) else (none)) else (none)) else (none)) else (none)) else (none))) else (none)) else (some x3)) := by
  refine Lm.unique (tallboyref18_cut.l0Llm x0 x3 x4) ?_
  refine Lm.step rfl (f := fun k => tallboyref18_cut.l0 (k + 1) x0 x3 x4) (fun _ => rfl) ?_; simp only [tallboyref18_cut.l0]
  repeat' first
    | with_reducible exact tallboyref18_cut.l0Llm _ _ _
    | with_reducible exact Lm.const _
    | with_reducible refine Lm.bind ?_ (fun _ => ?_)
    | with_reducible refine Lm.ite ?_ ?_
    | refine Lm.bind ?_ (fun _ => ?_)
    | refine Lm.ite ?_ ?_
theorem tallboyref18_cut.L_eq (a0 : ByteArray) : tallboyref18_cut.L a0 = (tallboyref18_cut.l0L a0 (([(⟨#[]⟩ : ByteArray)] : List ByteArray)) 0) := by
  refine Lm.unique (tallboyref18_cut.Llm a0) ?_
  unfold tallboyref18_cut.f
  repeat' first
    | with_reducible exact tallboyref18_cut.l0Llm _ _ _
    | with_reducible exact Lm.const _
    | with_reducible refine Lm.bind ?_ (fun _ => ?_)
    | with_reducible refine Lm.ite ?_ ?_
    | refine Lm.bind ?_ (fun _ => ?_)
    | refine Lm.ite ?_ ?_
theorem tallboyref18_hit.j0L_eq (x0 : Int) (x1 : ByteArray) (x7 : ByteArray) (x8 : Int) (x30 : Bool) : tallboyref18_hit.j0L x0 x1 x7 x8 x30 = (if x30 = true then (some ((⟨#[]⟩ : ByteArray), 0, (⟨#[]⟩ : ByteArray), 0, 0, false)) else ((tallboyref18_cut.L x7).bind fun t185 => ((tallboyref15_Shows.f x0).bind fun t188 => (if t188 = true then (tallboyref18_hit.j1L x1 x8 t185 5) else (tallboyref18_hit.j1L x1 x8 t185 4))))) := by
  refine Lm.unique (tallboyref18_hit.j0Llm x0 x1 x7 x8 x30) ?_
  refine Lm.step rfl (f := fun k => tallboyref18_hit.j0 (k + 1) x0 x1 x7 x8 x30) (fun _ => rfl) ?_; simp only [tallboyref18_hit.j0]
  repeat' first
    | with_reducible exact tallboyref18_hit.j1Llm _ _ _ _
    | with_reducible exact tallboyref18_cut.Llm _
    | with_reducible exact Lm.const _
    | with_reducible refine Lm.bind ?_ (fun _ => ?_)
    | with_reducible refine Lm.ite ?_ ?_
    | refine Lm.bind ?_ (fun _ => ?_)
    | refine Lm.ite ?_ ?_
theorem tallboyref18_hit.j1L_eq (x1 : ByteArray) (x8 : Int) (x10 : List ByteArray) (x11 : Int) : tallboyref18_hit.j1L x1 x8 x10 x11 = (if (x10.length : Int) = x11 then (if 0 < (x10.length : Int) then (if (rdOf ByteArray.empty x10 0).toList = ([86, 65, 76, 85, 69] : List UInt8) then (if 1 < (x10.length : Int) then ((tallboyref04_Key.L (rdOf ByteArray.empty x10 1)).bind fun t191 => (tallboyref18_hit.j2L x1 x8 x10 x11 (!t191))) else (none)) else (tallboyref18_hit.j2L x1 x8 x10 x11 true)) else (none)) else (tallboyref18_hit.j2L x1 x8 x10 x11 true)) := by
  refine Lm.unique (tallboyref18_hit.j1Llm x1 x8 x10 x11) ?_
  refine Lm.step rfl (f := fun k => tallboyref18_hit.j1 (k + 1) x1 x8 x10 x11) (fun _ => rfl) ?_; simp only [tallboyref18_hit.j1]
  repeat' first
    | with_reducible exact tallboyref18_hit.j2Llm _ _ _ _ _
    | with_reducible exact tallboyref04_Key.Llm _
    | with_reducible exact Lm.const _
    | with_reducible refine Lm.bind ?_ (fun _ => ?_)
    | with_reducible refine Lm.ite ?_ ?_
    | refine Lm.bind ?_ (fun _ => ?_)
    | refine Lm.ite ?_ ?_
theorem tallboyref18_hit.j2L_eq (x1 : ByteArray) (x8 : Int) (x10 : List ByteArray) (x11 : Int) (x52 : Bool) : tallboyref18_hit.j2L x1 x8 x10 x11 x52 = (if x52 = true then (some ((⟨#[]⟩ : ByteArray), 0, (⟨#[]⟩ : ByteArray), 0, 0, false)) else (if 2 < (x10.length : Int) then ((tallboyref18_number.L (rdOf ByteArray.empty x10 2) 4294967295).bind fun bt193 => (if 3 < (x10.length : Int) then ((tallboyref18_number.L (rdOf ByteArray.empty x10 3) 2000).bind fun bt196 => (if x11 = 5 then (if 4 < (x10.length : Int) then ((tallboyref18_number.L (rdOf ByteArray.empty x10 4) 18446744073709551615).bind fun bt199 => (tallboyref18_hit.j3L x1 x8 x10 bt193.1 bt193.2 bt196.1 bt196.2 bt199.1 bt199.2)) else (none)) else (tallboyref18_hit.j3L x1 x8 x10 bt193.1 bt193.2 bt196.1 bt196.2 0 true))) else (none))) else (none))) := by
  refine Lm.unique (tallboyref18_hit.j2Llm x1 x8 x10 x11 x52) ?_
  refine Lm.step rfl (f := fun k => tallboyref18_hit.j2 (k + 1) x1 x8 x10 x11 x52) (fun _ => rfl) ?_; simp only [tallboyref18_hit.j2]
  repeat' first
    | with_reducible exact tallboyref18_number.Llm _ _
    | with_reducible exact tallboyref18_hit.j3Llm _ _ _ _ _ _ _ _ _
    | with_reducible exact Lm.const _
    | with_reducible refine Lm.bind ?_ (fun _ => ?_)
    | with_reducible refine Lm.ite ?_ ?_
    | refine Lm.bind ?_ (fun _ => ?_)
    | refine Lm.ite ?_ ?_
theorem tallboyref18_hit.j3L_eq (x1 : ByteArray) (x8 : Int) (x10 : List ByteArray) (x12 : Int) (x13 : Bool) (x14 : Int) (x15 : Bool) (x16 : Int) (x17 : Bool) : tallboyref18_hit.j3L x1 x8 x10 x12 x13 x14 x15 x16 x17 = (if x13 = true then (if x15 = true then (if x17 = true then (if (wrap64 ((x1.size : Int) - x8)) < (wrap64 ((wrap64 (x14)) + 2)) then (tallboyref18_hit.j4L x1 x8 x10 x12 x14 x16 true) else (if 0 ≤ (wrap64 (x8 + (wrap64 (x14)))) then (if (wrap64 (x8 + (wrap64 (x14)))) ≤ (wrap64 ((wrap64 (x8 + (wrap64 (x14)))) + 2)) then (if (wrap64 ((wrap64 (x8 + (wrap64 (x14)))) + 2)) ≤ (x1.size : Int) then (tallboyref18_hit.j4L x1 x8 x10 x12 x14 x16 ((x1.extract ((wrap64 (x8 + (wrap64 (x14)))) : Int).toNat ((wrap64 ((wrap64 (x8 + (wrap64 (x14)))) + 2)) : Int).toNat).toList != ([13, 10] : List UInt8))) else (none)) else (none)) else (none))) else (tallboyref18_hit.j4L x1 x8 x10 x12 x14 x16 true)) else (tallboyref18_hit.j4L x1 x8 x10 x12 x14 x16 true)) else (tallboyref18_hit.j4L x1 x8 x10 x12 x14 x16 true)) := by
  refine Lm.unique (tallboyref18_hit.j3Llm x1 x8 x10 x12 x13 x14 x15 x16 x17) ?_
  refine Lm.step rfl (f := fun k => tallboyref18_hit.j3 (k + 1) x1 x8 x10 x12 x13 x14 x15 x16 x17) (fun _ => rfl) ?_; simp only [tallboyref18_hit.j3]
  repeat' first
    | with_reducible exact tallboyref18_hit.j4Llm _ _ _ _ _ _ _
    | with_reducible exact Lm.const _
    | with_reducible refine Lm.bind ?_ (fun _ => ?_)
    | with_reducible refine Lm.ite ?_ ?_
    | refine Lm.bind ?_ (fun _ => ?_)
    | refine Lm.ite ?_ ?_
theorem tallboyref18_hit.j4L_eq (x1 : ByteArray) (x8 : Int) (x10 : List ByteArray) (x12 : Int) (x14 : Int) (x16 : Int) (x110 : Bool) : tallboyref18_hit.j4L x1 x8 x10 x12 x14 x16 x110 = (if x110 = true then (some ((⟨#[]⟩ : ByteArray), 0, (⟨#[]⟩ : ByteArray), 0, 0, false)) else (if 1 < (x10.length : Int) then (if 0 ≤ x8 then (if x8 ≤ (wrap64 (x8 + (wrap64 (x14)))) then (if (wrap64 (x8 + (wrap64 (x14)))) ≤ (x1.size : Int) then (some (rdOf ByteArray.empty x10 1, (x12) % 4294967296, x1.extract (x8 : Int).toNat ((wrap64 (x8 + (wrap64 (x14)))) : Int).toNat, x16, wrap64 ((wrap64 (x8 + (wrap64 (x14)))) + 2), true)) else (none)) else (none)) else (none)) else (none))) := by
  refine Lm.unique (tallboyref18_hit.j4Llm x1 x8 x10 x12 x14 x16 x110) ?_
  refine Lm.step rfl (f := fun k => tallboyref18_hit.j4 (k + 1) x1 x8 x10 x12 x14 x16 x110) (fun _ => rfl) ?_; simp only [tallboyref18_hit.j4]
  repeat' first
    | with_reducible exact Lm.const _
    | with_reducible refine Lm.bind ?_ (fun _ => ?_)
    | with_reducible refine Lm.ite ?_ ?_
    | refine Lm.bind ?_ (fun _ => ?_)
    | refine Lm.ite ?_ ?_
theorem tallboyref18_hit.L_eq (a0 : Int) (a1 : ByteArray) : tallboyref18_hit.L a0 a1 = ((tallboyref18_line.L a1).bind fun bt182 => (if bt182.2.2 = true then (tallboyref18_hit.j0L a0 a1 bt182.1 bt182.2.1 (decide ((bt182.1.size : Int) > 200))) else (tallboyref18_hit.j0L a0 a1 bt182.1 bt182.2.1 true))) := by
  refine Lm.unique (tallboyref18_hit.Llm a0 a1) ?_
  unfold tallboyref18_hit.f
  repeat' first
    | with_reducible exact tallboyref18_line.Llm _
    | with_reducible exact tallboyref18_hit.j0Llm _ _ _ _ _
    | with_reducible exact Lm.const _
    | with_reducible refine Lm.bind ?_ (fun _ => ?_)
    | with_reducible refine Lm.ite ?_ ?_
    | refine Lm.bind ?_ (fun _ => ?_)
    | refine Lm.ite ?_ ?_
theorem tallboyref18_Read.l0L_eq (x0 : Int) (x1 : ByteArray) (x7 : ByteArray) (x8 : Int) (x10 : Int) : tallboyref18_Read.l0L x0 x1 x7 x8 x10 = (if x10 ≤ 12 then ((tallboyref18_plain.f x0 x10).bind fun t206 => (if t206.toList = ([] : List UInt8) then (tallboyref18_Read.l0L x0 x1 x7 x8 (wrap64 (x10 + 1))) else (if t206.toList = x7.toList then (some (x10, ([] : List (S47)), 0, x8, 0)) else (tallboyref18_Read.l0L x0 x1 x7 x8 (wrap64 (x10 + 1)))))) else (if (x7.size : Int) ≤ 20 then ((tallboyref18_number.L x7 18446744073709551615).bind fun bt207 => (if bt207.2 = true then (some (7, ([] : List (S47)), bt207.1, x8, 0)) else (tallboyref18_Read.j1L x0 x1))) else (tallboyref18_Read.j1L x0 x1))) := by
  refine Lm.unique (tallboyref18_Read.l0Llm x0 x1 x7 x8 x10) ?_
  refine Lm.step rfl (f := fun k => tallboyref18_Read.l0 (k + 1) x0 x1 x7 x8 x10) (fun _ => rfl) ?_; simp only [tallboyref18_Read.l0]
  repeat' first
    | with_reducible exact tallboyref18_number.Llm _ _
    | with_reducible exact tallboyref18_Read.l0Llm _ _ _ _ _
    | with_reducible exact tallboyref18_Read.j1Llm _ _
    | with_reducible exact Lm.const _
    | with_reducible refine Lm.bind ?_ (fun _ => ?_)
    | with_reducible refine Lm.ite ?_ ?_
    | refine Lm.bind ?_ (fun _ => ?_)
    | refine Lm.ite ?_ ?_
theorem tallboyref18_Read.j1L_eq (x0 : Int) (x1 : ByteArray) : tallboyref18_Read.j1L x0 x1 = (tallboyref18_Read.l1L x0 x1 0 0 1 ([] : List (S47)) 0) := by
  refine Lm.unique (tallboyref18_Read.j1Llm x0 x1) ?_
  refine Lm.step rfl (f := fun k => tallboyref18_Read.j1 (k + 1) x0 x1) (fun _ => rfl) ?_; simp only [tallboyref18_Read.j1]
  repeat' first
    | with_reducible exact tallboyref18_Read.l1Llm _ _ _ _ _ _ _
    | with_reducible exact Lm.const _
    | with_reducible refine Lm.bind ?_ (fun _ => ?_)
    | with_reducible refine Lm.ite ?_ ?_
    | refine Lm.bind ?_ (fun _ => ?_)
    | refine Lm.ite ?_ ?_
theorem tallboyref18_Read.l1L_eq (x0 : Int) (x1 : ByteArray) (x15 : Int) (x16 : Int) (z6 : Int) (z3 : List (S47)) (z7 : Int) : tallboyref18_Read.l1L x0 x1 x15 x16 z6 z3 z7 = (if x16 ≤ 100 then (if (wrap64 ((x1.size : Int) - x15)) ≥ 5 then (if 0 ≤ x15 then (if x15 ≤ (wrap64 (x15 + 5)) then (if (wrap64 (x15 + 5)) ≤ (x1.size : Int) then (tallboyref18_Read.j3L x0 x1 x15 x16 ((x1.extract (x15 : Int).toNat ((wrap64 (x15 + 5)) : Int).toNat).toList == ([69, 78, 68, 13, 10] : List UInt8)) z6 z3 z7) else (none)) else (none)) else (none)) else (tallboyref18_Read.j3L x0 x1 x15 x16 false z6 z3 z7)) else (some (0, ([] : List (S47)), 0, 0, 6))) := by
  refine Lm.unique (tallboyref18_Read.l1Llm x0 x1 x15 x16 z6 z3 z7) ?_
  refine Lm.step rfl (f := fun k => tallboyref18_Read.l1 (k + 1) x0 x1 x15 x16 z6 z3 z7) (fun _ => rfl) ?_; simp only [tallboyref18_Read.l1]
  repeat' first
    | with_reducible exact tallboyref18_Read.j3Llm _ _ _ _ _ _ _ _
    | with_reducible exact Lm.const _
    | with_reducible refine Lm.bind ?_ (fun _ => ?_)
    | with_reducible refine Lm.ite ?_ ?_
    | refine Lm.bind ?_ (fun _ => ?_)
    | refine Lm.ite ?_ ?_
theorem tallboyref18_Read.j3L_eq (x0 : Int) (x1 : ByteArray) (x15 : Int) (x16 : Int) (x75 : Bool) (z6 : Int) (z3 : List (S47)) (z7 : Int) : tallboyref18_Read.j3L x0 x1 x15 x16 x75 z6 z3 z7 = (if x75 = true then (some (z6, z3, z7, wrap64 (x15 + 5), 0)) else (if 0 ≤ x15 then (if x15 ≤ (x1.size : Int) then ((tallboyref18_hit.L x0 (x1.extract (x15 : Int).toNat x1.size)).bind fun bt210 => (if bt210.2.2.2.2.2 = true then (if z3.length < 2932031007402 then (tallboyref18_Read.l1L x0 x1 (wrap64 (x15 + bt210.2.2.2.2.1)) (wrap64 (x16 + 1)) z6 (z3 ++ [(⟨bt210.1, bt210.2.1, bt210.2.2.1, bt210.2.2.2.1⟩ : S47)]) z7) else (none)) else (some (0, ([] : List (S47)), 0, 0, 6)))) else (none)) else (none))) := by
  refine Lm.unique (tallboyref18_Read.j3Llm x0 x1 x15 x16 x75 z6 z3 z7) ?_
  refine Lm.step rfl (f := fun k => tallboyref18_Read.j3 (k + 1) x0 x1 x15 x16 x75 z6 z3 z7) (fun _ => rfl) ?_; simp only [tallboyref18_Read.j3]
  repeat' first
    | with_reducible exact tallboyref18_Read.l1Llm _ _ _ _ _ _ _
    | with_reducible exact tallboyref18_hit.Llm _ _
    | with_reducible exact Lm.const _
    | with_reducible refine Lm.bind ?_ (fun _ => ?_)
    | with_reducible refine Lm.ite ?_ ?_
    | refine Lm.bind ?_ (fun _ => ?_)
    | refine Lm.ite ?_ ?_
theorem tallboyref18_Read.L_eq (a0 : Int) (a1 : ByteArray) : tallboyref18_Read.L a0 a1 = ((tallboyref18_line.L a1).bind fun bt203 => (if bt203.2.2 = true then (tallboyref18_Read.l0L a0 a1 bt203.1 bt203.2.1 2) else (some (0, ([] : List (S47)), 0, 0, 6)))) := by
  refine Lm.unique (tallboyref18_Read.Llm a0 a1) ?_
  unfold tallboyref18_Read.f
  repeat' first
    | with_reducible exact tallboyref18_Read.l0Llm _ _ _ _ _
    | with_reducible exact tallboyref18_line.Llm _
    | with_reducible exact Lm.const _
    | with_reducible refine Lm.bind ?_ (fun _ => ?_)
    | with_reducible refine Lm.ite ?_ ?_
    | refine Lm.bind ?_ (fun _ => ?_)
    | refine Lm.ite ?_ ?_
theorem tallboyref15_Same.j0L_eq (x26 : Bool) (z6 : Int) (z1 : List (S47)) (z7 : Int) (z8 : Int) (z2 : List (S47)) (z9 : Int) : tallboyref15_Same.j0L x26 z6 z1 z7 z8 z2 z9 = (if x26 = true then (some false) else (tallboyref15_Same.l0L 0 z6 z1 z7 z8 z2 z9)) := by
  refine Lm.unique (tallboyref15_Same.j0Llm x26 z6 z1 z7 z8 z2 z9) ?_
  refine Lm.step rfl (f := fun k => tallboyref15_Same.j0 (k + 1) x26 z6 z1 z7 z8 z2 z9) (fun _ => rfl) ?_; simp only [tallboyref15_Same.j0]
  repeat' first
    | with_reducible exact tallboyref15_Same.l0Llm _ _ _ _ _ _ _
    | with_reducible exact Lm.const _
    | with_reducible refine Lm.bind ?_ (fun _ => ?_)
    | with_reducible refine Lm.ite ?_ ?_
    | refine Lm.bind ?_ (fun _ => ?_)
    | refine Lm.ite ?_ ?_
theorem tallboyref15_Same.l0L_eq (x5 : Int) (z6 : Int) (z1 : List (S47)) (z7 : Int) (z8 : Int) (z2 : List (S47)) (z9 : Int) : tallboyref15_Same.l0L x5 z6 z1 z7 z8 z2 z9 = (if x5 < (z1.length : Int) then (if 0 ≤ x5 then (if x5 < (z2.length : Int) then (if (!((((rd_T47 z1 x5).f0).toList) == (((rd_T47 z2 x5).f0).toList)) || (!(((rd_T47 z1 x5).f1) == ((rd_T47 z2 x5).f1)) || (!((((rd_T47 z1 x5).f2).toList) == (((rd_T47 z2 x5).f2).toList)) || (!(((rd_T47 z1 x5).f3) == ((rd_T47 z2 x5).f3)))))) = true then (some false) else (tallboyref15_Same.l0L (wrap64 (x5 + 1)) z6 z1 z7 z8 z2 z9)) else (none)) else (none)) else (some true)) := by
  refine Lm.unique (tallboyref15_Same.l0Llm x5 z6 z1 z7 z8 z2 z9) ?_
  refine Lm.step rfl (f := fun k => tallboyref15_Same.l0 (k + 1) x5 z6 z1 z7 z8 z2 z9) (fun _ => rfl) ?_; simp only [tallboyref15_Same.l0]
  repeat' first
    | with_reducible exact tallboyref15_Same.l0Llm _ _ _ _ _ _ _
    | with_reducible exact Lm.const _
    | with_reducible refine Lm.bind ?_ (fun _ => ?_)
    | with_reducible refine Lm.ite ?_ ?_
    | refine Lm.bind ?_ (fun _ => ?_)
    | refine Lm.ite ?_ ?_
theorem tallboyref15_Same.L_eq (a0_0 : Int) (l0_1 : List (S47)) (a0_2 : Int) (a1_0 : Int) (l1_1 : List (S47)) (a1_2 : Int) : tallboyref15_Same.L a0_0 l0_1 a0_2 a1_0 l1_1 a1_2 = (if a0_0 = a1_0 then (if a0_2 = a1_2 then (tallboyref15_Same.j0L ((l0_1.length : Int) != (l1_1.length : Int)) a0_0 l0_1 a0_2 a1_0 l1_1 a1_2) else (tallboyref15_Same.j0L true a0_0 l0_1 a0_2 a1_0 l1_1 a1_2)) else (tallboyref15_Same.j0L true a0_0 l0_1 a0_2 a1_0 l1_1 a1_2)) := by
  refine Lm.unique (tallboyref15_Same.Llm a0_0 l0_1 a0_2 a1_0 l1_1 a1_2) ?_
  unfold tallboyref15_Same.f
  repeat' first
    | with_reducible exact tallboyref15_Same.j0Llm _ _ _ _ _ _ _
    | with_reducible exact Lm.const _
    | with_reducible refine Lm.bind ?_ (fun _ => ?_)
    | with_reducible refine Lm.ite ?_ ?_
    | refine Lm.bind ?_ (fun _ => ?_)
    | refine Lm.ite ?_ ?_
theorem tallboylaw16_From.l0L_eq (x4 : Int) (x225000 : Int) (z4 : List (S60)) (x225002 : Int) (zb : Int) (za : List (S47)) (zc : Int) : tallboylaw16_From.l0L x4 x225000 z4 x225002 zb za zc = (if x4 < (z4.length : Int) then (if 0 ≤ x4 then (if za.length < 2932031007402 then (tallboylaw16_From.l0L (wrap64 (x4 + 1)) x225000 z4 x225002 zb (za ++ [(⟨(rd_T60 z4 x4).f0, (rd_T60 z4 x4).f1, (rd_T60 z4 x4).f2, (rd_T60 z4 x4).f3⟩ : S47)]) zc) else (none)) else (none)) else (some (zb, za, zc))) := by
  refine Lm.unique (tallboylaw16_From.l0Llm x4 x225000 z4 x225002 zb za zc) ?_
  refine Lm.step rfl (f := fun k => tallboylaw16_From.l0 (k + 1) x4 x225000 z4 x225002 zb za zc) (fun _ => rfl) ?_; simp only [tallboylaw16_From.l0]
  repeat' first
    | with_reducible exact tallboylaw16_From.l0Llm _ _ _ _ _ _ _
    | with_reducible exact Lm.const _
    | with_reducible refine Lm.bind ?_ (fun _ => ?_)
    | with_reducible refine Lm.ite ?_ ?_
    | refine Lm.bind ?_ (fun _ => ?_)
    | refine Lm.ite ?_ ?_
theorem tallboylaw16_From.L_eq (a0_0 : Int) (l0_1 : List (S60)) (a0_2 : Int) : tallboylaw16_From.L a0_0 l0_1 a0_2 = (tallboylaw16_From.l0L 0 a0_0 l0_1 a0_2 a0_0 ([] : List (S47)) a0_2) := by
  refine Lm.unique (tallboylaw16_From.Llm a0_0 l0_1 a0_2) ?_
  unfold tallboylaw16_From.f
  repeat' first
    | with_reducible exact tallboylaw16_From.l0Llm _ _ _ _ _ _ _
    | with_reducible exact Lm.const _
    | with_reducible refine Lm.bind ?_ (fun _ => ?_)
    | with_reducible refine Lm.ite ?_ ?_
    | refine Lm.bind ?_ (fun _ => ?_)
    | refine Lm.ite ?_ ?_
theorem tallboylaw18_ReplyReads.L_eq (a0 : Int) (a1 : ByteArray) : tallboylaw18_ReplyReads.L a0 a1 = (if (a1.size : Int) > 20000 then (some true) else ((reply_Read.L a0 a1).bind fun bt232 => ((tallboyref18_Read.L a0 a1).bind fun bt240 => ((tallboylaw16_From.L bt232.1 bt232.2.1 bt232.2.2.1).bind fun bt248 => ((tallboyref15_Same.L bt248.1 bt248.2.1 bt248.2.2 bt240.1 bt240.2.1 bt240.2.2.1).bind fun t253 => (if t253 = true then (if bt232.2.2.2.1 = bt240.2.2.2.1 then (some (bt232.2.2.2.2 == bt240.2.2.2.2)) else (none)) else (none))))))) := by
  refine Lm.unique (tallboylaw18_ReplyReads.Llm a0 a1) ?_
  unfold tallboylaw18_ReplyReads.f
  repeat' first
    | with_reducible exact tallboyref15_Same.Llm _ _ _ _ _ _
    | with_reducible exact tallboylaw16_From.Llm _ _ _
    | with_reducible exact tallboyref18_Read.Llm _ _
    | with_reducible exact reply_Read.Llm _ _
    | with_reducible exact Lm.const _
    | with_reducible refine Lm.bind ?_ (fun _ => ?_)
    | with_reducible refine Lm.ite ?_ ?_
    | refine Lm.bind ?_ (fun _ => ?_)
    | refine Lm.ite ?_ ?_
end Go.Proofs.YtdgpagocccabdaaDoor.P
