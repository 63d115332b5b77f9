/- Lean functions for the Go functions that the laws of this seat use, and the proofs that the Go code computes them; conditions: the readings that each theorem names. Written by a program. -/
import Derived.Test.YtbfgopinbpbddaaDoorPx0
import Derived.Test.YtbfgopinbpbddaaDoorPx14
import Derived.Test.YtbfgopinbpbddaaDoorPx15
import Derived.Test.YtbfgopinbpbddaaDoorShort
namespace Go.Proofs.YtbfgopinbpbddaaDoor.P
open Go.RowKit Go.Proofs.YtbfgopinbpbddaaDoorW.PrintWords Go.Proofs.YtbfgopinbpbddaaDoorW.PrintLast Go.Proofs.YtbfgopinbpbddaaDoorW.PrintMore
set_option linter.unusedVariables false
set_option linter.unusedSimpArgs false

/-! ### tallboyref15_Name: function 30 -/
/-! ### tallboyref02_Text: function 32 -/
def tallboyref02_Text.l0 : Nat → Int → ByteArray → Option (ByteArray)
 | 0, _, _ => none
 | k + 1, x0, x3 => if x0 > 0 then ((some (([(IntKind.u64.wrap (48 + (Int.tmod x0 10))) % 256] : List Int) : List Int)).bind fun y179 => (if (strOfNums y179).size + x3.size ≤ 9223372036854775807 then (tallboyref02_Text.l0 k (IntKind.u64.wrap (Int.tdiv x0 10)) ((strOfNums y179) ++ x3)) else (none))) else (some x3)
def tallboyref02_Text.f (k : Nat) (a0 : Int) : Option (ByteArray) := tallboyref02_Text.l0 k (IntKind.u64.wrap (Int.tdiv a0 10)) (strOfNums (([(IntKind.u64.wrap (48 + (Int.tmod a0 10))) % 256] : List Int)))
theorem tallboyref02_Text.mono_l : ∀ k, (∀ y0 y1, LeO (tallboyref02_Text.l0 k y0 y1) (tallboyref02_Text.l0 (k + 1) y0 y1))
 | 0 => fun _ _ r h => by simp [tallboyref02_Text.l0] at h
 | k + 1 => by
  have ih0 := tallboyref02_Text.mono_l k
  ·intro y0 y1
   unfold tallboyref02_Text.l0
   repeat' first | (with_reducible first | apply ih0 | exact LeO.refl _ | exact LeO.none _ | refine LeO.ite ?_ ?_ | refine LeO.bind ?_ (fun _ => ?_)) | apply ih0 | exact LeO.none _ | refine LeO.ite ?_ ?_ | refine LeO.bind ?_ (fun _ => ?_)
theorem tallboyref02_Text.mono : ∀ a0 k, LeO (tallboyref02_Text.f k a0) (tallboyref02_Text.f (k + 1) a0) := by
 intro a0 k
 have ih0 := tallboyref02_Text.mono_l k; unfold tallboyref02_Text.f
 repeat' first | (with_reducible first | apply ih0 | exact LeO.refl _ | exact LeO.none _ | refine LeO.ite ?_ ?_ | refine LeO.bind ?_ (fun _ => ?_)) | apply ih0 | exact LeO.none _ | refine LeO.ite ?_ ?_ | refine LeO.bind ?_ (fun _ => ?_)
/-! ### tallboyref02_TextSigned: function 31 -/
def tallboyref02_TextSigned.f (k : Nat) (a0 : Int) : Option (ByteArray) := if a0 < 0 then ((tallboyref02_Text.f k (IntKind.u64.wrap ((IntKind.u64.wrap (wrap64 (-(wrap64 (a0 + 1))))) + 1))).bind fun t182 => (if 1 + t182.size ≤ 9223372036854775807 then (some ((⟨#[45]⟩ : ByteArray) ++ t182)) else (none))) else ((tallboyref02_Text.f k (IntKind.u64.wrap (a0))).bind fun t183 => (some t183))
theorem tallboyref02_TextSigned.mono : ∀ a0 k, LeO (tallboyref02_TextSigned.f k a0) (tallboyref02_TextSigned.f (k + 1) a0) := by
 intro a0 k
 unfold tallboyref02_TextSigned.f
 repeat' first | (with_reducible first | apply tallboyref02_Text.mono | exact LeO.refl _ | exact LeO.none _ | refine LeO.ite ?_ ?_ | refine LeO.bind ?_ (fun _ => ?_)) | apply tallboyref02_Text.mono | exact LeO.none _ | refine LeO.ite ?_ ?_ | refine LeO.bind ?_ (fun _ => ?_)
/-! ### tallboyref17_Write: function 11 -/
mutual
def tallboyref17_Write.j0 : Nat → ByteArray → Bool → Int → List ByteArray → Int → Int → ByteArray → Int → Int → Bool → Option (ByteArray × Int)
 | 0, _, _, _, _, _, _, _, _, _, _ => none
 | k + 1, x5, x22, z0, z1, z4, z2, z5, z6, z3, z7 => if x22 = true then (if x5.size + 1 ≤ 9223372036854775807 then ((tallboyref02_TextSigned.f k z2).bind fun t187 => (if (x5 ++ (⟨#[32]⟩ : ByteArray)).size + t187.size ≤ 9223372036854775807 then (tallboyref17_Write.j1 k ((x5 ++ (⟨#[32]⟩ : ByteArray)) ++ t187) z0 z1 z4 z2 z5 z6 z3 z7) else (none))) else (none)) else (tallboyref17_Write.j1 k x5 z0 z1 z4 z2 z5 z6 z3 z7)
def tallboyref17_Write.j1 : Nat → ByteArray → Int → List ByteArray → Int → Int → ByteArray → Int → Int → Bool → Option (ByteArray × Int)
 | 0, _, _, _, _, _, _, _, _, _ => none
 | k + 1, x5, z0, z1, z4, z2, z5, z6, z3, z7 => tallboyref17_Write.l0 k x5 0 z0 z1 z4 z2 z5 z6 z3 z7
def tallboyref17_Write.l0 : Nat → ByteArray → Int → Int → List ByteArray → Int → Int → ByteArray → Int → Int → Bool → Option (ByteArray × Int)
 | 0, _, _, _, _, _, _, _, _, _, _ => none
 | k + 1, x5, x6, z0, z1, z4, z2, z5, z6, z3, z7 => if x6 < (z1.length : Int) then (if x5.size + 1 ≤ 9223372036854775807 then (if 0 ≤ x6 then (if (x5 ++ (⟨#[32]⟩ : ByteArray)).size + (rdOf ByteArray.empty z1 x6).size ≤ 9223372036854775807 then (tallboyref17_Write.l0 k ((x5 ++ (⟨#[32]⟩ : ByteArray)) ++ (rdOf ByteArray.empty z1 x6)) (wrap64 (x6 + 1)) z0 z1 z4 z2 z5 z6 z3 z7) else (none)) else (none)) else (none)) else ((tallboyref15_Stores.f z0).bind fun t189 => (if t189 = true then (if x5.size + 1 ≤ 9223372036854775807 then ((tallboyref02_Text.f k (IntKind.u64.wrap (z4))).bind fun t190 => (if (x5 ++ (⟨#[32]⟩ : ByteArray)).size + t190.size ≤ 9223372036854775807 then (if ((x5 ++ (⟨#[32]⟩ : ByteArray)) ++ t190).size + 1 ≤ 9223372036854775807 then ((tallboyref02_TextSigned.f k z2).bind fun t191 => (if (((x5 ++ (⟨#[32]⟩ : ByteArray)) ++ t190) ++ (⟨#[32]⟩ : ByteArray)).size + t191.size ≤ 9223372036854775807 then (if ((((x5 ++ (⟨#[32]⟩ : ByteArray)) ++ t190) ++ (⟨#[32]⟩ : ByteArray)) ++ t191).size + 1 ≤ 9223372036854775807 then ((tallboyref02_Text.f k (IntKind.u64.wrap ((z5.size : Int)))).bind fun t192 => (if (((((x5 ++ (⟨#[32]⟩ : ByteArray)) ++ t190) ++ (⟨#[32]⟩ : ByteArray)) ++ t191) ++ (⟨#[32]⟩ : ByteArray)).size + t192.size ≤ 9223372036854775807 then (if z0 = 10 then (if ((((((x5 ++ (⟨#[32]⟩ : ByteArray)) ++ t190) ++ (⟨#[32]⟩ : ByteArray)) ++ t191) ++ (⟨#[32]⟩ : ByteArray)) ++ t192).size + 1 ≤ 9223372036854775807 then ((tallboyref02_Text.f k z6).bind fun t193 => (if (((((((x5 ++ (⟨#[32]⟩ : ByteArray)) ++ t190) ++ (⟨#[32]⟩ : ByteArray)) ++ t191) ++ (⟨#[32]⟩ : ByteArray)) ++ t192) ++ (⟨#[32]⟩ : ByteArray)).size + t193.size ≤ 9223372036854775807 then (tallboyref17_Write.j3 k ((((((((x5 ++ (⟨#[32]⟩ : ByteArray)) ++ t190) ++ (⟨#[32]⟩ : ByteArray)) ++ t191) ++ (⟨#[32]⟩ : ByteArray)) ++ t192) ++ (⟨#[32]⟩ : ByteArray)) ++ t193) z0 z1 z4 z2 z5 z6 z3 z7) else (none))) else (none)) else (tallboyref17_Write.j3 k ((((((x5 ++ (⟨#[32]⟩ : ByteArray)) ++ t190) ++ (⟨#[32]⟩ : ByteArray)) ++ t191) ++ (⟨#[32]⟩ : ByteArray)) ++ t192) z0 z1 z4 z2 z5 z6 z3 z7)) else (none))) else (none)) else (none))) else (none)) else (none))) else (none)) else (if z0 = 14 then (if x5.size + 1 ≤ 9223372036854775807 then ((tallboyref02_TextSigned.f k z2).bind fun t194 => (if (x5 ++ (⟨#[32]⟩ : ByteArray)).size + t194.size ≤ 9223372036854775807 then (tallboyref17_Write.j3 k ((x5 ++ (⟨#[32]⟩ : ByteArray)) ++ t194) z0 z1 z4 z2 z5 z6 z3 z7) else (none))) else (none)) else (if z0 = 12 then (if x5.size + 1 ≤ 9223372036854775807 then ((tallboyref02_Text.f k z3).bind fun t195 => (if (x5 ++ (⟨#[32]⟩ : ByteArray)).size + t195.size ≤ 9223372036854775807 then (tallboyref17_Write.j3 k ((x5 ++ (⟨#[32]⟩ : ByteArray)) ++ t195) z0 z1 z4 z2 z5 z6 z3 z7) else (none))) else (none)) else (if z0 = 13 then (if x5.size + 1 ≤ 9223372036854775807 then ((tallboyref02_Text.f k z3).bind fun t196 => (if (x5 ++ (⟨#[32]⟩ : ByteArray)).size + t196.size ≤ 9223372036854775807 then (tallboyref17_Write.j3 k ((x5 ++ (⟨#[32]⟩ : ByteArray)) ++ t196) z0 z1 z4 z2 z5 z6 z3 z7) else (none))) else (none)) else (tallboyref17_Write.j3 k x5 z0 z1 z4 z2 z5 z6 z3 z7))))))
def tallboyref17_Write.j3 : Nat → ByteArray → Int → List ByteArray → Int → Int → ByteArray → Int → Int → Bool → Option (ByteArray × Int)
 | 0, _, _, _, _, _, _, _, _, _ => none
 | k + 1, x5, z0, z1, z4, z2, z5, z6, z3, z7 => if z7 = true then (if x5.size + 8 ≤ 9223372036854775807 then (tallboyref17_Write.j4 k (x5 ++ (⟨#[32, 110, 111, 114, 101, 112, 108, 121]⟩ : ByteArray))) else (none)) else (tallboyref17_Write.j4 k x5)
def tallboyref17_Write.j4 : Nat → ByteArray → Option (ByteArray × Int)
 | 0, _ => none
 | k + 1, x5 => if (x5.size : Int) > 160 then (some ((⟨#[]⟩ : ByteArray), 7)) else (some (x5, 0))
end
theorem tallboyref17_Write.mono_l : ∀ k, (∀ y0 y1 y2 y3 y4 y5 y6 y7 y8 y9, LeO (tallboyref17_Write.j0 k y0 y1 y2 y3 y4 y5 y6 y7 y8 y9) (tallboyref17_Write.j0 (k + 1) y0 y1 y2 y3 y4 y5 y6 y7 y8 y9)) ∧ (∀ y0 y1 y2 y3 y4 y5 y6 y7 y8, LeO (tallboyref17_Write.j1 k y0 y1 y2 y3 y4 y5 y6 y7 y8) (tallboyref17_Write.j1 (k + 1) y0 y1 y2 y3 y4 y5 y6 y7 y8)) ∧ (∀ y0 y1 y2 y3 y4 y5 y6 y7 y8 y9, LeO (tallboyref17_Write.l0 k y0 y1 y2 y3 y4 y5 y6 y7 y8 y9) (tallboyref17_Write.l0 (k + 1) y0 y1 y2 y3 y4 y5 y6 y7 y8 y9)) ∧ (∀ y0 y1 y2 y3 y4 y5 y6 y7 y8, LeO (tallboyref17_Write.j3 k y0 y1 y2 y3 y4 y5 y6 y7 y8) (tallboyref17_Write.j3 (k + 1) y0 y1 y2 y3 y4 y5 y6 y7 y8)) ∧ (∀ y0, LeO (tallboyref17_Write.j4 k y0) (tallboyref17_Write.j4 (k + 1) y0))
 | 0 => ⟨fun _ _ _ _ _ _ _ _ _ _ r h => by simp [tallboyref17_Write.j0] at h, fun _ _ _ _ _ _ _ _ _ r h => by simp [tallboyref17_Write.j1] at h, fun _ _ _ _ _ _ _ _ _ _ r h => by simp [tallboyref17_Write.l0] at h, fun _ _ _ _ _ _ _ _ _ r h => by simp [tallboyref17_Write.j3] at h, fun _ r h => by simp [tallboyref17_Write.j4] at h⟩
 | k + 1 => by
  obtain ⟨ih0, ih1, ih2, ih3, ih4⟩ := tallboyref17_Write.mono_l k; refine ⟨?_, ?_, ?_, ?_, ?_⟩
  all_goals intros
  all_goals (first | unfold tallboyref17_Write.j0 | unfold tallboyref17_Write.j1 | unfold tallboyref17_Write.l0 | unfold tallboyref17_Write.j3 | unfold tallboyref17_Write.j4)
  all_goals repeat' first | (with_reducible first | apply ih0 | apply ih1 | apply ih2 | apply ih3 | apply ih4 | apply tallboyref02_Text.mono | apply tallboyref02_TextSigned.mono | apply tallboyref15_Check.mono | exact LeO.refl _ | exact LeO.none _ | refine LeO.ite ?_ ?_ | refine LeO.bind ?_ (fun _ => ?_)) | apply ih0 | apply ih1 | apply ih2 | apply ih3 | apply ih4 | apply tallboyref02_Text.mono | apply tallboyref02_TextSigned.mono | apply tallboyref15_Check.mono | exact LeO.none _ | refine LeO.ite ?_ ?_ | refine LeO.bind ?_ (fun _ => ?_)
end Go.Proofs.YtbfgopinbpbddaaDoor.P
