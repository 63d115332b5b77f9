/- Lean functions for the Go functions that the laws of this seat use, and the proofs that the Go code computes them; conditions: the readings that each theorem names. Written by a program. -/
import Derived.Test.YtdgpagocccabdaaDoorPx0
import Derived.Test.YtdgpagocccabdaaDoorPx3
import Derived.Test.YtdgpagocccabdaaDoorPx9
import Derived.Test.YtdgpagocccabdaaDoorPx10
import Derived.Test.YtdgpagocccabdaaDoorPx24
import Derived.Test.YtdgpagocccabdaaDoorPx25
import Derived.Test.YtdgpagocccabdaaDoorPx29
import Derived.Test.YtdgpagocccabdaaDoorPx31
import Derived.Test.YtdgpagocccabdaaDoorShort
namespace Go.Proofs.YtdgpagocccabdaaDoor.P
open Go.RowKit Go.Proofs.YtdgpagocccabdaaDoorW.PrintWords Go.Proofs.YtdgpagocccabdaaDoorW.PrintLast Go.Proofs.YtdgpagocccabdaaDoorW.PrintMore
set_option linter.unusedVariables false
set_option linter.unusedSimpArgs false

/-! ### tallboylaw18_ReplyBack: function 5 -/
mutual
def tallboylaw18_ReplyBack.j0 : Nat → Int → ByteArray → Bool → Int → List (S47) → Int → Option (Bool)
 | 0, _, _, _, _, _, _ => none
 | k + 1, x0, x2, x37, z0, z2, z1 => if x37 = true then (some true) else (if z0 = 7 then (tallboylaw18_ReplyBack.j1 k x0 x2 z0 z2 z1) else (tallboylaw18_ReplyBack.j1 k x0 x2 z0 z2 0))
def tallboylaw18_ReplyBack.j1 : Nat → Int → ByteArray → Int → List (S47) → Int → Option (Bool)
 | 0, _, _, _, _, _ => none
 | k + 1, x0, x2, z0, z2, z1 => if z0 = 1 then ((some (([] : List (S47)) : List (S47))).bind fun y283 => (if y283.length + z2.length < 2932031007402 then (tallboylaw18_ReplyBack.l0 k x0 x2 (y283 ++ z2) 0 z0 z2 z1) else (none))) else (tallboylaw18_ReplyBack.l1 k x0 x2 (([] : List (S47))) 0 z0 z1)
def tallboylaw18_ReplyBack.l0 : Nat → Int → ByteArray → List (S47) → Int → Int → List (S47) → Int → Option (Bool)
 | 0, _, _, _, _, _, _, _ => none
 | k + 1, x0, x2, x7, x8, z0, z2, z1 => if x8 < (x7.length : Int) then (if 0 ≤ x8 then ((tallboyref04_Key.f k ((rd_T47 x7 x8).f0)).bind fun t290 => (if t290 = true then (tallboylaw18_ReplyBack.j3 k x0 x2 x7 x8 (decide ((((rd_T47 x7 x8).f2).size : Int) > 2000)) z0 z2 z1) else (tallboylaw18_ReplyBack.j3 k x0 x2 x7 x8 true z0 z2 z1))) else (none)) else ((tallboylaw18_To.f k z0 x7 z1).bind fun bt294 => ((reply_Text.f x0 bt294.1 bt294.2.1 bt294.2.2).bind fun t299 => (if (t299.size : Int) < 3 then (tallboylaw18_ReplyBack.j4 k x0 x2 t299 true z0 x7 z1) else (if 0 ≤ (wrap64 ((t299.size : Int) - 2)) then (if (wrap64 ((t299.size : Int) - 2)) ≤ (t299.size : Int) then (tallboylaw18_ReplyBack.j4 k x0 x2 t299 ((t299.extract ((wrap64 ((t299.size : Int) - 2)) : Int).toNat t299.size).toList != ([13, 10] : List UInt8)) z0 x7 z1) else (none)) else (none)))))
def tallboylaw18_ReplyBack.j3 : Nat → Int → ByteArray → List (S47) → Int → Bool → Int → List (S47) → Int → Option (Bool)
 | 0, _, _, _, _, _, _, _, _ => none
 | k + 1, x0, x2, x7, x8, x71, z0, z2, z1 => if x71 = true then (some true) else ((verb_Shows.f x0).bind fun t292 => (if t292 = true then (tallboylaw18_ReplyBack.l0 k x0 x2 x7 (wrap64 (x8 + 1)) z0 z2 z1) else (if 0 ≤ x8 then (if x8 < (x7.length : Int) then (tallboylaw18_ReplyBack.l0 k x0 x2 (x7.set (x8 : Int).toNat (⟨(rd_T47 x7 x8).f0, (rd_T47 x7 x8).f1, (rd_T47 x7 x8).f2, 0⟩ : S47)) (wrap64 (x8 + 1)) z0 z2 z1) else (none)) else (none))))
def tallboylaw18_ReplyBack.j4 : Nat → Int → ByteArray → ByteArray → Bool → Int → List (S47) → Int → Option (Bool)
 | 0, _, _, _, _, _, _, _ => none
 | k + 1, x0, x2, x9, x95, z0, z2, z1 => if x95 = true then (none) else (if x9.size + x2.size ≤ 9223372036854775807 then ((reply_Read.f k x0 (x9 ++ x2)).bind fun bt300 => (if bt300.2.2.2.2 = 0 then (if bt300.2.2.2.1 = (x9.size : Int) then ((tallboylaw16_From.f k bt300.1 bt300.2.1 bt300.2.2.1).bind fun bt308 => ((tallboyref15_Same.f k bt308.1 bt308.2.1 bt308.2.2 z0 z2 z1).bind fun t313 => (some t313))) else (none)) else (none))) else (none))
def tallboylaw18_ReplyBack.l1 : Nat → Int → ByteArray → List (S47) → Int → Int → Int → Option (Bool)
 | 0, _, _, _, _, _, _ => none
 | k + 1, x0, x2, x7, x8, z0, z1 => if x8 < (x7.length : Int) then (if 0 ≤ x8 then ((tallboyref04_Key.f k ((rd_T47 x7 x8).f0)).bind fun t318 => (if t318 = true then (tallboylaw18_ReplyBack.j6 k x0 x2 x7 x8 (decide ((((rd_T47 x7 x8).f2).size : Int) > 2000)) z0 z1) else (tallboylaw18_ReplyBack.j6 k x0 x2 x7 x8 true z0 z1))) else (none)) else ((tallboylaw18_To.f k z0 x7 z1).bind fun bt322 => ((reply_Text.f x0 bt322.1 bt322.2.1 bt322.2.2).bind fun t327 => (if (t327.size : Int) < 3 then (tallboylaw18_ReplyBack.j7 k x0 x2 t327 true z0 x7 z1) else (if 0 ≤ (wrap64 ((t327.size : Int) - 2)) then (if (wrap64 ((t327.size : Int) - 2)) ≤ (t327.size : Int) then (tallboylaw18_ReplyBack.j7 k x0 x2 t327 ((t327.extract ((wrap64 ((t327.size : Int) - 2)) : Int).toNat t327.size).toList != ([13, 10] : List UInt8)) z0 x7 z1) else (none)) else (none)))))
def tallboylaw18_ReplyBack.j6 : Nat → Int → ByteArray → List (S47) → Int → Bool → Int → Int → Option (Bool)
 | 0, _, _, _, _, _, _, _ => none
 | k + 1, x0, x2, x7, x8, x71, z0, z1 => if x71 = true then (some true) else ((verb_Shows.f x0).bind fun t320 => (if t320 = true then (tallboylaw18_ReplyBack.l1 k x0 x2 x7 (wrap64 (x8 + 1)) z0 z1) else (if 0 ≤ x8 then (if x8 < (x7.length : Int) then (tallboylaw18_ReplyBack.l1 k x0 x2 (x7.set (x8 : Int).toNat (⟨(rd_T47 x7 x8).f0, (rd_T47 x7 x8).f1, (rd_T47 x7 x8).f2, 0⟩ : S47)) (wrap64 (x8 + 1)) z0 z1) else (none)) else (none))))
def tallboylaw18_ReplyBack.j7 : Nat → Int → ByteArray → ByteArray → Bool → Int → List (S47) → Int → Option (Bool)
 | 0, _, _, _, _, _, _, _ => none
 | k + 1, x0, x2, x9, x95, z0, z2, z1 => if x95 = true then (none) else (if x9.size + x2.size ≤ 9223372036854775807 then ((reply_Read.f k x0 (x9 ++ x2)).bind fun bt328 => (if bt328.2.2.2.2 = 0 then (if bt328.2.2.2.1 = (x9.size : Int) then ((tallboylaw16_From.f k bt328.1 bt328.2.1 bt328.2.2.1).bind fun bt336 => ((tallboyref15_Same.f k bt336.1 bt336.2.1 bt336.2.2 z0 z2 z1).bind fun t341 => (some t341))) else (none)) else (none))) else (none))
end
def tallboylaw18_ReplyBack.f (k : Nat) (a0 : Int) (a1_0 : Int) (l1_1 : List (S47)) (a1_2 : Int) (a2 : ByteArray) : Option (Bool) := (tallboylaw18_works.f k).bind fun t281 => (if t281 = true then ((tallboylaw18_Great.f k a1_0 l1_1 a1_2).bind fun t282 => (if t282 = true then (tallboylaw18_ReplyBack.j0 k a0 a2 true a1_0 l1_1 a1_2) else (if (l1_1.length : Int) > 100 then (tallboylaw18_ReplyBack.j0 k a0 a2 true a1_0 l1_1 a1_2) else (if (a2.size : Int) > 1000 then (tallboylaw18_ReplyBack.j0 k a0 a2 true a1_0 l1_1 a1_2) else (if a1_0 < 1 then (tallboylaw18_ReplyBack.j0 k a0 a2 true a1_0 l1_1 a1_2) else (tallboylaw18_ReplyBack.j0 k a0 a2 (decide (a1_0 > 12)) a1_0 l1_1 a1_2)))))) else (none))
theorem tallboylaw18_ReplyBack.mono_l : ∀ k, (∀ y0 y1 y2 y3 y4 y5, LeO (tallboylaw18_ReplyBack.j0 k y0 y1 y2 y3 y4 y5) (tallboylaw18_ReplyBack.j0 (k + 1) y0 y1 y2 y3 y4 y5)) ∧ (∀ y0 y1 y2 y3 y4, LeO (tallboylaw18_ReplyBack.j1 k y0 y1 y2 y3 y4) (tallboylaw18_ReplyBack.j1 (k + 1) y0 y1 y2 y3 y4)) ∧ (∀ y0 y1 y2 y3 y4 y5 y6, LeO (tallboylaw18_ReplyBack.l0 k y0 y1 y2 y3 y4 y5 y6) (tallboylaw18_ReplyBack.l0 (k + 1) y0 y1 y2 y3 y4 y5 y6)) ∧ (∀ y0 y1 y2 y3 y4 y5 y6 y7, LeO (tallboylaw18_ReplyBack.j3 k y0 y1 y2 y3 y4 y5 y6 y7) (tallboylaw18_ReplyBack.j3 (k + 1) y0 y1 y2 y3 y4 y5 y6 y7)) ∧ (∀ y0 y1 y2 y3 y4 y5 y6, LeO (tallboylaw18_ReplyBack.j4 k y0 y1 y2 y3 y4 y5 y6) (tallboylaw18_ReplyBack.j4 (k + 1) y0 y1 y2 y3 y4 y5 y6)) ∧ (∀ y0 y1 y2 y3 y4 y5, LeO (tallboylaw18_ReplyBack.l1 k y0 y1 y2 y3 y4 y5) (tallboylaw18_ReplyBack.l1 (k + 1) y0 y1 y2 y3 y4 y5)) ∧ (∀ y0 y1 y2 y3 y4 y5 y6, LeO (tallboylaw18_ReplyBack.j6 k y0 y1 y2 y3 y4 y5 y6) (tallboylaw18_ReplyBack.j6 (k + 1) y0 y1 y2 y3 y4 y5 y6)) ∧ (∀ y0 y1 y2 y3 y4 y5 y6, LeO (tallboylaw18_ReplyBack.j7 k y0 y1 y2 y3 y4 y5 y6) (tallboylaw18_ReplyBack.j7 (k + 1) y0 y1 y2 y3 y4 y5 y6))
 | 0 => ⟨fun _ _ _ _ _ _ r h => by simp [tallboylaw18_ReplyBack.j0] at h, fun _ _ _ _ _ r h => by simp [tallboylaw18_ReplyBack.j1] at h, fun _ _ _ _ _ _ _ r h => by simp [tallboylaw18_ReplyBack.l0] at h, fun _ _ _ _ _ _ _ _ r h => by simp [tallboylaw18_ReplyBack.j3] at h, fun _ _ _ _ _ _ _ r h => by simp [tallboylaw18_ReplyBack.j4] at h, fun _ _ _ _ _ _ r h => by simp [tallboylaw18_ReplyBack.l1] at h, fun _ _ _ _ _ _ _ r h => by simp [tallboylaw18_ReplyBack.j6] at h, fun _ _ _ _ _ _ _ r h => by simp [tallboylaw18_ReplyBack.j7] at h⟩
 | k + 1 => by
  obtain ⟨ih0, ih1, ih2, ih3, ih4, ih5, ih6, ih7⟩ := tallboylaw18_ReplyBack.mono_l k; refine ⟨?_, ?_, ?_, ?_, ?_, ?_, ?_, ?_⟩
  all_goals intros
  all_goals (first | unfold tallboylaw18_ReplyBack.j0 | unfold tallboylaw18_ReplyBack.j1 | unfold tallboylaw18_ReplyBack.l0 | unfold tallboylaw18_ReplyBack.j3 | unfold tallboylaw18_ReplyBack.j4 | unfold tallboylaw18_ReplyBack.l1 | unfold tallboylaw18_ReplyBack.j6 | unfold tallboylaw18_ReplyBack.j7)
  all_goals repeat' first | (with_reducible first | apply ih0 | apply ih1 | apply ih2 | apply ih3 | apply ih4 | apply ih5 | apply ih6 | apply ih7 | apply reply_Read.mono | apply tallboylaw16_From.mono | apply tallboylaw18_Great.mono | apply tallboylaw18_To.mono | apply tallboylaw18_works.mono | apply tallboyref04_Key.mono | apply tallboyref15_Same.mono | exact LeO.refl _ | exact LeO.none _ | refine LeO.ite ?_ ?_ | refine LeO.bind ?_ (fun _ => ?_)) | apply ih0 | apply ih1 | apply ih2 | apply ih3 | apply ih4 | apply ih5 | apply ih6 | apply ih7 | apply reply_Read.mono | apply tallboylaw16_From.mono | apply tallboylaw18_Great.mono | apply tallboylaw18_To.mono | apply tallboylaw18_works.mono | apply tallboyref04_Key.mono | apply tallboyref15_Same.mono | exact LeO.none _ | refine LeO.ite ?_ ?_ | refine LeO.bind ?_ (fun _ => ?_)
theorem tallboylaw18_ReplyBack.mono : ∀ a0 a1 a2 a3 a4 k, LeO (tallboylaw18_ReplyBack.f k a0 a1 a2 a3 a4) (tallboylaw18_ReplyBack.f (k + 1) a0 a1 a2 a3 a4) := by
 intro a0 a1 a2 a3 a4 k
 obtain ⟨ih0, ih1, ih2, ih3, ih4, ih5, ih6, ih7⟩ := tallboylaw18_ReplyBack.mono_l k; unfold tallboylaw18_ReplyBack.f
 repeat' first | (with_reducible first | apply ih0 | apply ih1 | apply ih2 | apply ih3 | apply ih4 | apply ih5 | apply ih6 | apply ih7 | apply reply_Read.mono | apply tallboylaw16_From.mono | apply tallboylaw18_Great.mono | apply tallboylaw18_To.mono | apply tallboylaw18_works.mono | apply tallboyref04_Key.mono | apply tallboyref15_Same.mono | exact LeO.refl _ | exact LeO.none _ | refine LeO.ite ?_ ?_ | refine LeO.bind ?_ (fun _ => ?_)) | apply ih0 | apply ih1 | apply ih2 | apply ih3 | apply ih4 | apply ih5 | apply ih6 | apply ih7 | apply reply_Read.mono | apply tallboylaw16_From.mono | apply tallboylaw18_Great.mono | apply tallboylaw18_To.mono | apply tallboylaw18_works.mono | apply tallboyref04_Key.mono | apply tallboyref15_Same.mono | exact LeO.none _ | refine LeO.ite ?_ ?_ | refine LeO.bind ?_ (fun _ => ?_)
def tallboylaw18_ReplyBack.T22 : Bool × List (List Nat × List Nat) := (true, [([], []), ([0], [0]), ([1], [1]), ([2], [2]), ([2], [2]), ([4, 2], [2, 4]), ([3, 5, 2], [2, 3, 5]), ([2, 6], [2, 6]), ([7, 2], [7]), ([8], [8]), ([9, 8, 8], [8, 9]), ([8], [8]), ([10, 11, 10, 8], [8, 10, 11]), ([8, 12], [8, 12]), ([13, 12, 0, 1, 2, 3, 4, 5, 6, 7, 8, 9, 10, 11, 12, 13], [13])])
def tallboylaw18_ReplyBack.B22 : List Nat := [0, 1, 3, 7, 7, 23, 63, 127, 255, 511, 1023, 511, 4095, 8191, 16383]
theorem tallboylaw18_ReplyBack.tab22 : rtab .any (opsOf Tryd.f5 22) = tallboylaw18_ReplyBack.T22 := by kernel_rfl
theorem tallboylaw18_ReplyBack.bits22 : waitsOk tallboylaw18_ReplyBack.T22.2 tallboylaw18_ReplyBack.B22 = true := by kernel_rfl

end Go.Proofs.YtdgpagocccabdaaDoor.P
