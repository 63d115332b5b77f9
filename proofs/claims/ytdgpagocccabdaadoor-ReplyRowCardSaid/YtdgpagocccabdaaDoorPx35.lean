/- Lean functions for the Go functions that the laws of this seat use, and the proofs that the Go code computes them; conditions: the readings that each theorem names. Written by a program. -/
import Derived.Test.YtdgpagocccabdaaDoorPx0
import Derived.Test.YtdgpagocccabdaaDoorPx3
import Derived.Test.YtdgpagocccabdaaDoorPx9
import Derived.Test.YtdgpagocccabdaaDoorPx10
import Derived.Test.YtdgpagocccabdaaDoorPx24
import Derived.Test.YtdgpagocccabdaaDoorPx25
import Derived.Test.YtdgpagocccabdaaDoorPx29
import Derived.Test.YtdgpagocccabdaaDoorPx31
import Derived.Test.YtdgpagocccabdaaDoorShort
namespace Go.Proofs.YtdgpagocccabdaaDoor.P
open Go.RowKit Go.Proofs.YtdgpagocccabdaaDoorW.PrintWords Go.Proofs.YtdgpagocccabdaaDoorW.PrintLast Go.Proofs.YtdgpagocccabdaaDoorW.PrintMore
set_option linter.unusedVariables false
set_option linter.unusedSimpArgs false

/-! ### tallboylaw18_ReplyRow: function 7 -/
mutual
def tallboylaw18_ReplyRow.l0 : Nat → Int → List (S25) → ByteArray → List (S25) → Int → Option (Bool)
 | 0, _, _, _, _, _ => none
 | k + 1, x0, x1, x5, x6, x7 => if x7 < (x1.length : Int) then (tallboylaw18_ReplyRow.j1 k x0 x1 x5 x6 x7 (decide (x7 < 12))) else (tallboylaw18_ReplyRow.j1 k x0 x1 x5 x6 x7 false)
def tallboylaw18_ReplyRow.j1 : Nat → Int → List (S25) → ByteArray → List (S25) → Int → Bool → Option (Bool)
 | 0, _, _, _, _, _, _ => none
 | k + 1, x0, x1, x5, x6, x7, x25 => if x25 = true then (if 0 ≤ x7 then (if x7 < (x1.length : Int) then ((tallboylaw18_Great.f k ((rd_T25 x1 x7).f0) ((rd_T25 x1 x7).f1) ((rd_T25 x1 x7).f2)).bind fun t363 => (if t363 = true then (tallboylaw18_ReplyRow.j2 k x0 x1 x5 x6 x7 true ((rd_T25 x1 x7).f0) ((rd_T25 x1 x7).f1) ((rd_T25 x1 x7).f2)) else (if ((rd_T25 x1 x7).f0) < 1 then (tallboylaw18_ReplyRow.j2 k x0 x1 x5 x6 x7 true ((rd_T25 x1 x7).f0) ((rd_T25 x1 x7).f1) ((rd_T25 x1 x7).f2)) else (if ((rd_T25 x1 x7).f0) > 12 then (tallboylaw18_ReplyRow.j2 k x0 x1 x5 x6 x7 true ((rd_T25 x1 x7).f0) ((rd_T25 x1 x7).f1) ((rd_T25 x1 x7).f2)) else (tallboylaw18_ReplyRow.j2 k x0 x1 x5 x6 x7 (decide ((((rd_T25 x1 x7).f1).length : Int) > 100)) ((rd_T25 x1 x7).f0) ((rd_T25 x1 x7).f1) ((rd_T25 x1 x7).f2)))))) else (none)) else (none)) else (tallboylaw18_ReplyRow.l2 k x0 x5 x6 0)
def tallboylaw18_ReplyRow.j2 : Nat → Int → List (S25) → ByteArray → List (S25) → Int → Bool → Int → List (S47) → Int → Option (Bool)
 | 0, _, _, _, _, _, _, _, _, _ => none
 | k + 1, x0, x1, x5, x6, x7, x49, z1, z0, z2 => if x49 = true then (some true) else (if z1 = 7 then (tallboylaw18_ReplyRow.j3 k x0 x1 x5 x6 x7 z1 z0 z2) else (tallboylaw18_ReplyRow.j3 k x0 x1 x5 x6 x7 z1 z0 0))
def tallboylaw18_ReplyRow.j3 : Nat → Int → List (S25) → ByteArray → List (S25) → Int → Int → List (S47) → Int → Option (Bool)
 | 0, _, _, _, _, _, _, _, _ => none
 | k + 1, x0, x1, x5, x6, x7, z1, z0, z2 => tallboylaw18_ReplyRow.l1 k x0 x1 x5 x6 x7 ([] : List (S47)) 0 z1 z0 z2
def tallboylaw18_ReplyRow.l1 : Nat → Int → List (S25) → ByteArray → List (S25) → Int → List (S47) → Int → Int → List (S47) → Int → Option (Bool)
 | 0, _, _, _, _, _, _, _, _, _, _ => none
 | k + 1, x0, x1, x5, x6, x7, x9, x10, z1, z0, z2 => if x10 < (z0.length : Int) then (tallboylaw18_ReplyRow.j5 k x0 x1 x5 x6 x7 x9 x10 (z1 == 1) z1 z0 z2) else (tallboylaw18_ReplyRow.j5 k x0 x1 x5 x6 x7 x9 x10 false z1 z0 z2)
def tallboylaw18_ReplyRow.j5 : Nat → Int → List (S25) → ByteArray → List (S25) → Int → List (S47) → Int → Bool → Int → List (S47) → Int → Option (Bool)
 | 0, _, _, _, _, _, _, _, _, _, _, _ => none
 | k + 1, x0, x1, x5, x6, x7, x9, x10, x63, z1, z0, z2 => if x63 = true then (if 0 ≤ x10 then (if x10 < (z0.length : Int) then ((tallboyref04_Key.f k ((rd_T47 z0 x10).f0)).bind fun t366 => (if t366 = true then (tallboylaw18_ReplyRow.j6 k x0 x1 x5 x6 x7 x9 x10 (decide ((((rd_T47 z0 x10).f2).size : Int) > 2000)) z1 z0 z2 ((rd_T47 z0 x10).f0) ((rd_T47 z0 x10).f1) ((rd_T47 z0 x10).f2) ((rd_T47 z0 x10).f3)) else (tallboylaw18_ReplyRow.j6 k x0 x1 x5 x6 x7 x9 x10 true z1 z0 z2 ((rd_T47 z0 x10).f0) ((rd_T47 z0 x10).f1) ((rd_T47 z0 x10).f2) ((rd_T47 z0 x10).f3)))) else (none)) else (none)) else (if x6.length < 3518437208883 then ((tallboylaw18_To.f k z1 x9 z2).bind fun bt377 => ((reply_Text.f x0 bt377.1 bt377.2.1 bt377.2.2).bind fun t382 => (if x5.size + t382.size ≤ 9223372036854775807 then (tallboylaw18_ReplyRow.l0 k x0 x1 (x5 ++ t382) (x6 ++ [(⟨z1, x9, z2⟩ : S25)]) (wrap64 (x7 + 1))) else (none)))) else (none))
def tallboylaw18_ReplyRow.j6 : Nat → Int → List (S25) → ByteArray → List (S25) → Int → List (S47) → Int → Bool → Int → List (S47) → Int → ByteArray → Int → ByteArray → Int → Option (Bool)
 | 0, _, _, _, _, _, _, _, _, _, _, _, _, _, _, _ => none
 | k + 1, x0, x1, x5, x6, x7, x9, x10, x80, z1, z0, z2, z3, z4, z5, x366003 => if x80 = true then (some true) else ((verb_Shows.f x0).bind fun t367 => (if t367 = true then (if x9.length < 2932031007402 then (tallboylaw18_ReplyRow.l1 k x0 x1 x5 x6 x7 (x9 ++ [(⟨z3, z4, z5, x366003⟩ : S47)]) (wrap64 (x10 + 1)) z1 z0 z2) else (none)) else (if x9.length < 2932031007402 then (tallboylaw18_ReplyRow.l1 k x0 x1 x5 x6 x7 (x9 ++ [(⟨z3, z4, z5, 0⟩ : S47)]) (wrap64 (x10 + 1)) z1 z0 z2) else (none))))
def tallboylaw18_ReplyRow.l2 : Nat → Int → ByteArray → List (S25) → Int → Option (Bool)
 | 0, _, _, _, _ => none
 | k + 1, x0, x5, x6, x12 => if x12 < (x6.length : Int) then ((reply_Read.f k x0 x5).bind fun bt383 => (if bt383.2.2.2.2 = 0 then (if bt383.2.2.2.1 < 1 then (tallboylaw18_ReplyRow.j8 k x0 x5 x6 x12 bt383.2.2.2.1 true) else (if bt383.2.2.2.1 > (x5.size : Int) then (tallboylaw18_ReplyRow.j8 k x0 x5 x6 x12 bt383.2.2.2.1 true) else ((tallboylaw16_From.f k bt383.1 bt383.2.1 bt383.2.2.1).bind fun bt391 => (if 0 ≤ x12 then ((tallboyref15_Same.f k bt391.1 bt391.2.1 bt391.2.2 ((rd_T25 x6 x12).f0) ((rd_T25 x6 x12).f1) ((rd_T25 x6 x12).f2)).bind fun t397 => (tallboylaw18_ReplyRow.j8 k x0 x5 x6 x12 bt383.2.2.2.1 (!t397))) else (none))))) else (tallboylaw18_ReplyRow.j8 k x0 x5 x6 x12 bt383.2.2.2.1 true))) else (some (x5.toList == ([] : List UInt8)))
def tallboylaw18_ReplyRow.j8 : Nat → Int → ByteArray → List (S25) → Int → Int → Bool → Option (Bool)
 | 0, _, _, _, _, _, _ => none
 | k + 1, x0, x5, x6, x12, x14, x135 => if x135 = true then (none) else (if 0 ≤ x14 then (if x14 ≤ (x5.size : Int) then (tallboylaw18_ReplyRow.l2 k x0 (x5.extract (x14 : Int).toNat x5.size) x6 (wrap64 (x12 + 1))) else (none)) else (none))
end
def tallboylaw18_ReplyRow.f (k : Nat) (a0 : Int) (l1 : List (S25)) : Option (Bool) := (tallboylaw18_works.f k).bind fun t360 => (if t360 = true then (tallboylaw18_ReplyRow.l0 k a0 l1 (⟨#[]⟩ : ByteArray) ([] : List (S25)) 0) else (none))
theorem tallboylaw18_ReplyRow.mono_l : ∀ k, (∀ y0 y1 y2 y3 y4, LeO (tallboylaw18_ReplyRow.l0 k y0 y1 y2 y3 y4) (tallboylaw18_ReplyRow.l0 (k + 1) y0 y1 y2 y3 y4)) ∧ (∀ y0 y1 y2 y3 y4 y5, LeO (tallboylaw18_ReplyRow.j1 k y0 y1 y2 y3 y4 y5) (tallboylaw18_ReplyRow.j1 (k + 1) y0 y1 y2 y3 y4 y5)) ∧ (∀ y0 y1 y2 y3 y4 y5 y6 y7 y8, LeO (tallboylaw18_ReplyRow.j2 k y0 y1 y2 y3 y4 y5 y6 y7 y8) (tallboylaw18_ReplyRow.j2 (k + 1) y0 y1 y2 y3 y4 y5 y6 y7 y8)) ∧ (∀ y0 y1 y2 y3 y4 y5 y6 y7, LeO (tallboylaw18_ReplyRow.j3 k y0 y1 y2 y3 y4 y5 y6 y7) (tallboylaw18_ReplyRow.j3 (k + 1) y0 y1 y2 y3 y4 y5 y6 y7)) ∧ (∀ y0 y1 y2 y3 y4 y5 y6 y7 y8 y9, LeO (tallboylaw18_ReplyRow.l1 k y0 y1 y2 y3 y4 y5 y6 y7 y8 y9) (tallboylaw18_ReplyRow.l1 (k + 1) y0 y1 y2 y3 y4 y5 y6 y7 y8 y9)) ∧ (∀ y0 y1 y2 y3 y4 y5 y6 y7 y8 y9 y10, LeO (tallboylaw18_ReplyRow.j5 k y0 y1 y2 y3 y4 y5 y6 y7 y8 y9 y10) (tallboylaw18_ReplyRow.j5 (k + 1) y0 y1 y2 y3 y4 y5 y6 y7 y8 y9 y10)) ∧ (∀ y0 y1 y2 y3 y4 y5 y6 y7 y8 y9 y10 y11 y12 y13 y14, LeO (tallboylaw18_ReplyRow.j6 k y0 y1 y2 y3 y4 y5 y6 y7 y8 y9 y10 y11 y12 y13 y14) (tallboylaw18_ReplyRow.j6 (k + 1) y0 y1 y2 y3 y4 y5 y6 y7 y8 y9 y10 y11 y12 y13 y14)) ∧ (∀ y0 y1 y2 y3, LeO (tallboylaw18_ReplyRow.l2 k y0 y1 y2 y3) (tallboylaw18_ReplyRow.l2 (k + 1) y0 y1 y2 y3)) ∧ (∀ y0 y1 y2 y3 y4 y5, LeO (tallboylaw18_ReplyRow.j8 k y0 y1 y2 y3 y4 y5) (tallboylaw18_ReplyRow.j8 (k + 1) y0 y1 y2 y3 y4 y5))
 | 0 => ⟨fun _ _ _ _ _ r h => by simp [tallboylaw18_ReplyRow.l0] at h, fun _ _ _ _ _ _ r h => by simp [tallboylaw18_ReplyRow.j1] at h, fun _ _ _ _ _ _ _ _ _ r h => by simp [tallboylaw18_ReplyRow.j2] at h, fun _ _ _ _ _ _ _ _ r h => by simp [tallboylaw18_ReplyRow.j3] at h, fun _ _ _ _ _ _ _ _ _ _ r h => by simp [tallboylaw18_ReplyRow.l1] at h, fun _ _ _ _ _ _ _ _ _ _ _ r h => by simp [tallboylaw18_ReplyRow.j5] at h, fun _ _ _ _ _ _ _ _ _ _ _ _ _ _ _ r h => by simp [tallboylaw18_ReplyRow.j6] at h, fun _ _ _ _ r h => by simp [tallboylaw18_ReplyRow.l2] at h, fun _ _ _ _ _ _ r h => by simp [tallboylaw18_ReplyRow.j8] at h⟩
 | k + 1 => by
  obtain ⟨ih0, ih1, ih2, ih3, ih4, ih5, ih6, ih7, ih8⟩ := tallboylaw18_ReplyRow.mono_l k; refine ⟨?_, ?_, ?_, ?_, ?_, ?_, ?_, ?_, ?_⟩
  all_goals intros
  all_goals (first | unfold tallboylaw18_ReplyRow.l0 | unfold tallboylaw18_ReplyRow.j1 | unfold tallboylaw18_ReplyRow.j2 | unfold tallboylaw18_ReplyRow.j3 | unfold tallboylaw18_ReplyRow.l1 | unfold tallboylaw18_ReplyRow.j5 | unfold tallboylaw18_ReplyRow.j6 | unfold tallboylaw18_ReplyRow.l2 | unfold tallboylaw18_ReplyRow.j8)
  all_goals repeat' first | (with_reducible first | apply ih0 | apply ih1 | apply ih2 | apply ih3 | apply ih4 | apply ih5 | apply ih6 | apply ih7 | apply ih8 | apply reply_Read.mono | apply tallboylaw16_From.mono | apply tallboylaw18_Great.mono | apply tallboylaw18_To.mono | apply tallboylaw18_works.mono | apply tallboyref04_Key.mono | apply tallboyref15_Same.mono | exact LeO.refl _ | exact LeO.none _ | refine LeO.ite ?_ ?_ | refine LeO.bind ?_ (fun _ => ?_)) | apply ih0 | apply ih1 | apply ih2 | apply ih3 | apply ih4 | apply ih5 | apply ih6 | apply ih7 | apply ih8 | apply reply_Read.mono | apply tallboylaw16_From.mono | apply tallboylaw18_Great.mono | apply tallboylaw18_To.mono | apply tallboylaw18_works.mono | apply tallboyref04_Key.mono | apply tallboyref15_Same.mono | exact LeO.none _ | refine LeO.ite ?_ ?_ | refine LeO.bind ?_ (fun _ => ?_)
theorem tallboylaw18_ReplyRow.mono : ∀ a0 a1 k, LeO (tallboylaw18_ReplyRow.f k a0 a1) (tallboylaw18_ReplyRow.f (k + 1) a0 a1) := by
 intro a0 a1 k
 obtain ⟨ih0, ih1, ih2, ih3, ih4, ih5, ih6, ih7, ih8⟩ := tallboylaw18_ReplyRow.mono_l k; unfold tallboylaw18_ReplyRow.f
 repeat' first | (with_reducible first | apply ih0 | apply ih1 | apply ih2 | apply ih3 | apply ih4 | apply ih5 | apply ih6 | apply ih7 | apply ih8 | apply reply_Read.mono | apply tallboylaw16_From.mono | apply tallboylaw18_Great.mono | apply tallboylaw18_To.mono | apply tallboylaw18_works.mono | apply tallboyref04_Key.mono | apply tallboyref15_Same.mono | exact LeO.refl _ | exact LeO.none _ | refine LeO.ite ?_ ?_ | refine LeO.bind ?_ (fun _ => ?_)) | apply ih0 | apply ih1 | apply ih2 | apply ih3 | apply ih4 | apply ih5 | apply ih6 | apply ih7 | apply ih8 | apply reply_Read.mono | apply tallboylaw16_From.mono | apply tallboylaw18_Great.mono | apply tallboylaw18_To.mono | apply tallboylaw18_works.mono | apply tallboyref04_Key.mono | apply tallboyref15_Same.mono | exact LeO.none _ | refine LeO.ite ?_ ?_ | refine LeO.bind ?_ (fun _ => ?_)
def tallboylaw18_ReplyRow.T30 : Bool × List (List Nat × List Nat) := (true, [([], []), ([0], [0]), ([1], [1]), ([2], [2]), ([3, 2], [2, 3]), ([2, 4], [2, 4]), ([5, 2], [5]), ([6], [6]), ([6], [6]), ([8, 6], [6, 8]), ([7, 9, 6], [6, 7, 9]), ([6, 10], [6, 10]), ([11, 6], [11]), ([12], [12]), ([13, 12, 12], [12, 13]), ([12], [12]), ([12], [12]), ([15, 16, 12], [12, 15, 16]), ([17, 12], [12, 17]), ([14, 18, 14, 12], [12, 14, 18]), ([19, 12], [12, 19]), ([12, 20], [12, 20])])
def tallboylaw18_ReplyRow.B30 : List Nat := [0, 1, 3, 7, 15, 31, 63, 127, 127, 383, 1023, 2047, 4095, 8191, 16383, 8191, 8191, 106495, 237567, 524287, 1048575, 2097151]
theorem tallboylaw18_ReplyRow.tab30 : rtab .any (opsOf Tryd.f7 30) = tallboylaw18_ReplyRow.T30 := by kernel_rfl
theorem tallboylaw18_ReplyRow.bits30 : waitsOk tallboylaw18_ReplyRow.T30.2 tallboylaw18_ReplyRow.B30 = true := by kernel_rfl

end Go.Proofs.YtdgpagocccabdaaDoor.P
