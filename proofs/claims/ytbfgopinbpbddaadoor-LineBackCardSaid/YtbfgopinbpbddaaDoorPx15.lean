/- Lean functions for the Go functions that the laws of this seat use, and the proofs that the Go code computes them; conditions: the readings that each theorem names. Written by a program. -/
import Derived.Test.YtbfgopinbpbddaaDoorPx0
import Derived.Test.YtbfgopinbpbddaaDoorPx14
import Derived.Test.YtbfgopinbpbddaaDoorShort
namespace Go.Proofs.YtbfgopinbpbddaaDoor.P
open Go.RowKit Go.Proofs.YtbfgopinbpbddaaDoorW.PrintWords Go.Proofs.YtbfgopinbpbddaaDoorW.PrintLast Go.Proofs.YtbfgopinbpbddaaDoorW.PrintMore
set_option linter.unusedVariables false
set_option linter.unusedSimpArgs false

/-! ### tallboyref15_Check: function 22 -/
mutual
def tallboyref15_Check.j0 : Nat → Int → Bool → Int → List ByteArray → Int → Int → ByteArray → Int → Int → Bool → Option (Int)
 | 0, _, _, _, _, _, _, _, _, _, _ => none
 | k + 1, x3, x16, z7, z0, z2, z3, z1, z4, z5, z6 => if x16 = true then (some 70) else ((tallboyref15_Reads.f x3).bind fun t166 => (if t166 = true then (if (z0.length : Int) ≥ 1 then (tallboyref15_Check.j1 k x3 (z0.length : Int) (decide ((z0.length : Int) ≤ 8)) z7 z0 z2 z3 z1 z4 z5 z6) else (tallboyref15_Check.j1 k x3 (z0.length : Int) false z7 z0 z2 z3 z1 z4 z5 z6)) else (tallboyref15_Check.j1 k x3 (z0.length : Int) ((z0.length : Int) == 1) z7 z0 z2 z3 z1 z4 z5 z6)))
def tallboyref15_Check.j1 : Nat → Int → Int → Bool → Int → List ByteArray → Int → Int → ByteArray → Int → Int → Bool → Option (Int)
 | 0, _, _, _, _, _, _, _, _, _, _, _ => none
 | k + 1, x3, x4, x5, z7, z0, z2, z3, z1, z4, z5, z6 => if x3 = 15 then (tallboyref15_Check.j2 k x3 x4 (x4 == 0) z7 z0 z2 z3 z1 z4 z5 z6) else (tallboyref15_Check.j2 k x3 x4 x5 z7 z0 z2 z3 z1 z4 z5 z6)
def tallboyref15_Check.j2 : Nat → Int → Int → Bool → Int → List ByteArray → Int → Int → ByteArray → Int → Int → Bool → Option (Int)
 | 0, _, _, _, _, _, _, _, _, _, _, _ => none
 | k + 1, x3, x4, x5, z7, z0, z2, z3, z1, z4, z5, z6 => tallboyref15_Check.l0 k x3 x4 x5 0 z7 z0 z2 z3 z1 z4 z5 z6
def tallboyref15_Check.j4 : Nat → Int → Bool → Int → List ByteArray → Int → Int → ByteArray → Int → Int → Bool → Option (Int)
 | 0, _, _, _, _, _, _, _, _, _, _ => none
 | k + 1, x3, x5, z7, z0, z2, z3, z1, z4, z5, z6 => (tallboyref15_Stores.f x3).bind fun t169 => (if t169 = true then (tallboyref15_Check.j5 k x3 x5 z7 z0 z2 z3 z1 z4 z5 z6) else (if x5 = true then (tallboyref15_Check.j5 k x3 (z1.toList == ([] : List UInt8)) z7 z0 z2 z3 z1 z4 z5 z6) else (tallboyref15_Check.j5 k x3 false z7 z0 z2 z3 z1 z4 z5 z6)))
def tallboyref15_Check.j5 : Nat → Int → Bool → Int → List ByteArray → Int → Int → ByteArray → Int → Int → Bool → Option (Int)
 | 0, _, _, _, _, _, _, _, _, _, _ => none
 | k + 1, x3, x5, z7, z0, z2, z3, z1, z4, z5, z6 => (tallboyref15_Stores.f x3).bind fun t170 => (if t170 = true then (if x3 = 8 then (tallboyref15_Check.j6 k x3 x5 false z7 z0 z2 z3 z1 z4 z5 z6) else (tallboyref15_Check.j6 k x3 x5 (x3 != 9) z7 z0 z2 z3 z1 z4 z5 z6)) else (tallboyref15_Check.j6 k x3 x5 false z7 z0 z2 z3 z1 z4 z5 z6))
def tallboyref15_Check.j6 : Nat → Int → Bool → Bool → Int → List ByteArray → Int → Int → ByteArray → Int → Int → Bool → Option (Int)
 | 0, _, _, _, _, _, _, _, _, _, _, _ => none
 | k + 1, x3, x5, x7, z7, z0, z2, z3, z1, z4, z5, z6 => if x7 = true then (tallboyref15_Check.j7 k x3 x5 x7 z7 z0 z2 z3 z1 z4 z5 z6) else (if x5 = true then (tallboyref15_Check.j7 k x3 (z2 == 0) x7 z7 z0 z2 z3 z1 z4 z5 z6) else (tallboyref15_Check.j7 k x3 false x7 z7 z0 z2 z3 z1 z4 z5 z6))
def tallboyref15_Check.j7 : Nat → Int → Bool → Bool → Int → List ByteArray → Int → Int → ByteArray → Int → Int → Bool → Option (Int)
 | 0, _, _, _, _, _, _, _, _, _, _, _ => none
 | k + 1, x3, x5, x7, z7, z0, z2, z3, z1, z4, z5, z6 => if x7 = true then (tallboyref15_Check.j8 k x3 x5 true z7 z0 z2 z3 z1 z4 z5 z6) else (if x3 = 3 then (tallboyref15_Check.j8 k x3 x5 true z7 z0 z2 z3 z1 z4 z5 z6) else (if x3 = 4 then (tallboyref15_Check.j8 k x3 x5 true z7 z0 z2 z3 z1 z4 z5 z6) else (tallboyref15_Check.j8 k x3 x5 (x3 == 14) z7 z0 z2 z3 z1 z4 z5 z6)))
def tallboyref15_Check.j8 : Nat → Int → Bool → Bool → Int → List ByteArray → Int → Int → ByteArray → Int → Int → Bool → Option (Int)
 | 0, _, _, _, _, _, _, _, _, _, _, _ => none
 | k + 1, x3, x5, x8, z7, z0, z2, z3, z1, z4, z5, z6 => if x8 = true then (tallboyref15_Check.j9 k x3 x5 z7 z0 z2 z3 z1 z4 z5 z6) else (if x5 = true then (tallboyref15_Check.j9 k x3 (z3 == 0) z7 z0 z2 z3 z1 z4 z5 z6) else (tallboyref15_Check.j9 k x3 false z7 z0 z2 z3 z1 z4 z5 z6))
def tallboyref15_Check.j9 : Nat → Int → Bool → Int → List ByteArray → Int → Int → ByteArray → Int → Int → Bool → Option (Int)
 | 0, _, _, _, _, _, _, _, _, _, _ => none
 | k + 1, x3, x5, z7, z0, z2, z3, z1, z4, z5, z6 => if x3 = 10 then (tallboyref15_Check.j10 k x3 x5 z7 z0 z2 z3 z1 z4 z5 z6) else (if x5 = true then (tallboyref15_Check.j10 k x3 (z4 == 0) z7 z0 z2 z3 z1 z4 z5 z6) else (tallboyref15_Check.j10 k x3 false z7 z0 z2 z3 z1 z4 z5 z6))
def tallboyref15_Check.j10 : Nat → Int → Bool → Int → List ByteArray → Int → Int → ByteArray → Int → Int → Bool → Option (Int)
 | 0, _, _, _, _, _, _, _, _, _, _ => none
 | k + 1, x3, x5, z7, z0, z2, z3, z1, z4, z5, z6 => if x3 = 12 then (tallboyref15_Check.j11 k x3 x5 false z7 z0 z2 z3 z1 z4 z5 z6) else (tallboyref15_Check.j11 k x3 x5 (x3 != 13) z7 z0 z2 z3 z1 z4 z5 z6)
def tallboyref15_Check.j11 : Nat → Int → Bool → Bool → Int → List ByteArray → Int → Int → ByteArray → Int → Int → Bool → Option (Int)
 | 0, _, _, _, _, _, _, _, _, _, _, _ => none
 | k + 1, x3, x5, x109, z7, z0, z2, z3, z1, z4, z5, z6 => if x109 = true then (if x5 = true then (tallboyref15_Check.j12 k x3 (z5 == 0) z7 z0 z2 z3 z1 z4 z5 z6) else (tallboyref15_Check.j12 k x3 false z7 z0 z2 z3 z1 z4 z5 z6)) else (tallboyref15_Check.j12 k x3 x5 z7 z0 z2 z3 z1 z4 z5 z6)
def tallboyref15_Check.j12 : Nat → Int → Bool → Int → List ByteArray → Int → Int → ByteArray → Int → Int → Bool → Option (Int)
 | 0, _, _, _, _, _, _, _, _, _, _ => none
 | k + 1, x3, x5, z7, z0, z2, z3, z1, z4, z5, z6 => (tallboyref15_Reads.f x3).bind fun t171 => (if t171 = true then (if x5 = true then (tallboyref15_Check.j13 k (!z6) z7 z0 z2 z3 z1 z4 z5 z6) else (tallboyref15_Check.j13 k false z7 z0 z2 z3 z1 z4 z5 z6)) else (tallboyref15_Check.j13 k x5 z7 z0 z2 z3 z1 z4 z5 z6))
def tallboyref15_Check.j13 : Nat → Bool → Int → List ByteArray → Int → Int → ByteArray → Int → Int → Bool → Option (Int)
 | 0, _, _, _, _, _, _, _, _, _ => none
 | k + 1, x5, z7, z0, z2, z3, z1, z4, z5, z6 => if x5 = true then (if (z1.size : Int) > 2000 then (some 7) else (some 0)) else (some 6)
def tallboyref15_Check.l0 : Nat → Int → Int → Bool → Int → Int → List ByteArray → Int → Int → ByteArray → Int → Int → Bool → Option (Int)
 | 0, _, _, _, _, _, _, _, _, _, _, _, _ => none
 | k + 1, x3, x4, x5, x6, z7, z0, z2, z3, z1, z4, z5, z6 => if x6 < x4 then (if x5 = true then (if 0 ≤ x6 then (if x6 < (z0.length : Int) then ((tallboyref04_Key.f k (rdOf ByteArray.empty z0 x6)).bind fun t168 => (tallboyref15_Check.l0 k x3 x4 t168 (wrap64 (x6 + 1)) z7 z0 z2 z3 z1 z4 z5 z6)) else (none)) else (none)) else (tallboyref15_Check.j4 k x3 x5 z7 z0 z2 z3 z1 z4 z5 z6)) else (tallboyref15_Check.j4 k x3 x5 z7 z0 z2 z3 z1 z4 z5 z6)
end
def tallboyref15_Check.f (k : Nat) (a0_0 : Int) (l0_1 : List ByteArray) (a0_2 : Int) (a0_3 : Int) (a0_4 : ByteArray) (a0_5 : Int) (a0_6 : Int) (a0_7 : Bool) : Option (Int) := if a0_0 < 1 then (tallboyref15_Check.j0 k a0_0 true a0_0 l0_1 a0_2 a0_3 a0_4 a0_5 a0_6 a0_7) else (tallboyref15_Check.j0 k a0_0 (decide (a0_0 > 15)) a0_0 l0_1 a0_2 a0_3 a0_4 a0_5 a0_6 a0_7)
theorem tallboyref15_Check.mono_l : ∀ k, (∀ y0 y1 y2 y3 y4 y5 y6 y7 y8 y9, LeO (tallboyref15_Check.j0 k y0 y1 y2 y3 y4 y5 y6 y7 y8 y9) (tallboyref15_Check.j0 (k + 1) y0 y1 y2 y3 y4 y5 y6 y7 y8 y9)) ∧ (∀ y0 y1 y2 y3 y4 y5 y6 y7 y8 y9 y10, LeO (tallboyref15_Check.j1 k y0 y1 y2 y3 y4 y5 y6 y7 y8 y9 y10) (tallboyref15_Check.j1 (k + 1) y0 y1 y2 y3 y4 y5 y6 y7 y8 y9 y10)) ∧ (∀ y0 y1 y2 y3 y4 y5 y6 y7 y8 y9 y10, LeO (tallboyref15_Check.j2 k y0 y1 y2 y3 y4 y5 y6 y7 y8 y9 y10) (tallboyref15_Check.j2 (k + 1) y0 y1 y2 y3 y4 y5 y6 y7 y8 y9 y10)) ∧ (∀ y0 y1 y2 y3 y4 y5 y6 y7 y8 y9, LeO (tallboyref15_Check.j4 k y0 y1 y2 y3 y4 y5 y6 y7 y8 y9) (tallboyref15_Check.j4 (k + 1) y0 y1 y2 y3 y4 y5 y6 y7 y8 y9)) ∧ (∀ y0 y1 y2 y3 y4 y5 y6 y7 y8 y9, LeO (tallboyref15_Check.j5 k y0 y1 y2 y3 y4 y5 y6 y7 y8 y9) (tallboyref15_Check.j5 (k + 1) y0 y1 y2 y3 y4 y5 y6 y7 y8 y9)) ∧ (∀ y0 y1 y2 y3 y4 y5 y6 y7 y8 y9 y10, LeO (tallboyref15_Check.j6 k y0 y1 y2 y3 y4 y5 y6 y7 y8 y9 y10) (tallboyref15_Check.j6 (k + 1) y0 y1 y2 y3 y4 y5 y6 y7 y8 y9 y10)) ∧ (∀ y0 y1 y2 y3 y4 y5 y6 y7 y8 y9 y10, LeO (tallboyref15_Check.j7 k y0 y1 y2 y3 y4 y5 y6 y7 y8 y9 y10) (tallboyref15_Check.j7 (k + 1) y0 y1 y2 y3 y4 y5 y6 y7 y8 y9 y10)) ∧ (∀ y0 y1 y2 y3 y4 y5 y6 y7 y8 y9 y10, LeO (tallboyref15_Check.j8 k y0 y1 y2 y3 y4 y5 y6 y7 y8 y9 y10) (tallboyref15_Check.j8 (k + 1) y0 y1 y2 y3 y4 y5 y6 y7 y8 y9 y10)) ∧ (∀ y0 y1 y2 y3 y4 y5 y6 y7 y8 y9, LeO (tallboyref15_Check.j9 k y0 y1 y2 y3 y4 y5 y6 y7 y8 y9) (tallboyref15_Check.j9 (k + 1) y0 y1 y2 y3 y4 y5 y6 y7 y8 y9)) ∧ (∀ y0 y1 y2 y3 y4 y5 y6 y7 y8 y9, LeO (tallboyref15_Check.j10 k y0 y1 y2 y3 y4 y5 y6 y7 y8 y9) (tallboyref15_Check.j10 (k + 1) y0 y1 y2 y3 y4 y5 y6 y7 y8 y9)) ∧ (∀ y0 y1 y2 y3 y4 y5 y6 y7 y8 y9 y10, LeO (tallboyref15_Check.j11 k y0 y1 y2 y3 y4 y5 y6 y7 y8 y9 y10) (tallboyref15_Check.j11 (k + 1) y0 y1 y2 y3 y4 y5 y6 y7 y8 y9 y10)) ∧ (∀ y0 y1 y2 y3 y4 y5 y6 y7 y8 y9, LeO (tallboyref15_Check.j12 k y0 y1 y2 y3 y4 y5 y6 y7 y8 y9) (tallboyref15_Check.j12 (k + 1) y0 y1 y2 y3 y4 y5 y6 y7 y8 y9)) ∧ (∀ y0 y1 y2 y3 y4 y5 y6 y7 y8, LeO (tallboyref15_Check.j13 k y0 y1 y2 y3 y4 y5 y6 y7 y8) (tallboyref15_Check.j13 (k + 1) y0 y1 y2 y3 y4 y5 y6 y7 y8)) ∧ (∀ y0 y1 y2 y3 y4 y5 y6 y7 y8 y9 y10 y11, LeO (tallboyref15_Check.l0 k y0 y1 y2 y3 y4 y5 y6 y7 y8 y9 y10 y11) (tallboyref15_Check.l0 (k + 1) y0 y1 y2 y3 y4 y5 y6 y7 y8 y9 y10 y11))
 | 0 => ⟨fun _ _ _ _ _ _ _ _ _ _ r h => by simp [tallboyref15_Check.j0] at h, fun _ _ _ _ _ _ _ _ _ _ _ r h => by simp [tallboyref15_Check.j1] at h, fun _ _ _ _ _ _ _ _ _ _ _ r h => by simp [tallboyref15_Check.j2] at h, fun _ _ _ _ _ _ _ _ _ _ r h => by simp [tallboyref15_Check.j4] at h, fun _ _ _ _ _ _ _ _ _ _ r h => by simp [tallboyref15_Check.j5] at h, fun _ _ _ _ _ _ _ _ _ _ _ r h => by simp [tallboyref15_Check.j6] at h, fun _ _ _ _ _ _ _ _ _ _ _ r h => by simp [tallboyref15_Check.j7] at h, fun _ _ _ _ _ _ _ _ _ _ _ r h => by simp [tallboyref15_Check.j8] at h, fun _ _ _ _ _ _ _ _ _ _ r h => by simp [tallboyref15_Check.j9] at h, fun _ _ _ _ _ _ _ _ _ _ r h => by simp [tallboyref15_Check.j10] at h, fun _ _ _ _ _ _ _ _ _ _ _ r h => by simp [tallboyref15_Check.j11] at h, fun _ _ _ _ _ _ _ _ _ _ r h => by simp [tallboyref15_Check.j12] at h, fun _ _ _ _ _ _ _ _ _ r h => by simp [tallboyref15_Check.j13] at h, fun _ _ _ _ _ _ _ _ _ _ _ _ r h => by simp [tallboyref15_Check.l0] at h⟩
 | k + 1 => by
  obtain ⟨ih0, ih1, ih2, ih3, ih4, ih5, ih6, ih7, ih8, ih9, ih10, ih11, ih12, ih13⟩ := tallboyref15_Check.mono_l k; refine ⟨?_, ?_, ?_, ?_, ?_, ?_, ?_, ?_, ?_, ?_, ?_, ?_, ?_, ?_⟩
  all_goals intros
  all_goals (first | unfold tallboyref15_Check.j0 | unfold tallboyref15_Check.j1 | unfold tallboyref15_Check.j2 | unfold tallboyref15_Check.j4 | unfold tallboyref15_Check.j5 | unfold tallboyref15_Check.j6 | unfold tallboyref15_Check.j7 | unfold tallboyref15_Check.j8 | unfold tallboyref15_Check.j9 | unfold tallboyref15_Check.j10 | unfold tallboyref15_Check.j11 | unfold tallboyref15_Check.j12 | unfold tallboyref15_Check.j13 | unfold tallboyref15_Check.l0)
  all_goals repeat' first | (with_reducible first | apply ih0 | apply ih1 | apply ih2 | apply ih3 | apply ih4 | apply ih5 | apply ih6 | apply ih7 | apply ih8 | apply ih9 | apply ih10 | apply ih11 | apply ih12 | apply ih13 | apply tallboyref04_Key.mono | exact LeO.refl _ | exact LeO.none _ | refine LeO.ite ?_ ?_ | refine LeO.bind ?_ (fun _ => ?_)) | apply ih0 | apply ih1 | apply ih2 | apply ih3 | apply ih4 | apply ih5 | apply ih6 | apply ih7 | apply ih8 | apply ih9 | apply ih10 | apply ih11 | apply ih12 | apply ih13 | apply tallboyref04_Key.mono | exact LeO.none _ | refine LeO.ite ?_ ?_ | refine LeO.bind ?_ (fun _ => ?_)
theorem tallboyref15_Check.mono : ∀ a0 a1 a2 a3 a4 a5 a6 a7 k, LeO (tallboyref15_Check.f k a0 a1 a2 a3 a4 a5 a6 a7) (tallboyref15_Check.f (k + 1) a0 a1 a2 a3 a4 a5 a6 a7) := by
 intro a0 a1 a2 a3 a4 a5 a6 a7 k
 obtain ⟨ih0, ih1, ih2, ih3, ih4, ih5, ih6, ih7, ih8, ih9, ih10, ih11, ih12, ih13⟩ := tallboyref15_Check.mono_l k; unfold tallboyref15_Check.f
 repeat' first | (with_reducible first | apply ih0 | apply ih1 | apply ih2 | apply ih3 | apply ih4 | apply ih5 | apply ih6 | apply ih7 | apply ih8 | apply ih9 | apply ih10 | apply ih11 | apply ih12 | apply ih13 | apply tallboyref04_Key.mono | exact LeO.refl _ | exact LeO.none _ | refine LeO.ite ?_ ?_ | refine LeO.bind ?_ (fun _ => ?_)) | apply ih0 | apply ih1 | apply ih2 | apply ih3 | apply ih4 | apply ih5 | apply ih6 | apply ih7 | apply ih8 | apply ih9 | apply ih10 | apply ih11 | apply ih12 | apply ih13 | apply tallboyref04_Key.mono | exact LeO.none _ | refine LeO.ite ?_ ?_ | refine LeO.bind ?_ (fun _ => ?_)

end Go.Proofs.YtbfgopinbpbddaaDoor.P
