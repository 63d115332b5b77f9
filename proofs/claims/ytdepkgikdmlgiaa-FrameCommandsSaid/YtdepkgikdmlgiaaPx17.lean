/- Lean functions for the Go functions that the laws of this seat use, and the proofs that the Go code computes them; conditions: the readings that each theorem names. Written by a program. -/
import Derived.Test.YtdepkgikdmlgiaaPx0
import Derived.Test.YtdepkgikdmlgiaaShort
namespace Go.Proofs.Ytdepkgikdmlgiaa.P
open Go.RowKit Go.Proofs.YtdepkgikdmlgiaaW.PrintWords Go.Proofs.YtdepkgikdmlgiaaW.PrintLast Go.Proofs.YtdepkgikdmlgiaaW.PrintMore
set_option linter.unusedVariables false
set_option linter.unusedSimpArgs false

/-! ### tallboyref29_op: function 47 -/
mutual
def tallboyref29_op.j0 : Nat → Int → Int → Bool → Option (Int × Bool)
 | 0, _, _, _ => none
 | k + 1, x0, x4, x5 => if x5 = true then (some (1, (x0 == 9))) else (if x4 = 12 then (tallboyref29_op.j1 k x0 x4 (x4 == 12)) else (tallboyref29_op.j1 k x0 x4 (x4 == 13)))
def tallboyref29_op.j1 : Nat → Int → Int → Bool → Option (Int × Bool)
 | 0, _, _, _ => none
 | k + 1, x0, x4, x10 => if x10 = true then (some (2, (x0 == 13))) else (if x4 = 1 then (tallboyref29_op.j2 k x0 x4 (x4 == 1)) else (tallboyref29_op.j2 k x0 x4 (x4 == 17)))
def tallboyref29_op.j2 : Nat → Int → Int → Bool → Option (Int × Bool)
 | 0, _, _, _ => none
 | k + 1, x0, x4, x15 => if x15 = true then (some (5, (x0 == 17))) else (if x4 = 2 then (tallboyref29_op.j3 k x0 x4 (x4 == 2)) else (tallboyref29_op.j3 k x0 x4 (x4 == 18)))
def tallboyref29_op.j3 : Nat → Int → Int → Bool → Option (Int × Bool)
 | 0, _, _, _ => none
 | k + 1, x0, x4, x20 => if x20 = true then (some (6, (x0 == 18))) else (if x4 = 3 then (tallboyref29_op.j4 k x0 x4 (x4 == 3)) else (tallboyref29_op.j4 k x0 x4 (x4 == 19)))
def tallboyref29_op.j4 : Nat → Int → Int → Bool → Option (Int × Bool)
 | 0, _, _, _ => none
 | k + 1, x0, x4, x25 => if x25 = true then (some (7, (x0 == 19))) else (if x4 = 4 then (tallboyref29_op.j5 k x0 x4 (x4 == 4)) else (tallboyref29_op.j5 k x0 x4 (x4 == 20)))
def tallboyref29_op.j5 : Nat → Int → Int → Bool → Option (Int × Bool)
 | 0, _, _, _ => none
 | k + 1, x0, x4, x30 => if x30 = true then (some (11, (x0 == 20))) else (if x4 = 5 then (tallboyref29_op.j6 k x0 x4 (x4 == 5)) else (tallboyref29_op.j6 k x0 x4 (x4 == 21)))
def tallboyref29_op.j6 : Nat → Int → Int → Bool → Option (Int × Bool)
 | 0, _, _, _ => none
 | k + 1, x0, x4, x35 => if x35 = true then (some (12, (x0 == 21))) else (if x4 = 6 then (tallboyref29_op.j7 k x0 x4 (x4 == 6)) else (tallboyref29_op.j7 k x0 x4 (x4 == 22)))
def tallboyref29_op.j7 : Nat → Int → Int → Bool → Option (Int × Bool)
 | 0, _, _, _ => none
 | k + 1, x0, x4, x40 => if x40 = true then (some (13, (x0 == 22))) else (if x4 = 8 then (tallboyref29_op.j8 k x0 x4 (x4 == 8)) else (tallboyref29_op.j8 k x0 x4 (x4 == 24)))
def tallboyref29_op.j8 : Nat → Int → Int → Bool → Option (Int × Bool)
 | 0, _, _, _ => none
 | k + 1, x0, x4, x45 => if x45 = true then (some (15, (x0 == 24))) else (if x4 = 14 then (tallboyref29_op.j9 k x0 x4 (x4 == 14)) else (tallboyref29_op.j9 k x0 x4 (x4 == 25)))
def tallboyref29_op.j9 : Nat → Int → Int → Bool → Option (Int × Bool)
 | 0, _, _, _ => none
 | k + 1, x0, x4, x50 => if x50 = true then (some (8, (x0 == 25))) else (if x4 = 15 then (tallboyref29_op.j10 k x0 x4 (x4 == 15)) else (tallboyref29_op.j10 k x0 x4 (x4 == 26)))
def tallboyref29_op.j10 : Nat → Int → Int → Bool → Option (Int × Bool)
 | 0, _, _, _ => none
 | k + 1, x0, x4, x55 => if x55 = true then (some (9, (x0 == 26))) else (if x4 = 28 then (some (14, false)) else (if x4 = 29 then (tallboyref29_op.j11 k x0 (x4 == 29)) else (tallboyref29_op.j11 k x0 (x4 == 30))))
def tallboyref29_op.j11 : Nat → Int → Bool → Option (Int × Bool)
 | 0, _, _ => none
 | k + 1, x0, x62 => if x62 = true then (some (3, (x0 == 30))) else (some (0, false))
end
def tallboyref29_op.f (k : Nat) (a0 : Int) : Option (Int × Bool) := if a0 = 0 then (tallboyref29_op.j0 k a0 a0 (a0 == 0)) else (tallboyref29_op.j0 k a0 a0 (a0 == 9))
theorem tallboyref29_op.mono_l : ∀ k, (∀ y0 y1 y2, LeO (tallboyref29_op.j0 k y0 y1 y2) (tallboyref29_op.j0 (k + 1) y0 y1 y2)) ∧ (∀ y0 y1 y2, LeO (tallboyref29_op.j1 k y0 y1 y2) (tallboyref29_op.j1 (k + 1) y0 y1 y2)) ∧ (∀ y0 y1 y2, LeO (tallboyref29_op.j2 k y0 y1 y2) (tallboyref29_op.j2 (k + 1) y0 y1 y2)) ∧ (∀ y0 y1 y2, LeO (tallboyref29_op.j3 k y0 y1 y2) (tallboyref29_op.j3 (k + 1) y0 y1 y2)) ∧ (∀ y0 y1 y2, LeO (tallboyref29_op.j4 k y0 y1 y2) (tallboyref29_op.j4 (k + 1) y0 y1 y2)) ∧ (∀ y0 y1 y2, LeO (tallboyref29_op.j5 k y0 y1 y2) (tallboyref29_op.j5 (k + 1) y0 y1 y2)) ∧ (∀ y0 y1 y2, LeO (tallboyref29_op.j6 k y0 y1 y2) (tallboyref29_op.j6 (k + 1) y0 y1 y2)) ∧ (∀ y0 y1 y2, LeO (tallboyref29_op.j7 k y0 y1 y2) (tallboyref29_op.j7 (k + 1) y0 y1 y2)) ∧ (∀ y0 y1 y2, LeO (tallboyref29_op.j8 k y0 y1 y2) (tallboyref29_op.j8 (k + 1) y0 y1 y2)) ∧ (∀ y0 y1 y2, LeO (tallboyref29_op.j9 k y0 y1 y2) (tallboyref29_op.j9 (k + 1) y0 y1 y2)) ∧ (∀ y0 y1 y2, LeO (tallboyref29_op.j10 k y0 y1 y2) (tallboyref29_op.j10 (k + 1) y0 y1 y2)) ∧ (∀ y0 y1, LeO (tallboyref29_op.j11 k y0 y1) (tallboyref29_op.j11 (k + 1) y0 y1))
 | 0 => ⟨fun _ _ _ r h => by simp [tallboyref29_op.j0] at h, fun _ _ _ r h => by simp [tallboyref29_op.j1] at h, fun _ _ _ r h => by simp [tallboyref29_op.j2] at h, fun _ _ _ r h => by simp [tallboyref29_op.j3] at h, fun _ _ _ r h => by simp [tallboyref29_op.j4] at h, fun _ _ _ r h => by simp [tallboyref29_op.j5] at h, fun _ _ _ r h => by simp [tallboyref29_op.j6] at h, fun _ _ _ r h => by simp [tallboyref29_op.j7] at h, fun _ _ _ r h => by simp [tallboyref29_op.j8] at h, fun _ _ _ r h => by simp [tallboyref29_op.j9] at h, fun _ _ _ r h => by simp [tallboyref29_op.j10] at h, fun _ _ r h => by simp [tallboyref29_op.j11] at h⟩
 | k + 1 => by
  obtain ⟨ih0, ih1, ih2, ih3, ih4, ih5, ih6, ih7, ih8, ih9, ih10, ih11⟩ := tallboyref29_op.mono_l k; refine ⟨?_, ?_, ?_, ?_, ?_, ?_, ?_, ?_, ?_, ?_, ?_, ?_⟩
  all_goals intros
  all_goals (first | unfold tallboyref29_op.j0 | unfold tallboyref29_op.j1 | unfold tallboyref29_op.j2 | unfold tallboyref29_op.j3 | unfold tallboyref29_op.j4 | unfold tallboyref29_op.j5 | unfold tallboyref29_op.j6 | unfold tallboyref29_op.j7 | unfold tallboyref29_op.j8 | unfold tallboyref29_op.j9 | unfold tallboyref29_op.j10 | unfold tallboyref29_op.j11)
  all_goals repeat' first | (with_reducible first | apply ih0 | apply ih1 | apply ih2 | apply ih3 | apply ih4 | apply ih5 | apply ih6 | apply ih7 | apply ih8 | apply ih9 | apply ih10 | apply ih11 | exact LeO.refl _ | exact LeO.none _ | refine LeO.ite ?_ ?_ | refine LeO.bind ?_ (fun _ => ?_)) | apply ih0 | apply ih1 | apply ih2 | apply ih3 | apply ih4 | apply ih5 | apply ih6 | apply ih7 | apply ih8 | apply ih9 | apply ih10 | apply ih11 | exact LeO.none _ | refine LeO.ite ?_ ?_ | refine LeO.bind ?_ (fun _ => ?_)
theorem tallboyref29_op.mono : ∀ a0 k, LeO (tallboyref29_op.f k a0) (tallboyref29_op.f (k + 1) a0) := by
 intro a0 k
 obtain ⟨ih0, ih1, ih2, ih3, ih4, ih5, ih6, ih7, ih8, ih9, ih10, ih11⟩ := tallboyref29_op.mono_l k; unfold tallboyref29_op.f
 repeat' first | (with_reducible first | apply ih0 | apply ih1 | apply ih2 | apply ih3 | apply ih4 | apply ih5 | apply ih6 | apply ih7 | apply ih8 | apply ih9 | apply ih10 | apply ih11 | exact LeO.refl _ | exact LeO.none _ | refine LeO.ite ?_ ?_ | refine LeO.bind ?_ (fun _ => ?_)) | apply ih0 | apply ih1 | apply ih2 | apply ih3 | apply ih4 | apply ih5 | apply ih6 | apply ih7 | apply ih8 | apply ih9 | apply ih10 | apply ih11 | exact LeO.none _ | refine LeO.ite ?_ ?_ | refine LeO.bind ?_ (fun _ => ?_)
end Go.Proofs.Ytdepkgikdmlgiaa.P
