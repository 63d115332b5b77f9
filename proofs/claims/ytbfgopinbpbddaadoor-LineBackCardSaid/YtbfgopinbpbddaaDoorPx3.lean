/- Lean functions for the Go functions that the laws of this seat use, and the proofs that the Go code computes them; conditions: the readings that each theorem names. Written by a program. -/
import Derived.Test.YtbfgopinbpbddaaDoorPx0
import Derived.Test.YtbfgopinbpbddaaDoorPx1
import Derived.Test.YtbfgopinbpbddaaDoorPx2
import Derived.Test.YtbfgopinbpbddaaDoorShort
namespace Go.Proofs.YtbfgopinbpbddaaDoor.P
open Go.RowKit Go.Proofs.YtbfgopinbpbddaaDoorW.PrintWords Go.Proofs.YtbfgopinbpbddaaDoorW.PrintLast Go.Proofs.YtbfgopinbpbddaaDoorW.PrintMore
set_option linter.unusedVariables false
set_option linter.unusedSimpArgs false

/-! ### verb_Check: function 23 -/
mutual
def verb_Check.j0 : Nat → Int → Int → List ByteArray → Int → Int → ByteArray → Int → Int → Bool → Int → List ByteArray → Int → Int → ByteArray → Int → Int → Bool → Option (Int)
 | 0, _, _, _, _, _, _, _, _, _, _, _, _, _, _, _, _, _ => none
 | k + 1, x3, z7, z0, z2, z3, z1, z4, z5, z6, z9, za, zb, zc, z8, zd, ze, zf => (verb_Stores.f x3).bind fun t109 => (if t109 = true then ((verb_ends.f k x3).bind fun t110 => (verb_Check.j1 k x3 (!t110) z7 z0 z2 z3 z1 z4 z5 z6 z9 za zb zc z8 zd ze zf)) else (verb_Check.j1 k x3 true z7 z0 z2 z3 z1 z4 z5 z6 z9 za zb zc z8 zd ze zf))
def verb_Check.j1 : Nat → Int → Bool → Int → List ByteArray → Int → Int → ByteArray → Int → Int → Bool → Int → List ByteArray → Int → Int → ByteArray → Int → Int → Bool → Option (Int)
 | 0, _, _, _, _, _, _, _, _, _, _, _, _, _, _, _, _, _, _ => none
 | k + 1, x3, x24, z7, z0, z2, z3, z1, z4, z5, z6, z9, za, zb, zc, z8, zd, ze, zf => if x24 = true then (verb_Check.j2 k x3 z7 z0 z2 z3 z1 z4 z5 z6 z9 za 0 zc z8 zd ze zf) else (verb_Check.j2 k x3 z7 z0 z2 z3 z1 z4 z5 z6 z9 za zb zc z8 zd ze zf)
def verb_Check.j2 : Nat → Int → Int → List ByteArray → Int → Int → ByteArray → Int → Int → Bool → Int → List ByteArray → Int → Int → ByteArray → Int → Int → Bool → Option (Int)
 | 0, _, _, _, _, _, _, _, _, _, _, _, _, _, _, _, _, _ => none
 | k + 1, x3, z7, z0, z2, z3, z1, z4, z5, z6, z9, za, zb, zc, z8, zd, ze, zf => (verb_ends.f k x3).bind fun t111 => (if t111 = true then (verb_Check.j3 k x3 z7 z0 z2 z3 z1 z4 z5 z6 z9 za zb zc z8 zd ze zf) else (verb_Check.j3 k x3 z7 z0 z2 z3 z1 z4 z5 z6 z9 za zb 0 z8 zd ze zf))
def verb_Check.j3 : Nat → Int → Int → List ByteArray → Int → Int → ByteArray → Int → Int → Bool → Int → List ByteArray → Int → Int → ByteArray → Int → Int → Bool → Option (Int)
 | 0, _, _, _, _, _, _, _, _, _, _, _, _, _, _, _, _, _ => none
 | k + 1, x3, z7, z0, z2, z3, z1, z4, z5, z6, z9, za, zb, zc, z8, zd, ze, zf => if x3 = 10 then (verb_Check.j4 k x3 z7 z0 z2 z3 z1 z4 z5 z6 z9 za zb zc z8 zd ze zf) else (verb_Check.j4 k x3 z7 z0 z2 z3 z1 z4 z5 z6 z9 za zb zc z8 0 ze zf)
def verb_Check.j4 : Nat → Int → Int → List ByteArray → Int → Int → ByteArray → Int → Int → Bool → Int → List ByteArray → Int → Int → ByteArray → Int → Int → Bool → Option (Int)
 | 0, _, _, _, _, _, _, _, _, _, _, _, _, _, _, _, _, _ => none
 | k + 1, x3, z7, z0, z2, z3, z1, z4, z5, z6, z9, za, zb, zc, z8, zd, ze, zf => if x3 = 12 then (verb_Check.j5 k x3 false z7 z0 z2 z3 z1 z4 z5 z6 z9 za zb zc z8 zd ze zf) else (verb_Check.j5 k x3 (x3 != 13) z7 z0 z2 z3 z1 z4 z5 z6 z9 za zb zc z8 zd ze zf)
def verb_Check.j5 : Nat → Int → Bool → Int → List ByteArray → Int → Int → ByteArray → Int → Int → Bool → Int → List ByteArray → Int → Int → ByteArray → Int → Int → Bool → Option (Int)
 | 0, _, _, _, _, _, _, _, _, _, _, _, _, _, _, _, _, _, _ => none
 | k + 1, x3, x38, z7, z0, z2, z3, z1, z4, z5, z6, z9, za, zb, zc, z8, zd, ze, zf => if x38 = true then (verb_Check.j6 k x3 z7 z0 z2 z3 z1 z4 z5 z6 z9 za zb zc z8 zd 0 zf) else (verb_Check.j6 k x3 z7 z0 z2 z3 z1 z4 z5 z6 z9 za zb zc z8 zd ze zf)
def verb_Check.j6 : Nat → Int → Int → List ByteArray → Int → Int → ByteArray → Int → Int → Bool → Int → List ByteArray → Int → Int → ByteArray → Int → Int → Bool → Option (Int)
 | 0, _, _, _, _, _, _, _, _, _, _, _, _, _, _, _, _, _ => none
 | k + 1, x3, z7, z0, z2, z3, z1, z4, z5, z6, z9, za, zb, zc, z8, zd, ze, zf => (verb_reads.f x3).bind fun t112 => (if t112 = true then (verb_Check.j7 k x3 z7 z0 z2 z3 z1 z4 z5 z6 z9 za zb zc z8 zd ze false) else (verb_Check.j7 k x3 z7 z0 z2 z3 z1 z4 z5 z6 z9 za zb zc z8 zd ze zf))
def verb_Check.j7 : Nat → Int → Int → List ByteArray → Int → Int → ByteArray → Int → Int → Bool → Int → List ByteArray → Int → Int → ByteArray → Int → Int → Bool → Option (Int)
 | 0, _, _, _, _, _, _, _, _, _, _, _, _, _, _, _, _, _ => none
 | k + 1, x3, z7, z0, z2, z3, z1, z4, z5, z6, z9, za, zb, zc, z8, zd, ze, zf => if zb = z2 then (if z8.toList = z1.toList then (if zc = z3 then (if zd = z4 then (if ze = z5 then (verb_Check.j8 k x3 (zf == z6) z7 z0 z2 z3 z1 z4 z5 z6) else (verb_Check.j8 k x3 false z7 z0 z2 z3 z1 z4 z5 z6)) else (verb_Check.j8 k x3 false z7 z0 z2 z3 z1 z4 z5 z6)) else (verb_Check.j8 k x3 false z7 z0 z2 z3 z1 z4 z5 z6)) else (verb_Check.j8 k x3 false z7 z0 z2 z3 z1 z4 z5 z6)) else (verb_Check.j8 k x3 false z7 z0 z2 z3 z1 z4 z5 z6)
def verb_Check.j8 : Nat → Int → Bool → Int → List ByteArray → Int → Int → ByteArray → Int → Int → Bool → Option (Int)
 | 0, _, _, _, _, _, _, _, _, _, _ => none
 | k + 1, x3, x5, z7, z0, z2, z3, z1, z4, z5, z6 => if x5 = true then ((verb_keys.f x3 (z0.length : Int)).bind fun t113 => (if t113 = true then ((slices_ContainsFunc_string_string.f k z0).bind fun t114 => (verb_Check.j9 k t114 z7 z0 z2 z3 z1 z4 z5 z6)) else (verb_Check.j9 k (!t113) z7 z0 z2 z3 z1 z4 z5 z6))) else (verb_Check.j9 k (!x5) z7 z0 z2 z3 z1 z4 z5 z6)
def verb_Check.j9 : Nat → Bool → Int → List ByteArray → Int → Int → ByteArray → Int → Int → Bool → Option (Int)
 | 0, _, _, _, _, _, _, _, _, _ => none
 | k + 1, x83, z7, z0, z2, z3, z1, z4, z5, z6 => if x83 = true then (some 6) else (if (z1.size : Int) > 2000 then (some 7) else (some 0))
end
def verb_Check.f (k : Nat) (a0_0 : Int) (l0_1 : List ByteArray) (a0_2 : Int) (a0_3 : Int) (a0_4 : ByteArray) (a0_5 : Int) (a0_6 : Int) (a0_7 : Bool) : Option (Int) := (verb_kind.f a0_0).bind fun t106 => (if t106 = true then ((verb_Stores.f a0_0).bind fun t108 => (if t108 = true then (verb_Check.j0 k a0_0 a0_0 l0_1 a0_2 a0_3 a0_4 a0_5 a0_6 a0_7 a0_0 l0_1 a0_2 a0_3 a0_4 a0_5 a0_6 a0_7) else (verb_Check.j0 k a0_0 a0_0 l0_1 a0_2 a0_3 a0_4 a0_5 a0_6 a0_7 a0_0 l0_1 a0_2 a0_3 (⟨#[]⟩ : ByteArray) a0_5 a0_6 a0_7))) else (some 70))
theorem verb_Check.mono_l : ∀ k, (∀ y0 y1 y2 y3 y4 y5 y6 y7 y8 y9 y10 y11 y12 y13 y14 y15 y16, LeO (verb_Check.j0 k y0 y1 y2 y3 y4 y5 y6 y7 y8 y9 y10 y11 y12 y13 y14 y15 y16) (verb_Check.j0 (k + 1) y0 y1 y2 y3 y4 y5 y6 y7 y8 y9 y10 y11 y12 y13 y14 y15 y16)) ∧ (∀ y0 y1 y2 y3 y4 y5 y6 y7 y8 y9 y10 y11 y12 y13 y14 y15 y16 y17, LeO (verb_Check.j1 k y0 y1 y2 y3 y4 y5 y6 y7 y8 y9 y10 y11 y12 y13 y14 y15 y16 y17) (verb_Check.j1 (k + 1) y0 y1 y2 y3 y4 y5 y6 y7 y8 y9 y10 y11 y12 y13 y14 y15 y16 y17)) ∧ (∀ y0 y1 y2 y3 y4 y5 y6 y7 y8 y9 y10 y11 y12 y13 y14 y15 y16, LeO (verb_Check.j2 k y0 y1 y2 y3 y4 y5 y6 y7 y8 y9 y10 y11 y12 y13 y14 y15 y16) (verb_Check.j2 (k + 1) y0 y1 y2 y3 y4 y5 y6 y7 y8 y9 y10 y11 y12 y13 y14 y15 y16)) ∧ (∀ y0 y1 y2 y3 y4 y5 y6 y7 y8 y9 y10 y11 y12 y13 y14 y15 y16, LeO (verb_Check.j3 k y0 y1 y2 y3 y4 y5 y6 y7 y8 y9 y10 y11 y12 y13 y14 y15 y16) (verb_Check.j3 (k + 1) y0 y1 y2 y3 y4 y5 y6 y7 y8 y9 y10 y11 y12 y13 y14 y15 y16)) ∧ (∀ y0 y1 y2 y3 y4 y5 y6 y7 y8 y9 y10 y11 y12 y13 y14 y15 y16, LeO (verb_Check.j4 k y0 y1 y2 y3 y4 y5 y6 y7 y8 y9 y10 y11 y12 y13 y14 y15 y16) (verb_Check.j4 (k + 1) y0 y1 y2 y3 y4 y5 y6 y7 y8 y9 y10 y11 y12 y13 y14 y15 y16)) ∧ (∀ y0 y1 y2 y3 y4 y5 y6 y7 y8 y9 y10 y11 y12 y13 y14 y15 y16 y17, LeO (verb_Check.j5 k y0 y1 y2 y3 y4 y5 y6 y7 y8 y9 y10 y11 y12 y13 y14 y15 y16 y17) (verb_Check.j5 (k + 1) y0 y1 y2 y3 y4 y5 y6 y7 y8 y9 y10 y11 y12 y13 y14 y15 y16 y17)) ∧ (∀ y0 y1 y2 y3 y4 y5 y6 y7 y8 y9 y10 y11 y12 y13 y14 y15 y16, LeO (verb_Check.j6 k y0 y1 y2 y3 y4 y5 y6 y7 y8 y9 y10 y11 y12 y13 y14 y15 y16) (verb_Check.j6 (k + 1) y0 y1 y2 y3 y4 y5 y6 y7 y8 y9 y10 y11 y12 y13 y14 y15 y16)) ∧ (∀ y0 y1 y2 y3 y4 y5 y6 y7 y8 y9 y10 y11 y12 y13 y14 y15 y16, LeO (verb_Check.j7 k y0 y1 y2 y3 y4 y5 y6 y7 y8 y9 y10 y11 y12 y13 y14 y15 y16) (verb_Check.j7 (k + 1) y0 y1 y2 y3 y4 y5 y6 y7 y8 y9 y10 y11 y12 y13 y14 y15 y16)) ∧ (∀ y0 y1 y2 y3 y4 y5 y6 y7 y8 y9, LeO (verb_Check.j8 k y0 y1 y2 y3 y4 y5 y6 y7 y8 y9) (verb_Check.j8 (k + 1) y0 y1 y2 y3 y4 y5 y6 y7 y8 y9)) ∧ (∀ y0 y1 y2 y3 y4 y5 y6 y7 y8, LeO (verb_Check.j9 k y0 y1 y2 y3 y4 y5 y6 y7 y8) (verb_Check.j9 (k + 1) y0 y1 y2 y3 y4 y5 y6 y7 y8))
 | 0 => ⟨fun _ _ _ _ _ _ _ _ _ _ _ _ _ _ _ _ _ r h => by simp [verb_Check.j0] at h, fun _ _ _ _ _ _ _ _ _ _ _ _ _ _ _ _ _ _ r h => by simp [verb_Check.j1] at h, fun _ _ _ _ _ _ _ _ _ _ _ _ _ _ _ _ _ r h => by simp [verb_Check.j2] at h, fun _ _ _ _ _ _ _ _ _ _ _ _ _ _ _ _ _ r h => by simp [verb_Check.j3] at h, fun _ _ _ _ _ _ _ _ _ _ _ _ _ _ _ _ _ r h => by simp [verb_Check.j4] at h, fun _ _ _ _ _ _ _ _ _ _ _ _ _ _ _ _ _ _ r h => by simp [verb_Check.j5] at h, fun _ _ _ _ _ _ _ _ _ _ _ _ _ _ _ _ _ r h => by simp [verb_Check.j6] at h, fun _ _ _ _ _ _ _ _ _ _ _ _ _ _ _ _ _ r h => by simp [verb_Check.j7] at h, fun _ _ _ _ _ _ _ _ _ _ r h => by simp [verb_Check.j8] at h, fun _ _ _ _ _ _ _ _ _ r h => by simp [verb_Check.j9] at h⟩
 | k + 1 => by
  obtain ⟨ih0, ih1, ih2, ih3, ih4, ih5, ih6, ih7, ih8, ih9⟩ := verb_Check.mono_l k; refine ⟨?_, ?_, ?_, ?_, ?_, ?_, ?_, ?_, ?_, ?_⟩
  all_goals intros
  all_goals (first | unfold verb_Check.j0 | unfold verb_Check.j1 | unfold verb_Check.j2 | unfold verb_Check.j3 | unfold verb_Check.j4 | unfold verb_Check.j5 | unfold verb_Check.j6 | unfold verb_Check.j7 | unfold verb_Check.j8 | unfold verb_Check.j9)
  all_goals repeat' first | (with_reducible first | apply ih0 | apply ih1 | apply ih2 | apply ih3 | apply ih4 | apply ih5 | apply ih6 | apply ih7 | apply ih8 | apply ih9 | apply slices_ContainsFunc_string_string.mono | apply verb_ends.mono | exact LeO.refl _ | exact LeO.none _ | refine LeO.ite ?_ ?_ | refine LeO.bind ?_ (fun _ => ?_)) | apply ih0 | apply ih1 | apply ih2 | apply ih3 | apply ih4 | apply ih5 | apply ih6 | apply ih7 | apply ih8 | apply ih9 | apply slices_ContainsFunc_string_string.mono | apply verb_ends.mono | exact LeO.none _ | refine LeO.ite ?_ ?_ | refine LeO.bind ?_ (fun _ => ?_)
theorem verb_Check.mono : ∀ a0 a1 a2 a3 a4 a5 a6 a7 k, LeO (verb_Check.f k a0 a1 a2 a3 a4 a5 a6 a7) (verb_Check.f (k + 1) a0 a1 a2 a3 a4 a5 a6 a7) := by
 intro a0 a1 a2 a3 a4 a5 a6 a7 k
 obtain ⟨ih0, ih1, ih2, ih3, ih4, ih5, ih6, ih7, ih8, ih9⟩ := verb_Check.mono_l k; unfold verb_Check.f
 repeat' first | (with_reducible first | apply ih0 | apply ih1 | apply ih2 | apply ih3 | apply ih4 | apply ih5 | apply ih6 | apply ih7 | apply ih8 | apply ih9 | apply slices_ContainsFunc_string_string.mono | apply verb_ends.mono | exact LeO.refl _ | exact LeO.none _ | refine LeO.ite ?_ ?_ | refine LeO.bind ?_ (fun _ => ?_)) | apply ih0 | apply ih1 | apply ih2 | apply ih3 | apply ih4 | apply ih5 | apply ih6 | apply ih7 | apply ih8 | apply ih9 | apply slices_ContainsFunc_string_string.mono | apply verb_ends.mono | exact LeO.none _ | refine LeO.ite ?_ ?_ | refine LeO.bind ?_ (fun _ => ?_)

end Go.Proofs.YtbfgopinbpbddaaDoor.P
