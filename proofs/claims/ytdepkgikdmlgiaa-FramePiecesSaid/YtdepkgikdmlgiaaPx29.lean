/- Lean functions for the Go functions that the laws of this seat use, and the proofs that the Go code computes them; conditions: the readings that each theorem names. Written by a program. -/
import Derived.Test.YtdepkgikdmlgiaaPx0
import Derived.Test.YtdepkgikdmlgiaaPx7
import Derived.Test.YtdepkgikdmlgiaaPx15
import Derived.Test.YtdepkgikdmlgiaaPx24
import Derived.Test.YtdepkgikdmlgiaaPx27
import Derived.Test.YtdepkgikdmlgiaaShort
namespace Go.Proofs.Ytdepkgikdmlgiaa.P
open Go.RowKit Go.Proofs.YtdepkgikdmlgiaaW.PrintWords Go.Proofs.YtdepkgikdmlgiaaW.PrintLast Go.Proofs.YtdepkgikdmlgiaaW.PrintMore
set_option linter.unusedVariables false
set_option linter.unusedSimpArgs false

/-! ### frame_Command: function 30 -/
mutual
def frame_Command.j0 : Nat → Int → Bool → Bool → Int → Int → Int → Int → ByteArray → ByteArray → ByteArray → Int → Int → Int → ByteArray → Int → Int → Bool → Option (Int × List ByteArray × Int × Int × ByteArray × Int × Int × Bool × Int)
 | 0, _, _, _, _, _, _, _, _, _, _, _, _, _, _, _, _, _ => none
 | k + 1, x4, x49, z3, z4, z5, z6, z1, z0, z2, z7, ze, zf, zk, z8, z9, zg, za => if x49 = true then (frame_Command.j1 k x4 z3 z4 z5 z6 z1 z0 z2 z7 ze (([z2] : List ByteArray)) zf zk z8 z9 zg za) else (frame_Command.j1 k x4 z3 z4 z5 z6 z1 z0 z2 z7 ze ([] : List ByteArray) zf zk z8 z9 zg za)
def frame_Command.j1 : Nat → Int → Bool → Int → Int → Int → Int → ByteArray → ByteArray → ByteArray → Int → List ByteArray → Int → Int → ByteArray → Int → Int → Bool → Option (Int × List ByteArray × Int × Int × ByteArray × Int × Int × Bool × Int)
 | 0, _, _, _, _, _, _, _, _, _, _, _, _, _, _, _, _, _ => none
 | k + 1, x4, z3, z4, z5, z6, z1, z0, z2, z7, ze, zm, zf, zk, z8, z9, zg, za => if (z0.size : Int) = 4 then ((frame_expiry.f k z0).bind fun t365 => (frame_Command.j2 k x4 4294967295 z3 z4 z5 z6 z1 z0 z2 z7 ze zm zf t365 z8 z9 zg za)) else (if (z0.size : Int) = 8 then (if 0 ≤ 4 then (if 4 ≤ (z0.size : Int) then ((frame_take.f k (z0.extract 0 4)).bind fun t366 => ((frame_expiry.f k (z0.extract 4 z0.size)).bind fun t367 => (frame_Command.j2 k x4 4294967295 z3 z4 z5 z6 z1 z0 z2 z7 ze zm ((t366) % 4294967296) t367 z8 z9 zg za))) else (none)) else (none)) else (if (z0.size : Int) = 20 then (if 0 ≤ 8 then (if 8 ≤ (z0.size : Int) then ((frame_take.f k (z0.extract 0 8)).bind fun t368 => (if 16 ≤ (z0.size : Int) then ((frame_take.f k (z0.extract 16 z0.size)).bind fun t369 => (frame_Command.j2 k x4 t369 z3 z4 z5 z6 z1 z0 z2 z7 ze zm zf zk z8 z9 t368 za)) else (none))) else (none)) else (none)) else (frame_Command.j2 k x4 4294967295 z3 z4 z5 z6 z1 z0 z2 z7 ze zm zf zk z8 z9 zg za)))
def frame_Command.j2 : Nat → Int → Int → Bool → Int → Int → Int → Int → ByteArray → ByteArray → ByteArray → Int → List ByteArray → Int → Int → ByteArray → Int → Int → Bool → Option (Int × List ByteArray × Int × Int × ByteArray × Int × Int × Bool × Int)
 | 0, _, _, _, _, _, _, _, _, _, _, _, _, _, _, _, _, _, _ => none
 | k + 1, x4, x7, z3, z4, z5, z6, z1, z0, z2, z7, ze, zm, zf, zk, z8, z9, zg, za => if z1 = 0 then (frame_Command.j3 k x7 false ze zm zf zk z8 z9 zg za) else (if x4 = 5 then (frame_Command.j3 k x7 true ze zm zf zk z8 z9 zg za) else (frame_Command.j3 k x7 (x4 == 7) ze zm zf zk z8 z9 zg za))
def frame_Command.j3 : Nat → Int → Bool → Int → List ByteArray → Int → Int → ByteArray → Int → Int → Bool → Option (Int × List ByteArray × Int × Int × ByteArray × Int × Int × Bool × Int)
 | 0, _, _, _, _, _, _, _, _, _, _ => none
 | k + 1, x7, x93, ze, zm, zf, zk, z8, z9, zg, za => if x93 = true then (frame_Command.j4 k x7 10 zm zf zk z8 z9 zg za) else (frame_Command.j4 k x7 ze zm zf zk z8 z9 zg za)
def frame_Command.j4 : Nat → Int → Int → List ByteArray → Int → Int → ByteArray → Int → Int → Bool → Option (Int × List ByteArray × Int × Int × ByteArray × Int × Int × Bool × Int)
 | 0, _, _, _, _, _, _, _, _, _ => none
 | k + 1, x7, ze, zm, zf, zk, z8, z9, zg, za => if x7 = 4294967295 then ((verb_Check.f k ze zm zf zk z8 z9 zg za).bind fun t370 => (if t370 = 0 then (some (ze, zm, zf, zk, z8, z9, zg, za, 0)) else (some (0, ([] : List ByteArray), 0, 0, (⟨#[]⟩ : ByteArray), 0, 0, false, 6)))) else (some (0, ([] : List ByteArray), 0, 0, (⟨#[]⟩ : ByteArray), 0, 0, false, 6))
def frame_Command.j5 : Nat → Int → Bool → Bool → Int → Int → Int → Int → ByteArray → ByteArray → ByteArray → Int → Int → Int → ByteArray → Int → Int → Bool → Option (Int × List ByteArray × Int × Int × ByteArray × Int × Int × Bool × Int)
 | 0, _, _, _, _, _, _, _, _, _, _, _, _, _, _, _, _, _ => none
 | k + 1, x4, x49, z3, z4, z5, z6, z1, z0, z2, z7, zh, zi, zl, zb, zc, zj, zd => if x49 = true then (frame_Command.j6 k x4 z3 z4 z5 z6 z1 z0 z2 z7 zh (([z2] : List ByteArray)) zi zl zb zc zj zd) else (frame_Command.j6 k x4 z3 z4 z5 z6 z1 z0 z2 z7 zh ([] : List ByteArray) zi zl zb zc zj zd)
def frame_Command.j6 : Nat → Int → Bool → Int → Int → Int → Int → ByteArray → ByteArray → ByteArray → Int → List ByteArray → Int → Int → ByteArray → Int → Int → Bool → Option (Int × List ByteArray × Int × Int × ByteArray × Int × Int × Bool × Int)
 | 0, _, _, _, _, _, _, _, _, _, _, _, _, _, _, _, _, _ => none
 | k + 1, x4, z3, z4, z5, z6, z1, z0, z2, z7, zh, zn, zi, zl, zb, zc, zj, zd => if (z0.size : Int) = 4 then ((frame_expiry.f k z0).bind fun t375 => (frame_Command.j7 k x4 4294967295 z3 z4 z5 z6 z1 z0 z2 z7 zh zn zi t375 zb zc zj zd)) else (if (z0.size : Int) = 8 then (if 0 ≤ 4 then (if 4 ≤ (z0.size : Int) then ((frame_take.f k (z0.extract 0 4)).bind fun t376 => ((frame_expiry.f k (z0.extract 4 z0.size)).bind fun t377 => (frame_Command.j7 k x4 4294967295 z3 z4 z5 z6 z1 z0 z2 z7 zh zn ((t376) % 4294967296) t377 zb zc zj zd))) else (none)) else (none)) else (if (z0.size : Int) = 20 then (if 0 ≤ 8 then (if 8 ≤ (z0.size : Int) then ((frame_take.f k (z0.extract 0 8)).bind fun t378 => (if 16 ≤ (z0.size : Int) then ((frame_take.f k (z0.extract 16 z0.size)).bind fun t379 => (frame_Command.j7 k x4 t379 z3 z4 z5 z6 z1 z0 z2 z7 zh zn zi zl zb zc t378 zd)) else (none))) else (none)) else (none)) else (frame_Command.j7 k x4 4294967295 z3 z4 z5 z6 z1 z0 z2 z7 zh zn zi zl zb zc zj zd)))
def frame_Command.j7 : Nat → Int → Int → Bool → Int → Int → Int → Int → ByteArray → ByteArray → ByteArray → Int → List ByteArray → Int → Int → ByteArray → Int → Int → Bool → Option (Int × List ByteArray × Int × Int × ByteArray × Int × Int × Bool × Int)
 | 0, _, _, _, _, _, _, _, _, _, _, _, _, _, _, _, _, _, _ => none
 | k + 1, x4, x7, z3, z4, z5, z6, z1, z0, z2, z7, zh, zn, zi, zl, zb, zc, zj, zd => if z1 = 0 then (frame_Command.j8 k x7 false zh zn zi zl zb zc zj zd) else (if x4 = 5 then (frame_Command.j8 k x7 true zh zn zi zl zb zc zj zd) else (frame_Command.j8 k x7 (x4 == 7) zh zn zi zl zb zc zj zd))
def frame_Command.j8 : Nat → Int → Bool → Int → List ByteArray → Int → Int → ByteArray → Int → Int → Bool → Option (Int × List ByteArray × Int × Int × ByteArray × Int × Int × Bool × Int)
 | 0, _, _, _, _, _, _, _, _, _, _ => none
 | k + 1, x7, x93, zh, zn, zi, zl, zb, zc, zj, zd => if x93 = true then (frame_Command.j9 k x7 10 zn zi zl zb zc zj zd) else (frame_Command.j9 k x7 zh zn zi zl zb zc zj zd)
def frame_Command.j9 : Nat → Int → Int → List ByteArray → Int → Int → ByteArray → Int → Int → Bool → Option (Int × List ByteArray × Int × Int × ByteArray × Int × Int × Bool × Int)
 | 0, _, _, _, _, _, _, _, _, _ => none
 | k + 1, x7, zh, zn, zi, zl, zb, zc, zj, zd => if x7 = 4294967295 then ((verb_Check.f k zh zn zi zl zb zc zj zd).bind fun t380 => (if t380 = 0 then (some (zh, zn, zi, zl, zb, zc, zj, zd, 0)) else (some (0, ([] : List ByteArray), 0, 0, (⟨#[]⟩ : ByteArray), 0, 0, false, 6)))) else (some (0, ([] : List ByteArray), 0, 0, (⟨#[]⟩ : ByteArray), 0, 0, false, 6))
end
def frame_Command.f (k : Nat) (a0_0 : Bool) (a0_1 : Int) (a0_2 : Int) (a0_3 : Int) (a0_4 : Int) (a0_5 : ByteArray) (a0_6 : ByteArray) (a0_7 : ByteArray) : Option (Int × List ByteArray × Int × Int × ByteArray × Int × Int × Bool × Int) := (frame_find.f k a0_1).bind fun bt357 => (if a0_0 = true then (some (0, ([] : List ByteArray), 0, 0, (⟨#[]⟩ : ByteArray), 0, 0, false, 5)) else (if bt357.1 = 0 then (some (0, ([] : List ByteArray), 0, 0, (⟨#[]⟩ : ByteArray), 0, 0, false, 70)) else ((frame_extras.f k bt357.1).bind fun t359 => (if (a0_5.size : Int) = t359 then (if bt357.2 = true then ((frame_reads.f bt357.1).bind fun t360 => (if bt357.1 = 15 then (frame_Command.j0 k bt357.1 (a0_6.toList != ([] : List UInt8)) a0_0 a0_1 a0_2 a0_3 a0_4 a0_5 a0_6 a0_7 bt357.1 0 0 a0_7 a0_4 0 (!t360)) else (frame_Command.j0 k bt357.1 true a0_0 a0_1 a0_2 a0_3 a0_4 a0_5 a0_6 a0_7 bt357.1 0 0 a0_7 a0_4 0 (!t360)))) else (if bt357.1 = 15 then (frame_Command.j5 k bt357.1 (a0_6.toList != ([] : List UInt8)) a0_0 a0_1 a0_2 a0_3 a0_4 a0_5 a0_6 a0_7 bt357.1 0 0 a0_7 a0_4 0 false) else (frame_Command.j5 k bt357.1 true a0_0 a0_1 a0_2 a0_3 a0_4 a0_5 a0_6 a0_7 bt357.1 0 0 a0_7 a0_4 0 false))) else (some (0, ([] : List ByteArray), 0, 0, (⟨#[]⟩ : ByteArray), 0, 0, false, 6))))))
def frame_Command.T8 : Bool × List (List Nat × List Nat) := (true, [([], []), ([], []), ([1], [1]), ([], []), ([3], [3]), ([], []), ([5], [5]), ([6], [6]), ([7, 6, 6], [6, 7]), ([8, 6], [6, 8]), ([6, 9], [6, 9]), ([0, 2, 4, 10], [0, 2, 4, 10]), ([], []), ([12, 11, 8, 0, 1, 2, 3, 4, 5, 6, 7, 8, 9, 10, 11, 12], [11, 12])])
def frame_Command.B8 : List Nat := [0, 0, 2, 0, 8, 0, 32, 96, 224, 480, 992, 2047, 0, 8191]
theorem frame_Command.tab8 : rtab .any (opsOf Try.f30 8) = frame_Command.T8 := by kernel_rfl
theorem frame_Command.bits8 : waitsOk frame_Command.T8.2 frame_Command.B8 = true := by kernel_rfl
def frame_Command.T17 : Bool × List (List Nat × List Nat) := (true, [([], []), ([0], [0]), ([1], [1]), ([2], [2]), ([], []), ([4], [4]), ([5, 2], [5]), ([0, 1, 2, 3], []), ([7, 3, 6, 0, 1, 2, 3], [3, 7]), ([0, 1, 2, 3, 4, 5, 6, 7, 8], []), ([9, 6, 8, 0, 1, 2, 3, 4, 5, 6, 7, 8], [6, 9])])
def frame_Command.B17 : List Nat := [0, 1, 3, 7, 0, 16, 55, 15, 255, 511, 1023]
theorem frame_Command.tab17 : rtab .any (opsOf Try.f30 17) = frame_Command.T17 := by kernel_rfl
theorem frame_Command.bits17 : waitsOk frame_Command.T17.2 frame_Command.B17 = true := by kernel_rfl
def frame_Command.T19 : Bool × List (List Nat × List Nat) := (true, [([], []), ([0], [0]), ([1], [1]), ([], []), ([3], [3]), ([4, 2], [4]), ([0, 1, 2], []), ([6, 2, 5, 0, 1, 2], [2, 6]), ([5, 7, 0, 1, 2, 3, 4, 5, 6, 7], [5])])
def frame_Command.B19 : List Nat := [0, 1, 3, 0, 8, 31, 7, 127, 255]
theorem frame_Command.tab19 : rtab .any (opsOf Try.f30 19) = frame_Command.T19 := by kernel_rfl
theorem frame_Command.bits19 : waitsOk frame_Command.T19.2 frame_Command.B19 = true := by kernel_rfl

end Go.Proofs.Ytdepkgikdmlgiaa.P
