/- Lean functions for the Go functions that the laws of this seat use, and the proofs that the Go code computes them; conditions: the readings that each theorem names. Written by a program. -/
import Derived.Test.YtdepkgikdmlgiaaPx0
import Derived.Test.YtdepkgikdmlgiaaPx24
import Derived.Test.YtdepkgikdmlgiaaPx26
import Derived.Test.YtdepkgikdmlgiaaShort
namespace Go.Proofs.Ytdepkgikdmlgiaa.P
open Go.RowKit Go.Proofs.YtdepkgikdmlgiaaW.PrintWords Go.Proofs.YtdepkgikdmlgiaaW.PrintLast Go.Proofs.YtdepkgikdmlgiaaW.PrintMore
set_option linter.unusedVariables false
set_option linter.unusedSimpArgs false

/-! ### verb_Check: function 51 -/
mutual
def verb_Check.j0 : Nat → Int → Int → List ByteArray → Int → Int → ByteArray → Int → Int → Bool → Int → List ByteArray → Int → Int → ByteArray → Int → Int → Bool → Option (Int)
 | 0, _, _, _, _, _, _, _, _, _, _, _, _, _, _, _, _, _ => none
 | k + 1, x3, z7, z0, z2, z3, z1, z4, z5, z6, z9, za, zb, zc, z8, zd, ze, zf => (verb_Stores.f x3).bind fun t349 => (if t349 = true then ((verb_ends.f k x3).bind fun t350 => (verb_Check.j1 k x3 (!t350) z7 z0 z2 z3 z1 z4 z5 z6 z9 za zb zc z8 zd ze zf)) else (verb_Check.j1 k x3 true z7 z0 z2 z3 z1 z4 z5 z6 z9 za zb zc z8 zd ze zf))
def verb_Check.j1 : Nat → Int → Bool → Int → List ByteArray → Int → Int → ByteArray → Int → Int → Bool → Int → List ByteArray → Int → Int → ByteArray → Int → Int → Bool → Option (Int)
 | 0, _, _, _, _, _, _, _, _, _, _, _, _, _, _, _, _, _, _ => none
 | k + 1, x3, x24, z7, z0, z2, z3, z1, z4, z5, z6, z9, za, zb, zc, z8, zd, ze, zf => if x24 = true then (verb_Check.j2 k x3 z7 z0 z2 z3 z1 z4 z5 z6 z9 za 0 zc z8 zd ze zf) else (verb_Check.j2 k x3 z7 z0 z2 z3 z1 z4 z5 z6 z9 za zb zc z8 zd ze zf)
def verb_Check.j2 : Nat → Int → Int → List ByteArray → Int → Int → ByteArray → Int → Int → Bool → Int → List ByteArray → Int → Int → ByteArray → Int → Int → Bool → Option (Int)
 | 0, _, _, _, _, _, _, _, _, _, _, _, _, _, _, _, _, _ => none
 | k + 1, x3, z7, z0, z2, z3, z1, z4, z5, z6, z9, za, zb, zc, z8, zd, ze, zf => (verb_ends.f k x3).bind fun t351 => (if t351 = true then (verb_Check.j3 k x3 z7 z0 z2 z3 z1 z4 z5 z6 z9 za zb zc z8 zd ze zf) else (verb_Check.j3 k x3 z7 z0 z2 z3 z1 z4 z5 z6 z9 za zb 0 z8 zd ze zf))
def verb_Check.j3 : Nat → Int → Int → List ByteArray → Int → Int → ByteArray → Int → Int → Bool → Int → List ByteArray → Int → Int → ByteArray → Int → Int → Bool → Option (Int)
 | 0, _, _, _, _, _, _, _, _, _, _, _, _, _, _, _, _, _ => none
 | k + 1, x3, z7, z0, z2, z3, z1, z4, z5, z6, z9, za, zb, zc, z8, zd, ze, zf => if x3 = 10 then (verb_Check.j4 k x3 z7 z0 z2 z3 z1 z4 z5 z6 z9 za zb zc z8 zd ze zf) else (verb_Check.j4 k x3 z7 z0 z2 z3 z1 z4 z5 z6 z9 za zb zc z8 0 ze zf)
def verb_Check.j4 : Nat → Int → Int → List ByteArray → Int → Int → ByteArray → Int → Int → Bool → Int → List ByteArray → Int → Int → ByteArray → Int → Int → Bool → Option (Int)
 | 0, _, _, _, _, _, _, _, _, _, _, _, _, _, _, _, _, _ => none
 | k + 1, x3, z7, z0, z2, z3, z1, z4, z5, z6, z9, za, zb, zc, z8, zd, ze, zf => if x3 = 12 then (verb_Check.j5 k x3 false z7 z0 z2 z3 z1 z4 z5 z6 z9 za zb zc z8 zd ze zf) else (verb_Check.j5 k x3 (x3 != 13) z7 z0 z2 z3 z1 z4 z5 z6 z9 za zb zc z8 zd ze zf)
def verb_Check.j5 : Nat → Int → Bool → Int → List ByteArray → Int → Int → ByteArray → Int → Int → Bool → Int → List ByteArray → Int → Int → ByteArray → Int → Int → Bool → Option (Int)
 | 0, _, _, _, _, _, _, _, _, _, _, _, _, _, _, _, _, _, _ => none
 | k + 1, x3, x38, z7, z0, z2, z3, z1, z4, z5, z6, z9, za, zb, zc, z8, zd, ze, zf => if x38 = true then (verb_Check.j6 k x3 z7 z0 z2 z3 z1 z4 z5 z6 z9 za zb zc z8 zd 0 zf) else (verb_Check.j6 k x3 z7 z0 z2 z3 z1 z4 z5 z6 z9 za zb zc z8 zd ze zf)
def verb_Check.j6 : Nat → Int → Int → List ByteArray → Int → Int → ByteArray → Int → Int → Bool → Int → List ByteArray → Int → Int → ByteArray → Int → Int → Bool → Option (Int)
 | 0, _, _, _, _, _, _, _, _, _, _, _, _, _, _, _, _, _ => none
 | k + 1, x3, z7, z0, z2, z3, z1, z4, z5, z6, z9, za, zb, zc, z8, zd, ze, zf => (verb_reads.f x3).bind fun t352 => (if t352 = true then (verb_Check.j7 k x3 z7 z0 z2 z3 z1 z4 z5 z6 z9 za zb zc z8 zd ze false) else (verb_Check.j7 k x3 z7 z0 z2 z3 z1 z4 z5 z6 z9 za zb zc z8 zd ze zf))
def verb_Check.j7 : Nat → Int → Int → List ByteArray → Int → Int → ByteArray → Int → Int → Bool → Int → List ByteArray → Int → Int → ByteArray → Int → Int → Bool → Option (Int)
 | 0, _, _, _, _, _, _, _, _, _, _, _, _, _, _, _, _, _ => none
 | k + 1, x3, z7, z0, z2, z3, z1, z4, z5, z6, z9, za, zb, zc, z8, zd, ze, zf => if zb = z2 then (if z8.toList = z1.toList then (if zc = z3 then (if zd = z4 then (if ze = z5 then (verb_Check.j8 k x3 (zf == z6) z7 z0 z2 z3 z1 z4 z5 z6) else (verb_Check.j8 k x3 false z7 z0 z2 z3 z1 z4 z5 z6)) else (verb_Check.j8 k x3 false z7 z0 z2 z3 z1 z4 z5 z6)) else (verb_Check.j8 k x3 false z7 z0 z2 z3 z1 z4 z5 z6)) else (verb_Check.j8 k x3 false z7 z0 z2 z3 z1 z4 z5 z6)) else (verb_Check.j8 k x3 false z7 z0 z2 z3 z1 z4 z5 z6)
def verb_Check.j8 : Nat → Int → Bool → Int → List ByteArray → Int → Int → ByteArray → Int → Int → Bool → Option (Int)
 | 0, _, _, _, _, _, _, _, _, _, _ => none
 | k + 1, x3, x5, z7, z0, z2, z3, z1, z4, z5, z6 => if x5 = true then ((verb_keys.f x3 (z0.length : Int)).bind fun t353 => (if t353 = true then ((slices_ContainsFunc_string_string.f k z0).bind fun t354 => (verb_Check.j9 k t354 z7 z0 z2 z3 z1 z4 z5 z6)) else (verb_Check.j9 k (!t353) z7 z0 z2 z3 z1 z4 z5 z6))) else (verb_Check.j9 k (!x5) z7 z0 z2 z3 z1 z4 z5 z6)
def verb_Check.j9 : Nat → Bool → Int → List ByteArray → Int → Int → ByteArray → Int → Int → Bool → Option (Int)
 | 0, _, _, _, _, _, _, _, _, _ => none
 | k + 1, x83, z7, z0, z2, z3, z1, z4, z5, z6 => if x83 = true then (some 6) else (if (z1.size : Int) > 2000 then (some 7) else (some 0))
end
def verb_Check.f (k : Nat) (a0_0 : Int) (l0_1 : List ByteArray) (a0_2 : Int) (a0_3 : Int) (a0_4 : ByteArray) (a0_5 : Int) (a0_6 : Int) (a0_7 : Bool) : Option (Int) := (verb_kind.f a0_0).bind fun t346 => (if t346 = true then ((verb_Stores.f a0_0).bind fun t348 => (if t348 = true then (verb_Check.j0 k a0_0 a0_0 l0_1 a0_2 a0_3 a0_4 a0_5 a0_6 a0_7 a0_0 l0_1 a0_2 a0_3 a0_4 a0_5 a0_6 a0_7) else (verb_Check.j0 k a0_0 a0_0 l0_1 a0_2 a0_3 a0_4 a0_5 a0_6 a0_7 a0_0 l0_1 a0_2 a0_3 (⟨#[]⟩ : ByteArray) a0_5 a0_6 a0_7))) else (some 70))
end Go.Proofs.Ytdepkgikdmlgiaa.P
