/- Lean functions for the Go functions that the laws of this seat use, and the proofs that the Go code computes them; conditions: the readings that each theorem names. Written by a program. -/
import Derived.Test.YtmogojefpjmhkaaPx0
import Derived.Test.YtmogojefpjmhkaaPx6
import Derived.Test.YtmogojefpjmhkaaPx10
namespace Go.Proofs.Ytmogojefpjmhkaa.P
open Go.RowKit Go.Proofs.YtmogojefpjmhkaaW.PrintWords Go.Proofs.YtmogojefpjmhkaaW.PrintLast Go.Proofs.YtmogojefpjmhkaaW.PrintMore
attribute [local go_sem] max2_int min2_int max_two min_two max_three min_three max_four min_four   -- for this text's walks alone
set_option linter.unusedVariables false
set_option linter.unusedSimpArgs false

/-! ### tallboyref15_Check: function 19 -/
mutual
def tallboyref15_Check.j0 : Nat → Int → Bool → Int → List ByteArray → Int → Int → ByteArray → Int → Int → Bool → Option (Int)
 | 0, _, _, _, _, _, _, _, _, _, _ => none
 | k + 1, x3, x16, x137000, x137001, x137002, x137003, x137004, x137005, x137006, x137007 => if x16 = true then (some 70) else ((tallboyref15_Reads.f x3).bind fun t137 => (if t137 = true then (if (x137001.length : Int) ≥ 1 then (tallboyref15_Check.j1 k x3 (x137001.length : Int) (decide ((x137001.length : Int) ≤ 8)) x137000 x137001 x137002 x137003 x137004 x137005 x137006 x137007) else (tallboyref15_Check.j1 k x3 (x137001.length : Int) false x137000 x137001 x137002 x137003 x137004 x137005 x137006 x137007)) else (tallboyref15_Check.j1 k x3 (x137001.length : Int) ((x137001.length : Int) == 1) x137000 x137001 x137002 x137003 x137004 x137005 x137006 x137007)))
def tallboyref15_Check.j1 : Nat → Int → Int → Bool → Int → List ByteArray → Int → Int → ByteArray → Int → Int → Bool → Option (Int)
 | 0, _, _, _, _, _, _, _, _, _, _, _ => none
 | k + 1, x3, x4, x5, x137000, x137001, x137002, x137003, x137004, x137005, x137006, x137007 => if x3 = 15 then (tallboyref15_Check.j2 k x3 x4 (x4 == 0) x137000 x137001 x137002 x137003 x137004 x137005 x137006 x137007) else (tallboyref15_Check.j2 k x3 x4 x5 x137000 x137001 x137002 x137003 x137004 x137005 x137006 x137007)
def tallboyref15_Check.j2 : Nat → Int → Int → Bool → Int → List ByteArray → Int → Int → ByteArray → Int → Int → Bool → Option (Int)
 | 0, _, _, _, _, _, _, _, _, _, _, _ => none
 | k + 1, x3, x4, x5, x137000, x137001, x137002, x137003, x137004, x137005, x137006, x137007 => tallboyref15_Check.l0 k x3 x4 x5 0 x137000 x137001 x137002 x137003 x137004 x137005 x137006 x137007
def tallboyref15_Check.j4 : Nat → Int → Bool → Int → List ByteArray → Int → Int → ByteArray → Int → Int → Bool → Option (Int)
 | 0, _, _, _, _, _, _, _, _, _, _ => none
 | k + 1, x3, x5, x137000, x137001, x137002, x137003, x137004, x137005, x137006, x137007 => (tallboyref15_Stores.f x3).bind fun t140 => (if t140 = true then (tallboyref15_Check.j5 k x3 x5 x137000 x137001 x137002 x137003 x137004 x137005 x137006 x137007) else (if x5 = true then (tallboyref15_Check.j5 k x3 (x137004.toList == ([] : List UInt8)) x137000 x137001 x137002 x137003 x137004 x137005 x137006 x137007) else (tallboyref15_Check.j5 k x3 false x137000 x137001 x137002 x137003 x137004 x137005 x137006 x137007)))
def tallboyref15_Check.j5 : Nat → Int → Bool → Int → List ByteArray → Int → Int → ByteArray → Int → Int → Bool → Option (Int)
 | 0, _, _, _, _, _, _, _, _, _, _ => none
 | k + 1, x3, x5, x137000, x137001, x137002, x137003, x137004, x137005, x137006, x137007 => (tallboyref15_Stores.f x3).bind fun t141 => (if t141 = true then (if x3 = 8 then (tallboyref15_Check.j6 k x3 x5 false x137000 x137001 x137002 x137003 x137004 x137005 x137006 x137007) else (tallboyref15_Check.j6 k x3 x5 (x3 != 9) x137000 x137001 x137002 x137003 x137004 x137005 x137006 x137007)) else (tallboyref15_Check.j6 k x3 x5 false x137000 x137001 x137002 x137003 x137004 x137005 x137006 x137007))
def tallboyref15_Check.j6 : Nat → Int → Bool → Bool → Int → List ByteArray → Int → Int → ByteArray → Int → Int → Bool → Option (Int)
 | 0, _, _, _, _, _, _, _, _, _, _, _ => none
 | k + 1, x3, x5, x7, x137000, x137001, x137002, x137003, x137004, x137005, x137006, x137007 => if x7 = true then (tallboyref15_Check.j7 k x3 x5 x7 x137000 x137001 x137002 x137003 x137004 x137005 x137006 x137007) else (if x5 = true then (tallboyref15_Check.j7 k x3 (x137002 == 0) x7 x137000 x137001 x137002 x137003 x137004 x137005 x137006 x137007) else (tallboyref15_Check.j7 k x3 false x7 x137000 x137001 x137002 x137003 x137004 x137005 x137006 x137007))
def tallboyref15_Check.j7 : Nat → Int → Bool → Bool → Int → List ByteArray → Int → Int → ByteArray → Int → Int → Bool → Option (Int)
 | 0, _, _, _, _, _, _, _, _, _, _, _ => none
 | k + 1, x3, x5, x7, x137000, x137001, x137002, x137003, x137004, x137005, x137006, x137007 => if x7 = true then (tallboyref15_Check.j8 k x3 x5 true x137000 x137001 x137002 x137003 x137004 x137005 x137006 x137007) else (if x3 = 3 then (tallboyref15_Check.j8 k x3 x5 true x137000 x137001 x137002 x137003 x137004 x137005 x137006 x137007) else (if x3 = 4 then (tallboyref15_Check.j8 k x3 x5 true x137000 x137001 x137002 x137003 x137004 x137005 x137006 x137007) else (tallboyref15_Check.j8 k x3 x5 (x3 == 14) x137000 x137001 x137002 x137003 x137004 x137005 x137006 x137007)))
def tallboyref15_Check.j8 : Nat → Int → Bool → Bool → Int → List ByteArray → Int → Int → ByteArray → Int → Int → Bool → Option (Int)
 | 0, _, _, _, _, _, _, _, _, _, _, _ => none
 | k + 1, x3, x5, x8, x137000, x137001, x137002, x137003, x137004, x137005, x137006, x137007 => if x8 = true then (tallboyref15_Check.j9 k x3 x5 x137000 x137001 x137002 x137003 x137004 x137005 x137006 x137007) else (if x5 = true then (tallboyref15_Check.j9 k x3 (x137003 == 0) x137000 x137001 x137002 x137003 x137004 x137005 x137006 x137007) else (tallboyref15_Check.j9 k x3 false x137000 x137001 x137002 x137003 x137004 x137005 x137006 x137007))
def tallboyref15_Check.j9 : Nat → Int → Bool → Int → List ByteArray → Int → Int → ByteArray → Int → Int → Bool → Option (Int)
 | 0, _, _, _, _, _, _, _, _, _, _ => none
 | k + 1, x3, x5, x137000, x137001, x137002, x137003, x137004, x137005, x137006, x137007 => if x3 = 10 then (tallboyref15_Check.j10 k x3 x5 x137000 x137001 x137002 x137003 x137004 x137005 x137006 x137007) else (if x5 = true then (tallboyref15_Check.j10 k x3 (x137005 == 0) x137000 x137001 x137002 x137003 x137004 x137005 x137006 x137007) else (tallboyref15_Check.j10 k x3 false x137000 x137001 x137002 x137003 x137004 x137005 x137006 x137007))
def tallboyref15_Check.j10 : Nat → Int → Bool → Int → List ByteArray → Int → Int → ByteArray → Int → Int → Bool → Option (Int)
 | 0, _, _, _, _, _, _, _, _, _, _ => none
 | k + 1, x3, x5, x137000, x137001, x137002, x137003, x137004, x137005, x137006, x137007 => if x3 = 12 then (tallboyref15_Check.j11 k x3 x5 false x137000 x137001 x137002 x137003 x137004 x137005 x137006 x137007) else (tallboyref15_Check.j11 k x3 x5 (x3 != 13) x137000 x137001 x137002 x137003 x137004 x137005 x137006 x137007)
def tallboyref15_Check.j11 : Nat → Int → Bool → Bool → Int → List ByteArray → Int → Int → ByteArray → Int → Int → Bool → Option (Int)
 | 0, _, _, _, _, _, _, _, _, _, _, _ => none
 | k + 1, x3, x5, x109, x137000, x137001, x137002, x137003, x137004, x137005, x137006, x137007 => if x109 = true then (if x5 = true then (tallboyref15_Check.j12 k x3 (x137006 == 0) x137000 x137001 x137002 x137003 x137004 x137005 x137006 x137007) else (tallboyref15_Check.j12 k x3 false x137000 x137001 x137002 x137003 x137004 x137005 x137006 x137007)) else (tallboyref15_Check.j12 k x3 x5 x137000 x137001 x137002 x137003 x137004 x137005 x137006 x137007)
def tallboyref15_Check.j12 : Nat → Int → Bool → Int → List ByteArray → Int → Int → ByteArray → Int → Int → Bool → Option (Int)
 | 0, _, _, _, _, _, _, _, _, _, _ => none
 | k + 1, x3, x5, x137000, x137001, x137002, x137003, x137004, x137005, x137006, x137007 => (tallboyref15_Reads.f x3).bind fun t142 => (if t142 = true then (if x5 = true then (tallboyref15_Check.j13 k (!x137007) x137000 x137001 x137002 x137003 x137004 x137005 x137006 x137007) else (tallboyref15_Check.j13 k false x137000 x137001 x137002 x137003 x137004 x137005 x137006 x137007)) else (tallboyref15_Check.j13 k x5 x137000 x137001 x137002 x137003 x137004 x137005 x137006 x137007))
def tallboyref15_Check.j13 : Nat → Bool → Int → List ByteArray → Int → Int → ByteArray → Int → Int → Bool → Option (Int)
 | 0, _, _, _, _, _, _, _, _, _ => none
 | k + 1, x5, x137000, x137001, x137002, x137003, x137004, x137005, x137006, x137007 => if x5 = true then (if (x137004.size : Int) > 2000 then (some 7) else (some 0)) else (some 6)
def tallboyref15_Check.l0 : Nat → Int → Int → Bool → Int → Int → List ByteArray → Int → Int → ByteArray → Int → Int → Bool → Option (Int)
 | 0, _, _, _, _, _, _, _, _, _, _, _, _ => none
 | k + 1, x3, x4, x5, x6, x137000, x137001, x137002, x137003, x137004, x137005, x137006, x137007 => if x6 < x4 then (if x5 = true then (if 0 ≤ x6 then (if x6 < (x137001.length : Int) then ((tallboyref04_Key.f k (rdOf ByteArray.empty x137001 x6)).bind fun t139 => (tallboyref15_Check.l0 k x3 x4 t139 (wrap64 (x6 + 1)) x137000 x137001 x137002 x137003 x137004 x137005 x137006 x137007)) else (none)) else (none)) else (tallboyref15_Check.j4 k x3 x5 x137000 x137001 x137002 x137003 x137004 x137005 x137006 x137007)) else (tallboyref15_Check.j4 k x3 x5 x137000 x137001 x137002 x137003 x137004 x137005 x137006 x137007)
end
def tallboyref15_Check.f (k : Nat) (a0_0 : Int) (l0_1 : List ByteArray) (a0_2 : Int) (a0_3 : Int) (a0_4 : ByteArray) (a0_5 : Int) (a0_6 : Int) (a0_7 : Bool) : Option (Int) := if a0_0 < 1 then (tallboyref15_Check.j0 k a0_0 true a0_0 l0_1 a0_2 a0_3 a0_4 a0_5 a0_6 a0_7) else (tallboyref15_Check.j0 k a0_0 (decide (a0_0 > 15)) a0_0 l0_1 a0_2 a0_3 a0_4 a0_5 a0_6 a0_7)
theorem tallboyref15_Check.mono_l : ∀ k, (∀ y0 y1 y2 y3 y4 y5 y6 y7 y8 y9, LeO (tallboyref15_Check.j0 k y0 y1 y2 y3 y4 y5 y6 y7 y8 y9) (tallboyref15_Check.j0 (k + 1) y0 y1 y2 y3 y4 y5 y6 y7 y8 y9)) ∧ (∀ y0 y1 y2 y3 y4 y5 y6 y7 y8 y9 y10, LeO (tallboyref15_Check.j1 k y0 y1 y2 y3 y4 y5 y6 y7 y8 y9 y10) (tallboyref15_Check.j1 (k + 1) y0 y1 y2 y3 y4 y5 y6 y7 y8 y9 y10)) ∧ (∀ y0 y1 y2 y3 y4 y5 y6 y7 y8 y9 y10, LeO (tallboyref15_Check.j2 k y0 y1 y2 y3 y4 y5 y6 y7 y8 y9 y10) (tallboyref15_Check.j2 (k + 1) y0 y1 y2 y3 y4 y5 y6 y7 y8 y9 y10)) ∧ (∀ y0 y1 y2 y3 y4 y5 y6 y7 y8 y9, LeO (tallboyref15_Check.j4 k y0 y1 y2 y3 y4 y5 y6 y7 y8 y9) (tallboyref15_Check.j4 (k + 1) y0 y1 y2 y3 y4 y5 y6 y7 y8 y9)) ∧ (∀ y0 y1 y2 y3 y4 y5 y6 y7 y8 y9, LeO (tallboyref15_Check.j5 k y0 y1 y2 y3 y4 y5 y6 y7 y8 y9) (tallboyref15_Check.j5 (k + 1) y0 y1 y2 y3 y4 y5 y6 y7 y8 y9)) ∧ (∀ y0 y1 y2 y3 y4 y5 y6 y7 y8 y9 y10, LeO (tallboyref15_Check.j6 k y0 y1 y2 y3 y4 y5 y6 y7 y8 y9 y10) (tallboyref15_Check.j6 (k + 1) y0 y1 y2 y3 y4 y5 y6 y7 y8 y9 y10)) ∧ (∀ y0 y1 y2 y3 y4 y5 y6 y7 y8 y9 y10, LeO (tallboyref15_Check.j7 k y0 y1 y2 y3 y4 y5 y6 y7 y8 y9 y10) (tallboyref15_Check.j7 (k + 1) y0 y1 y2 y3 y4 y5 y6 y7 y8 y9 y10)) ∧ (∀ y0 y1 y2 y3 y4 y5 y6 y7 y8 y9 y10, LeO (tallboyref15_Check.j8 k y0 y1 y2 y3 y4 y5 y6 y7 y8 y9 y10) (tallboyref15_Check.j8 (k + 1) y0 y1 y2 y3 y4 y5 y6 y7 y8 y9 y10)) ∧ (∀ y0 y1 y2 y3 y4 y5 y6 y7 y8 y9, LeO (tallboyref15_Check.j9 k y0 y1 y2 y3 y4 y5 y6 y7 y8 y9) (tallboyref15_Check.j9 (k + 1) y0 y1 y2 y3 y4 y5 y6 y7 y8 y9)) ∧ (∀ y0 y1 y2 y3 y4 y5 y6 y7 y8 y9, LeO (tallboyref15_Check.j10 k y0 y1 y2 y3 y4 y5 y6 y7 y8 y9) (tallboyref15_Check.j10 (k + 1) y0 y1 y2 y3 y4 y5 y6 y7 y8 y9)) ∧ (∀ y0 y1 y2 y3 y4 y5 y6 y7 y8 y9 y10, LeO (tallboyref15_Check.j11 k y0 y1 y2 y3 y4 y5 y6 y7 y8 y9 y10) (tallboyref15_Check.j11 (k + 1) y0 y1 y2 y3 y4 y5 y6 y7 y8 y9 y10)) ∧ (∀ y0 y1 y2 y3 y4 y5 y6 y7 y8 y9, LeO (tallboyref15_Check.j12 k y0 y1 y2 y3 y4 y5 y6 y7 y8 y9) (tallboyref15_Check.j12 (k + 1) y0 y1 y2 y3 y4 y5 y6 y7 y8 y9)) ∧ (∀ y0 y1 y2 y3 y4 y5 y6 y7 y8, LeO (tallboyref15_Check.j13 k y0 y1 y2 y3 y4 y5 y6 y7 y8) (tallboyref15_Check.j13 (k + 1) y0 y1 y2 y3 y4 y5 y6 y7 y8)) ∧ (∀ y0 y1 y2 y3 y4 y5 y6 y7 y8 y9 y10 y11, LeO (tallboyref15_Check.l0 k y0 y1 y2 y3 y4 y5 y6 y7 y8 y9 y10 y11) (tallboyref15_Check.l0 (k + 1) y0 y1 y2 y3 y4 y5 y6 y7 y8 y9 y10 y11))
 | 0 => ⟨fun _ _ _ _ _ _ _ _ _ _ r h => by simp [tallboyref15_Check.j0] at h, fun _ _ _ _ _ _ _ _ _ _ _ r h => by simp [tallboyref15_Check.j1] at h, fun _ _ _ _ _ _ _ _ _ _ _ r h => by simp [tallboyref15_Check.j2] at h, fun _ _ _ _ _ _ _ _ _ _ r h => by simp [tallboyref15_Check.j4] at h, fun _ _ _ _ _ _ _ _ _ _ r h => by simp [tallboyref15_Check.j5] at h, fun _ _ _ _ _ _ _ _ _ _ _ r h => by simp [tallboyref15_Check.j6] at h, fun _ _ _ _ _ _ _ _ _ _ _ r h => by simp [tallboyref15_Check.j7] at h, fun _ _ _ _ _ _ _ _ _ _ _ r h => by simp [tallboyref15_Check.j8] at h, fun _ _ _ _ _ _ _ _ _ _ r h => by simp [tallboyref15_Check.j9] at h, fun _ _ _ _ _ _ _ _ _ _ r h => by simp [tallboyref15_Check.j10] at h, fun _ _ _ _ _ _ _ _ _ _ _ r h => by simp [tallboyref15_Check.j11] at h, fun _ _ _ _ _ _ _ _ _ _ r h => by simp [tallboyref15_Check.j12] at h, fun _ _ _ _ _ _ _ _ _ r h => by simp [tallboyref15_Check.j13] at h, fun _ _ _ _ _ _ _ _ _ _ _ _ r h => by simp [tallboyref15_Check.l0] at h⟩
 | k + 1 => by
  obtain ⟨ih0, ih1, ih2, ih3, ih4, ih5, ih6, ih7, ih8, ih9, ih10, ih11, ih12, ih13⟩ := tallboyref15_Check.mono_l k
  refine ⟨?_, ?_, ?_, ?_, ?_, ?_, ?_, ?_, ?_, ?_, ?_, ?_, ?_, ?_⟩
  ·intro y0 y1 y2 y3 y4 y5 y6 y7 y8 y9
   unfold tallboyref15_Check.j0
   repeat' first
   | (with_reducible exact ih0 _ _ _ _ _ _ _ _ _ _)
   | (with_reducible exact ih1 _ _ _ _ _ _ _ _ _ _ _)
   | (with_reducible exact ih2 _ _ _ _ _ _ _ _ _ _ _)
   | (with_reducible exact ih3 _ _ _ _ _ _ _ _ _ _)
   | (with_reducible exact ih4 _ _ _ _ _ _ _ _ _ _)
   | (with_reducible exact ih5 _ _ _ _ _ _ _ _ _ _ _)
   | (with_reducible exact ih6 _ _ _ _ _ _ _ _ _ _ _)
   | (with_reducible exact ih7 _ _ _ _ _ _ _ _ _ _ _)
   | (with_reducible exact ih8 _ _ _ _ _ _ _ _ _ _)
   | (with_reducible exact ih9 _ _ _ _ _ _ _ _ _ _)
   | (with_reducible exact ih10 _ _ _ _ _ _ _ _ _ _ _)
   | (with_reducible exact ih11 _ _ _ _ _ _ _ _ _ _)
   | (with_reducible exact ih12 _ _ _ _ _ _ _ _ _)
   | (with_reducible exact ih13 _ _ _ _ _ _ _ _ _ _ _ _)
   | (with_reducible exact tallboyref04_Key.mono _ _)
   | (with_reducible exact LeO.refl _)
   | (with_reducible exact LeO.none _)
   | (with_reducible refine LeO.ite ?_ ?_)
   | (with_reducible refine LeO.bind ?_ (fun _ => ?_))
   | exact ih0 _ _ _ _ _ _ _ _ _ _
   | exact ih1 _ _ _ _ _ _ _ _ _ _ _
   | exact ih2 _ _ _ _ _ _ _ _ _ _ _
   | exact ih3 _ _ _ _ _ _ _ _ _ _
   | exact ih4 _ _ _ _ _ _ _ _ _ _
   | exact ih5 _ _ _ _ _ _ _ _ _ _ _
   | exact ih6 _ _ _ _ _ _ _ _ _ _ _
   | exact ih7 _ _ _ _ _ _ _ _ _ _ _
   | exact ih8 _ _ _ _ _ _ _ _ _ _
   | exact ih9 _ _ _ _ _ _ _ _ _ _
   | exact ih10 _ _ _ _ _ _ _ _ _ _ _
   | exact ih11 _ _ _ _ _ _ _ _ _ _
   | exact ih12 _ _ _ _ _ _ _ _ _
   | exact ih13 _ _ _ _ _ _ _ _ _ _ _ _
   | exact tallboyref04_Key.mono _ _
   | exact LeO.none _
   | refine LeO.ite ?_ ?_
   | refine LeO.bind ?_ (fun _ => ?_)
  ·intro y0 y1 y2 y3 y4 y5 y6 y7 y8 y9 y10
   unfold tallboyref15_Check.j1
   repeat' first
   | (with_reducible exact ih0 _ _ _ _ _ _ _ _ _ _)
   | (with_reducible exact ih1 _ _ _ _ _ _ _ _ _ _ _)
   | (with_reducible exact ih2 _ _ _ _ _ _ _ _ _ _ _)
   | (with_reducible exact ih3 _ _ _ _ _ _ _ _ _ _)
   | (with_reducible exact ih4 _ _ _ _ _ _ _ _ _ _)
   | (with_reducible exact ih5 _ _ _ _ _ _ _ _ _ _ _)
   | (with_reducible exact ih6 _ _ _ _ _ _ _ _ _ _ _)
   | (with_reducible exact ih7 _ _ _ _ _ _ _ _ _ _ _)
   | (with_reducible exact ih8 _ _ _ _ _ _ _ _ _ _)
   | (with_reducible exact ih9 _ _ _ _ _ _ _ _ _ _)
   | (with_reducible exact ih10 _ _ _ _ _ _ _ _ _ _ _)
   | (with_reducible exact ih11 _ _ _ _ _ _ _ _ _ _)
   | (with_reducible exact ih12 _ _ _ _ _ _ _ _ _)
   | (with_reducible exact ih13 _ _ _ _ _ _ _ _ _ _ _ _)
   | (with_reducible exact tallboyref04_Key.mono _ _)
   | (with_reducible exact LeO.refl _)
   | (with_reducible exact LeO.none _)
   | (with_reducible refine LeO.ite ?_ ?_)
   | (with_reducible refine LeO.bind ?_ (fun _ => ?_))
   | exact ih0 _ _ _ _ _ _ _ _ _ _
   | exact ih1 _ _ _ _ _ _ _ _ _ _ _
   | exact ih2 _ _ _ _ _ _ _ _ _ _ _
   | exact ih3 _ _ _ _ _ _ _ _ _ _
   | exact ih4 _ _ _ _ _ _ _ _ _ _
   | exact ih5 _ _ _ _ _ _ _ _ _ _ _
   | exact ih6 _ _ _ _ _ _ _ _ _ _ _
   | exact ih7 _ _ _ _ _ _ _ _ _ _ _
   | exact ih8 _ _ _ _ _ _ _ _ _ _
   | exact ih9 _ _ _ _ _ _ _ _ _ _
   | exact ih10 _ _ _ _ _ _ _ _ _ _ _
   | exact ih11 _ _ _ _ _ _ _ _ _ _
   | exact ih12 _ _ _ _ _ _ _ _ _
   | exact ih13 _ _ _ _ _ _ _ _ _ _ _ _
   | exact tallboyref04_Key.mono _ _
   | exact LeO.none _
   | refine LeO.ite ?_ ?_
   | refine LeO.bind ?_ (fun _ => ?_)
  ·intro y0 y1 y2 y3 y4 y5 y6 y7 y8 y9 y10
   unfold tallboyref15_Check.j2
   repeat' first
   | (with_reducible exact ih0 _ _ _ _ _ _ _ _ _ _)
   | (with_reducible exact ih1 _ _ _ _ _ _ _ _ _ _ _)
   | (with_reducible exact ih2 _ _ _ _ _ _ _ _ _ _ _)
   | (with_reducible exact ih3 _ _ _ _ _ _ _ _ _ _)
   | (with_reducible exact ih4 _ _ _ _ _ _ _ _ _ _)
   | (with_reducible exact ih5 _ _ _ _ _ _ _ _ _ _ _)
   | (with_reducible exact ih6 _ _ _ _ _ _ _ _ _ _ _)
   | (with_reducible exact ih7 _ _ _ _ _ _ _ _ _ _ _)
   | (with_reducible exact ih8 _ _ _ _ _ _ _ _ _ _)
   | (with_reducible exact ih9 _ _ _ _ _ _ _ _ _ _)
   | (with_reducible exact ih10 _ _ _ _ _ _ _ _ _ _ _)
   | (with_reducible exact ih11 _ _ _ _ _ _ _ _ _ _)
   | (with_reducible exact ih12 _ _ _ _ _ _ _ _ _)
   | (with_reducible exact ih13 _ _ _ _ _ _ _ _ _ _ _ _)
   | (with_reducible exact tallboyref04_Key.mono _ _)
   | (with_reducible exact LeO.refl _)
   | (with_reducible exact LeO.none _)
   | (with_reducible refine LeO.ite ?_ ?_)
   | (with_reducible refine LeO.bind ?_ (fun _ => ?_))
   | exact ih0 _ _ _ _ _ _ _ _ _ _
   | exact ih1 _ _ _ _ _ _ _ _ _ _ _
   | exact ih2 _ _ _ _ _ _ _ _ _ _ _
   | exact ih3 _ _ _ _ _ _ _ _ _ _
   | exact ih4 _ _ _ _ _ _ _ _ _ _
   | exact ih5 _ _ _ _ _ _ _ _ _ _ _
   | exact ih6 _ _ _ _ _ _ _ _ _ _ _
   | exact ih7 _ _ _ _ _ _ _ _ _ _ _
   | exact ih8 _ _ _ _ _ _ _ _ _ _
   | exact ih9 _ _ _ _ _ _ _ _ _ _
   | exact ih10 _ _ _ _ _ _ _ _ _ _ _
   | exact ih11 _ _ _ _ _ _ _ _ _ _
   | exact ih12 _ _ _ _ _ _ _ _ _
   | exact ih13 _ _ _ _ _ _ _ _ _ _ _ _
   | exact tallboyref04_Key.mono _ _
   | exact LeO.none _
   | refine LeO.ite ?_ ?_
   | refine LeO.bind ?_ (fun _ => ?_)
  ·intro y0 y1 y2 y3 y4 y5 y6 y7 y8 y9
   unfold tallboyref15_Check.j4
   repeat' first
   | (with_reducible exact ih0 _ _ _ _ _ _ _ _ _ _)
   | (with_reducible exact ih1 _ _ _ _ _ _ _ _ _ _ _)
   | (with_reducible exact ih2 _ _ _ _ _ _ _ _ _ _ _)
   | (with_reducible exact ih3 _ _ _ _ _ _ _ _ _ _)
   | (with_reducible exact ih4 _ _ _ _ _ _ _ _ _ _)
   | (with_reducible exact ih5 _ _ _ _ _ _ _ _ _ _ _)
   | (with_reducible exact ih6 _ _ _ _ _ _ _ _ _ _ _)
   | (with_reducible exact ih7 _ _ _ _ _ _ _ _ _ _ _)
   | (with_reducible exact ih8 _ _ _ _ _ _ _ _ _ _)
   | (with_reducible exact ih9 _ _ _ _ _ _ _ _ _ _)
   | (with_reducible exact ih10 _ _ _ _ _ _ _ _ _ _ _)
   | (with_reducible exact ih11 _ _ _ _ _ _ _ _ _ _)
   | (with_reducible exact ih12 _ _ _ _ _ _ _ _ _)
   | (with_reducible exact ih13 _ _ _ _ _ _ _ _ _ _ _ _)
   | (with_reducible exact tallboyref04_Key.mono _ _)
   | (with_reducible exact LeO.refl _)
   | (with_reducible exact LeO.none _)
   | (with_reducible refine LeO.ite ?_ ?_)
   | (with_reducible refine LeO.bind ?_ (fun _ => ?_))
   | exact ih0 _ _ _ _ _ _ _ _ _ _
   | exact ih1 _ _ _ _ _ _ _ _ _ _ _
   | exact ih2 _ _ _ _ _ _ _ _ _ _ _
   | exact ih3 _ _ _ _ _ _ _ _ _ _
   | exact ih4 _ _ _ _ _ _ _ _ _ _
   | exact ih5 _ _ _ _ _ _ _ _ _ _ _
   | exact ih6 _ _ _ _ _ _ _ _ _ _ _
   | exact ih7 _ _ _ _ _ _ _ _ _ _ _
   | exact ih8 _ _ _ _ _ _ _ _ _ _
   | exact ih9 _ _ _ _ _ _ _ _ _ _
   | exact ih10 _ _ _ _ _ _ _ _ _ _ _
   | exact ih11 _ _ _ _ _ _ _ _ _ _
   | exact ih12 _ _ _ _ _ _ _ _ _
   | exact ih13 _ _ _ _ _ _ _ _ _ _ _ _
   | exact tallboyref04_Key.mono _ _
   | exact LeO.none _
   | refine LeO.ite ?_ ?_
   | refine LeO.bind ?_ (fun _ => ?_)
  ·intro y0 y1 y2 y3 y4 y5 y6 y7 y8 y9
   unfold tallboyref15_Check.j5
   repeat' first
   | (with_reducible exact ih0 _ _ _ _ _ _ _ _ _ _)
   | (with_reducible exact ih1 _ _ _ _ _ _ _ _ _ _ _)
   | (with_reducible exact ih2 _ _ _ _ _ _ _ _ _ _ _)
   | (with_reducible exact ih3 _ _ _ _ _ _ _ _ _ _)
   | (with_reducible exact ih4 _ _ _ _ _ _ _ _ _ _)
   | (with_reducible exact ih5 _ _ _ _ _ _ _ _ _ _ _)
   | (with_reducible exact ih6 _ _ _ _ _ _ _ _ _ _ _)
   | (with_reducible exact ih7 _ _ _ _ _ _ _ _ _ _ _)
   | (with_reducible exact ih8 _ _ _ _ _ _ _ _ _ _)
   | (with_reducible exact ih9 _ _ _ _ _ _ _ _ _ _)
   | (with_reducible exact ih10 _ _ _ _ _ _ _ _ _ _ _)
   | (with_reducible exact ih11 _ _ _ _ _ _ _ _ _ _)
   | (with_reducible exact ih12 _ _ _ _ _ _ _ _ _)
   | (with_reducible exact ih13 _ _ _ _ _ _ _ _ _ _ _ _)
   | (with_reducible exact tallboyref04_Key.mono _ _)
   | (with_reducible exact LeO.refl _)
   | (with_reducible exact LeO.none _)
   | (with_reducible refine LeO.ite ?_ ?_)
   | (with_reducible refine LeO.bind ?_ (fun _ => ?_))
   | exact ih0 _ _ _ _ _ _ _ _ _ _
   | exact ih1 _ _ _ _ _ _ _ _ _ _ _
   | exact ih2 _ _ _ _ _ _ _ _ _ _ _
   | exact ih3 _ _ _ _ _ _ _ _ _ _
   | exact ih4 _ _ _ _ _ _ _ _ _ _
   | exact ih5 _ _ _ _ _ _ _ _ _ _ _
   | exact ih6 _ _ _ _ _ _ _ _ _ _ _
   | exact ih7 _ _ _ _ _ _ _ _ _ _ _
   | exact ih8 _ _ _ _ _ _ _ _ _ _
   | exact ih9 _ _ _ _ _ _ _ _ _ _
   | exact ih10 _ _ _ _ _ _ _ _ _ _ _
   | exact ih11 _ _ _ _ _ _ _ _ _ _
   | exact ih12 _ _ _ _ _ _ _ _ _
   | exact ih13 _ _ _ _ _ _ _ _ _ _ _ _
   | exact tallboyref04_Key.mono _ _
   | exact LeO.none _
   | refine LeO.ite ?_ ?_
   | refine LeO.bind ?_ (fun _ => ?_)
  ·intro y0 y1 y2 y3 y4 y5 y6 y7 y8 y9 y10
   unfold tallboyref15_Check.j6
   repeat' first
   | (with_reducible exact ih0 _ _ _ _ _ _ _ _ _ _)
   | (with_reducible exact ih1 _ _ _ _ _ _ _ _ _ _ _)
   | (with_reducible exact ih2 _ _ _ _ _ _ _ _ _ _ _)
   | (with_reducible exact ih3 _ _ _ _ _ _ _ _ _ _)
   | (with_reducible exact ih4 _ _ _ _ _ _ _ _ _ _)
   | (with_reducible exact ih5 _ _ _ _ _ _ _ _ _ _ _)
   | (with_reducible exact ih6 _ _ _ _ _ _ _ _ _ _ _)
   | (with_reducible exact ih7 _ _ _ _ _ _ _ _ _ _ _)
   | (with_reducible exact ih8 _ _ _ _ _ _ _ _ _ _)
   | (with_reducible exact ih9 _ _ _ _ _ _ _ _ _ _)
   | (with_reducible exact ih10 _ _ _ _ _ _ _ _ _ _ _)
   | (with_reducible exact ih11 _ _ _ _ _ _ _ _ _ _)
   | (with_reducible exact ih12 _ _ _ _ _ _ _ _ _)
   | (with_reducible exact ih13 _ _ _ _ _ _ _ _ _ _ _ _)
   | (with_reducible exact tallboyref04_Key.mono _ _)
   | (with_reducible exact LeO.refl _)
   | (with_reducible exact LeO.none _)
   | (with_reducible refine LeO.ite ?_ ?_)
   | (with_reducible refine LeO.bind ?_ (fun _ => ?_))
   | exact ih0 _ _ _ _ _ _ _ _ _ _
   | exact ih1 _ _ _ _ _ _ _ _ _ _ _
   | exact ih2 _ _ _ _ _ _ _ _ _ _ _
   | exact ih3 _ _ _ _ _ _ _ _ _ _
   | exact ih4 _ _ _ _ _ _ _ _ _ _
   | exact ih5 _ _ _ _ _ _ _ _ _ _ _
   | exact ih6 _ _ _ _ _ _ _ _ _ _ _
   | exact ih7 _ _ _ _ _ _ _ _ _ _ _
   | exact ih8 _ _ _ _ _ _ _ _ _ _
   | exact ih9 _ _ _ _ _ _ _ _ _ _
   | exact ih10 _ _ _ _ _ _ _ _ _ _ _
   | exact ih11 _ _ _ _ _ _ _ _ _ _
   | exact ih12 _ _ _ _ _ _ _ _ _
   | exact ih13 _ _ _ _ _ _ _ _ _ _ _ _
   | exact tallboyref04_Key.mono _ _
   | exact LeO.none _
   | refine LeO.ite ?_ ?_
   | refine LeO.bind ?_ (fun _ => ?_)
  ·intro y0 y1 y2 y3 y4 y5 y6 y7 y8 y9 y10
   unfold tallboyref15_Check.j7
   repeat' first
   | (with_reducible exact ih0 _ _ _ _ _ _ _ _ _ _)
   | (with_reducible exact ih1 _ _ _ _ _ _ _ _ _ _ _)
   | (with_reducible exact ih2 _ _ _ _ _ _ _ _ _ _ _)
   | (with_reducible exact ih3 _ _ _ _ _ _ _ _ _ _)
   | (with_reducible exact ih4 _ _ _ _ _ _ _ _ _ _)
   | (with_reducible exact ih5 _ _ _ _ _ _ _ _ _ _ _)
   | (with_reducible exact ih6 _ _ _ _ _ _ _ _ _ _ _)
   | (with_reducible exact ih7 _ _ _ _ _ _ _ _ _ _ _)
   | (with_reducible exact ih8 _ _ _ _ _ _ _ _ _ _)
   | (with_reducible exact ih9 _ _ _ _ _ _ _ _ _ _)
   | (with_reducible exact ih10 _ _ _ _ _ _ _ _ _ _ _)
   | (with_reducible exact ih11 _ _ _ _ _ _ _ _ _ _)
   | (with_reducible exact ih12 _ _ _ _ _ _ _ _ _)
   | (with_reducible exact ih13 _ _ _ _ _ _ _ _ _ _ _ _)
   | (with_reducible exact tallboyref04_Key.mono _ _)
   | (with_reducible exact LeO.refl _)
   | (with_reducible exact LeO.none _)
   | (with_reducible refine LeO.ite ?_ ?_)
   | (with_reducible refine LeO.bind ?_ (fun _ => ?_))
   | exact ih0 _ _ _ _ _ _ _ _ _ _
   | exact ih1 _ _ _ _ _ _ _ _ _ _ _
   | exact ih2 _ _ _ _ _ _ _ _ _ _ _
   | exact ih3 _ _ _ _ _ _ _ _ _ _
   | exact ih4 _ _ _ _ _ _ _ _ _ _
   | exact ih5 _ _ _ _ _ _ _ _ _ _ _
   | exact ih6 _ _ _ _ _ _ _ _ _ _ _
   | exact ih7 _ _ _ _ _ _ _ _ _ _ _
   | exact ih8 _ _ _ _ _ _ _ _ _ _
   | exact ih9 _ _ _ _ _ _ _ _ _ _
   | exact ih10 _ _ _ _ _ _ _ _ _ _ _
   | exact ih11 _ _ _ _ _ _ _ _ _ _
   | exact ih12 _ _ _ _ _ _ _ _ _
   | exact ih13 _ _ _ _ _ _ _ _ _ _ _ _
   | exact tallboyref04_Key.mono _ _
   | exact LeO.none _
   | refine LeO.ite ?_ ?_
   | refine LeO.bind ?_ (fun _ => ?_)
  ·intro y0 y1 y2 y3 y4 y5 y6 y7 y8 y9 y10
   unfold tallboyref15_Check.j8
   repeat' first
   | (with_reducible exact ih0 _ _ _ _ _ _ _ _ _ _)
   | (with_reducible exact ih1 _ _ _ _ _ _ _ _ _ _ _)
   | (with_reducible exact ih2 _ _ _ _ _ _ _ _ _ _ _)
   | (with_reducible exact ih3 _ _ _ _ _ _ _ _ _ _)
   | (with_reducible exact ih4 _ _ _ _ _ _ _ _ _ _)
   | (with_reducible exact ih5 _ _ _ _ _ _ _ _ _ _ _)
   | (with_reducible exact ih6 _ _ _ _ _ _ _ _ _ _ _)
   | (with_reducible exact ih7 _ _ _ _ _ _ _ _ _ _ _)
   | (with_reducible exact ih8 _ _ _ _ _ _ _ _ _ _)
   | (with_reducible exact ih9 _ _ _ _ _ _ _ _ _ _)
   | (with_reducible exact ih10 _ _ _ _ _ _ _ _ _ _ _)
   | (with_reducible exact ih11 _ _ _ _ _ _ _ _ _ _)
   | (with_reducible exact ih12 _ _ _ _ _ _ _ _ _)
   | (with_reducible exact ih13 _ _ _ _ _ _ _ _ _ _ _ _)
   | (with_reducible exact tallboyref04_Key.mono _ _)
   | (with_reducible exact LeO.refl _)
   | (with_reducible exact LeO.none _)
   | (with_reducible refine LeO.ite ?_ ?_)
   | (with_reducible refine LeO.bind ?_ (fun _ => ?_))
   | exact ih0 _ _ _ _ _ _ _ _ _ _
   | exact ih1 _ _ _ _ _ _ _ _ _ _ _
   | exact ih2 _ _ _ _ _ _ _ _ _ _ _
   | exact ih3 _ _ _ _ _ _ _ _ _ _
   | exact ih4 _ _ _ _ _ _ _ _ _ _
   | exact ih5 _ _ _ _ _ _ _ _ _ _ _
   | exact ih6 _ _ _ _ _ _ _ _ _ _ _
   | exact ih7 _ _ _ _ _ _ _ _ _ _ _
   | exact ih8 _ _ _ _ _ _ _ _ _ _
   | exact ih9 _ _ _ _ _ _ _ _ _ _
   | exact ih10 _ _ _ _ _ _ _ _ _ _ _
   | exact ih11 _ _ _ _ _ _ _ _ _ _
   | exact ih12 _ _ _ _ _ _ _ _ _
   | exact ih13 _ _ _ _ _ _ _ _ _ _ _ _
   | exact tallboyref04_Key.mono _ _
   | exact LeO.none _
   | refine LeO.ite ?_ ?_
   | refine LeO.bind ?_ (fun _ => ?_)
  ·intro y0 y1 y2 y3 y4 y5 y6 y7 y8 y9
   unfold tallboyref15_Check.j9
   repeat' first
   | (with_reducible exact ih0 _ _ _ _ _ _ _ _ _ _)
   | (with_reducible exact ih1 _ _ _ _ _ _ _ _ _ _ _)
   | (with_reducible exact ih2 _ _ _ _ _ _ _ _ _ _ _)
   | (with_reducible exact ih3 _ _ _ _ _ _ _ _ _ _)
   | (with_reducible exact ih4 _ _ _ _ _ _ _ _ _ _)
   | (with_reducible exact ih5 _ _ _ _ _ _ _ _ _ _ _)
   | (with_reducible exact ih6 _ _ _ _ _ _ _ _ _ _ _)
   | (with_reducible exact ih7 _ _ _ _ _ _ _ _ _ _ _)
   | (with_reducible exact ih8 _ _ _ _ _ _ _ _ _ _)
   | (with_reducible exact ih9 _ _ _ _ _ _ _ _ _ _)
   | (with_reducible exact ih10 _ _ _ _ _ _ _ _ _ _ _)
   | (with_reducible exact ih11 _ _ _ _ _ _ _ _ _ _)
   | (with_reducible exact ih12 _ _ _ _ _ _ _ _ _)
   | (with_reducible exact ih13 _ _ _ _ _ _ _ _ _ _ _ _)
   | (with_reducible exact tallboyref04_Key.mono _ _)
   | (with_reducible exact LeO.refl _)
   | (with_reducible exact LeO.none _)
   | (with_reducible refine LeO.ite ?_ ?_)
   | (with_reducible refine LeO.bind ?_ (fun _ => ?_))
   | exact ih0 _ _ _ _ _ _ _ _ _ _
   | exact ih1 _ _ _ _ _ _ _ _ _ _ _
   | exact ih2 _ _ _ _ _ _ _ _ _ _ _
   | exact ih3 _ _ _ _ _ _ _ _ _ _
   | exact ih4 _ _ _ _ _ _ _ _ _ _
   | exact ih5 _ _ _ _ _ _ _ _ _ _ _
   | exact ih6 _ _ _ _ _ _ _ _ _ _ _
   | exact ih7 _ _ _ _ _ _ _ _ _ _ _
   | exact ih8 _ _ _ _ _ _ _ _ _ _
   | exact ih9 _ _ _ _ _ _ _ _ _ _
   | exact ih10 _ _ _ _ _ _ _ _ _ _ _
   | exact ih11 _ _ _ _ _ _ _ _ _ _
   | exact ih12 _ _ _ _ _ _ _ _ _
   | exact ih13 _ _ _ _ _ _ _ _ _ _ _ _
   | exact tallboyref04_Key.mono _ _
   | exact LeO.none _
   | refine LeO.ite ?_ ?_
   | refine LeO.bind ?_ (fun _ => ?_)
  ·intro y0 y1 y2 y3 y4 y5 y6 y7 y8 y9
   unfold tallboyref15_Check.j10
   repeat' first
   | (with_reducible exact ih0 _ _ _ _ _ _ _ _ _ _)
   | (with_reducible exact ih1 _ _ _ _ _ _ _ _ _ _ _)
   | (with_reducible exact ih2 _ _ _ _ _ _ _ _ _ _ _)
   | (with_reducible exact ih3 _ _ _ _ _ _ _ _ _ _)
   | (with_reducible exact ih4 _ _ _ _ _ _ _ _ _ _)
   | (with_reducible exact ih5 _ _ _ _ _ _ _ _ _ _ _)
   | (with_reducible exact ih6 _ _ _ _ _ _ _ _ _ _ _)
   | (with_reducible exact ih7 _ _ _ _ _ _ _ _ _ _ _)
   | (with_reducible exact ih8 _ _ _ _ _ _ _ _ _ _)
   | (with_reducible exact ih9 _ _ _ _ _ _ _ _ _ _)
   | (with_reducible exact ih10 _ _ _ _ _ _ _ _ _ _ _)
   | (with_reducible exact ih11 _ _ _ _ _ _ _ _ _ _)
   | (with_reducible exact ih12 _ _ _ _ _ _ _ _ _)
   | (with_reducible exact ih13 _ _ _ _ _ _ _ _ _ _ _ _)
   | (with_reducible exact tallboyref04_Key.mono _ _)
   | (with_reducible exact LeO.refl _)
   | (with_reducible exact LeO.none _)
   | (with_reducible refine LeO.ite ?_ ?_)
   | (with_reducible refine LeO.bind ?_ (fun _ => ?_))
   | exact ih0 _ _ _ _ _ _ _ _ _ _
   | exact ih1 _ _ _ _ _ _ _ _ _ _ _
   | exact ih2 _ _ _ _ _ _ _ _ _ _ _
   | exact ih3 _ _ _ _ _ _ _ _ _ _
   | exact ih4 _ _ _ _ _ _ _ _ _ _
   | exact ih5 _ _ _ _ _ _ _ _ _ _ _
   | exact ih6 _ _ _ _ _ _ _ _ _ _ _
   | exact ih7 _ _ _ _ _ _ _ _ _ _ _
   | exact ih8 _ _ _ _ _ _ _ _ _ _
   | exact ih9 _ _ _ _ _ _ _ _ _ _
   | exact ih10 _ _ _ _ _ _ _ _ _ _ _
   | exact ih11 _ _ _ _ _ _ _ _ _ _
   | exact ih12 _ _ _ _ _ _ _ _ _
   | exact ih13 _ _ _ _ _ _ _ _ _ _ _ _
   | exact tallboyref04_Key.mono _ _
   | exact LeO.none _
   | refine LeO.ite ?_ ?_
   | refine LeO.bind ?_ (fun _ => ?_)
  ·intro y0 y1 y2 y3 y4 y5 y6 y7 y8 y9 y10
   unfold tallboyref15_Check.j11
   repeat' first
   | (with_reducible exact ih0 _ _ _ _ _ _ _ _ _ _)
   | (with_reducible exact ih1 _ _ _ _ _ _ _ _ _ _ _)
   | (with_reducible exact ih2 _ _ _ _ _ _ _ _ _ _ _)
   | (with_reducible exact ih3 _ _ _ _ _ _ _ _ _ _)
   | (with_reducible exact ih4 _ _ _ _ _ _ _ _ _ _)
   | (with_reducible exact ih5 _ _ _ _ _ _ _ _ _ _ _)
   | (with_reducible exact ih6 _ _ _ _ _ _ _ _ _ _ _)
   | (with_reducible exact ih7 _ _ _ _ _ _ _ _ _ _ _)
   | (with_reducible exact ih8 _ _ _ _ _ _ _ _ _ _)
   | (with_reducible exact ih9 _ _ _ _ _ _ _ _ _ _)
   | (with_reducible exact ih10 _ _ _ _ _ _ _ _ _ _ _)
   | (with_reducible exact ih11 _ _ _ _ _ _ _ _ _ _)
   | (with_reducible exact ih12 _ _ _ _ _ _ _ _ _)
   | (with_reducible exact ih13 _ _ _ _ _ _ _ _ _ _ _ _)
   | (with_reducible exact tallboyref04_Key.mono _ _)
   | (with_reducible exact LeO.refl _)
   | (with_reducible exact LeO.none _)
   | (with_reducible refine LeO.ite ?_ ?_)
   | (with_reducible refine LeO.bind ?_ (fun _ => ?_))
   | exact ih0 _ _ _ _ _ _ _ _ _ _
   | exact ih1 _ _ _ _ _ _ _ _ _ _ _
   | exact ih2 _ _ _ _ _ _ _ _ _ _ _
   | exact ih3 _ _ _ _ _ _ _ _ _ _
   | exact ih4 _ _ _ _ _ _ _ _ _ _
   | exact ih5 _ _ _ _ _ _ _ _ _ _ _
   | exact ih6 _ _ _ _ _ _ _ _ _ _ _
   | exact ih7 _ _ _ _ _ _ _ _ _ _ _
   | exact ih8 _ _ _ _ _ _ _ _ _ _
   | exact ih9 _ _ _ _ _ _ _ _ _ _
   | exact ih10 _ _ _ _ _ _ _ _ _ _ _
   | exact ih11 _ _ _ _ _ _ _ _ _ _
   | exact ih12 _ _ _ _ _ _ _ _ _
   | exact ih13 _ _ _ _ _ _ _ _ _ _ _ _
   | exact tallboyref04_Key.mono _ _
   | exact LeO.none _
   | refine LeO.ite ?_ ?_
   | refine LeO.bind ?_ (fun _ => ?_)
  ·intro y0 y1 y2 y3 y4 y5 y6 y7 y8 y9
   unfold tallboyref15_Check.j12
   repeat' first
   | (with_reducible exact ih0 _ _ _ _ _ _ _ _ _ _)
   | (with_reducible exact ih1 _ _ _ _ _ _ _ _ _ _ _)
   | (with_reducible exact ih2 _ _ _ _ _ _ _ _ _ _ _)
   | (with_reducible exact ih3 _ _ _ _ _ _ _ _ _ _)
   | (with_reducible exact ih4 _ _ _ _ _ _ _ _ _ _)
   | (with_reducible exact ih5 _ _ _ _ _ _ _ _ _ _ _)
   | (with_reducible exact ih6 _ _ _ _ _ _ _ _ _ _ _)
   | (with_reducible exact ih7 _ _ _ _ _ _ _ _ _ _ _)
   | (with_reducible exact ih8 _ _ _ _ _ _ _ _ _ _)
   | (with_reducible exact ih9 _ _ _ _ _ _ _ _ _ _)
   | (with_reducible exact ih10 _ _ _ _ _ _ _ _ _ _ _)
   | (with_reducible exact ih11 _ _ _ _ _ _ _ _ _ _)
   | (with_reducible exact ih12 _ _ _ _ _ _ _ _ _)
   | (with_reducible exact ih13 _ _ _ _ _ _ _ _ _ _ _ _)
   | (with_reducible exact tallboyref04_Key.mono _ _)
   | (with_reducible exact LeO.refl _)
   | (with_reducible exact LeO.none _)
   | (with_reducible refine LeO.ite ?_ ?_)
   | (with_reducible refine LeO.bind ?_ (fun _ => ?_))
   | exact ih0 _ _ _ _ _ _ _ _ _ _
   | exact ih1 _ _ _ _ _ _ _ _ _ _ _
   | exact ih2 _ _ _ _ _ _ _ _ _ _ _
   | exact ih3 _ _ _ _ _ _ _ _ _ _
   | exact ih4 _ _ _ _ _ _ _ _ _ _
   | exact ih5 _ _ _ _ _ _ _ _ _ _ _
   | exact ih6 _ _ _ _ _ _ _ _ _ _ _
   | exact ih7 _ _ _ _ _ _ _ _ _ _ _
   | exact ih8 _ _ _ _ _ _ _ _ _ _
   | exact ih9 _ _ _ _ _ _ _ _ _ _
   | exact ih10 _ _ _ _ _ _ _ _ _ _ _
   | exact ih11 _ _ _ _ _ _ _ _ _ _
   | exact ih12 _ _ _ _ _ _ _ _ _
   | exact ih13 _ _ _ _ _ _ _ _ _ _ _ _
   | exact tallboyref04_Key.mono _ _
   | exact LeO.none _
   | refine LeO.ite ?_ ?_
   | refine LeO.bind ?_ (fun _ => ?_)
  ·intro y0 y1 y2 y3 y4 y5 y6 y7 y8
   unfold tallboyref15_Check.j13
   repeat' first
   | (with_reducible exact ih0 _ _ _ _ _ _ _ _ _ _)
   | (with_reducible exact ih1 _ _ _ _ _ _ _ _ _ _ _)
   | (with_reducible exact ih2 _ _ _ _ _ _ _ _ _ _ _)
   | (with_reducible exact ih3 _ _ _ _ _ _ _ _ _ _)
   | (with_reducible exact ih4 _ _ _ _ _ _ _ _ _ _)
   | (with_reducible exact ih5 _ _ _ _ _ _ _ _ _ _ _)
   | (with_reducible exact ih6 _ _ _ _ _ _ _ _ _ _ _)
   | (with_reducible exact ih7 _ _ _ _ _ _ _ _ _ _ _)
   | (with_reducible exact ih8 _ _ _ _ _ _ _ _ _ _)
   | (with_reducible exact ih9 _ _ _ _ _ _ _ _ _ _)
   | (with_reducible exact ih10 _ _ _ _ _ _ _ _ _ _ _)
   | (with_reducible exact ih11 _ _ _ _ _ _ _ _ _ _)
   | (with_reducible exact ih12 _ _ _ _ _ _ _ _ _)
   | (with_reducible exact ih13 _ _ _ _ _ _ _ _ _ _ _ _)
   | (with_reducible exact tallboyref04_Key.mono _ _)
   | (with_reducible exact LeO.refl _)
   | (with_reducible exact LeO.none _)
   | (with_reducible refine LeO.ite ?_ ?_)
   | (with_reducible refine LeO.bind ?_ (fun _ => ?_))
   | exact ih0 _ _ _ _ _ _ _ _ _ _
   | exact ih1 _ _ _ _ _ _ _ _ _ _ _
   | exact ih2 _ _ _ _ _ _ _ _ _ _ _
   | exact ih3 _ _ _ _ _ _ _ _ _ _
   | exact ih4 _ _ _ _ _ _ _ _ _ _
   | exact ih5 _ _ _ _ _ _ _ _ _ _ _
   | exact ih6 _ _ _ _ _ _ _ _ _ _ _
   | exact ih7 _ _ _ _ _ _ _ _ _ _ _
   | exact ih8 _ _ _ _ _ _ _ _ _ _
   | exact ih9 _ _ _ _ _ _ _ _ _ _
   | exact ih10 _ _ _ _ _ _ _ _ _ _ _
   | exact ih11 _ _ _ _ _ _ _ _ _ _
   | exact ih12 _ _ _ _ _ _ _ _ _
   | exact ih13 _ _ _ _ _ _ _ _ _ _ _ _
   | exact tallboyref04_Key.mono _ _
   | exact LeO.none _
   | refine LeO.ite ?_ ?_
   | refine LeO.bind ?_ (fun _ => ?_)
  ·intro y0 y1 y2 y3 y4 y5 y6 y7 y8 y9 y10 y11
   unfold tallboyref15_Check.l0
   repeat' first
   | (with_reducible exact ih0 _ _ _ _ _ _ _ _ _ _)
   | (with_reducible exact ih1 _ _ _ _ _ _ _ _ _ _ _)
   | (with_reducible exact ih2 _ _ _ _ _ _ _ _ _ _ _)
   | (with_reducible exact ih3 _ _ _ _ _ _ _ _ _ _)
   | (with_reducible exact ih4 _ _ _ _ _ _ _ _ _ _)
   | (with_reducible exact ih5 _ _ _ _ _ _ _ _ _ _ _)
   | (with_reducible exact ih6 _ _ _ _ _ _ _ _ _ _ _)
   | (with_reducible exact ih7 _ _ _ _ _ _ _ _ _ _ _)
   | (with_reducible exact ih8 _ _ _ _ _ _ _ _ _ _)
   | (with_reducible exact ih9 _ _ _ _ _ _ _ _ _ _)
   | (with_reducible exact ih10 _ _ _ _ _ _ _ _ _ _ _)
   | (with_reducible exact ih11 _ _ _ _ _ _ _ _ _ _)
   | (with_reducible exact ih12 _ _ _ _ _ _ _ _ _)
   | (with_reducible exact ih13 _ _ _ _ _ _ _ _ _ _ _ _)
   | (with_reducible exact tallboyref04_Key.mono _ _)
   | (with_reducible exact LeO.refl _)
   | (with_reducible exact LeO.none _)
   | (with_reducible refine LeO.ite ?_ ?_)
   | (with_reducible refine LeO.bind ?_ (fun _ => ?_))
   | exact ih0 _ _ _ _ _ _ _ _ _ _
   | exact ih1 _ _ _ _ _ _ _ _ _ _ _
   | exact ih2 _ _ _ _ _ _ _ _ _ _ _
   | exact ih3 _ _ _ _ _ _ _ _ _ _
   | exact ih4 _ _ _ _ _ _ _ _ _ _
   | exact ih5 _ _ _ _ _ _ _ _ _ _ _
   | exact ih6 _ _ _ _ _ _ _ _ _ _ _
   | exact ih7 _ _ _ _ _ _ _ _ _ _ _
   | exact ih8 _ _ _ _ _ _ _ _ _ _
   | exact ih9 _ _ _ _ _ _ _ _ _ _
   | exact ih10 _ _ _ _ _ _ _ _ _ _ _
   | exact ih11 _ _ _ _ _ _ _ _ _ _
   | exact ih12 _ _ _ _ _ _ _ _ _
   | exact ih13 _ _ _ _ _ _ _ _ _ _ _ _
   | exact tallboyref04_Key.mono _ _
   | exact LeO.none _
   | refine LeO.ite ?_ ?_
   | refine LeO.bind ?_ (fun _ => ?_)
theorem tallboyref15_Check.mono : ∀ a0 a1 a2 a3 a4 a5 a6 a7 k, LeO (tallboyref15_Check.f k a0 a1 a2 a3 a4 a5 a6 a7) (tallboyref15_Check.f (k + 1) a0 a1 a2 a3 a4 a5 a6 a7) := by
 intro a0 a1 a2 a3 a4 a5 a6 a7 k
 obtain ⟨ih0, ih1, ih2, ih3, ih4, ih5, ih6, ih7, ih8, ih9, ih10, ih11, ih12, ih13⟩ := tallboyref15_Check.mono_l k
 unfold tallboyref15_Check.f
 repeat' first
   | (with_reducible exact ih0 _ _ _ _ _ _ _ _ _ _)
   | (with_reducible exact ih1 _ _ _ _ _ _ _ _ _ _ _)
   | (with_reducible exact ih2 _ _ _ _ _ _ _ _ _ _ _)
   | (with_reducible exact ih3 _ _ _ _ _ _ _ _ _ _)
   | (with_reducible exact ih4 _ _ _ _ _ _ _ _ _ _)
   | (with_reducible exact ih5 _ _ _ _ _ _ _ _ _ _ _)
   | (with_reducible exact ih6 _ _ _ _ _ _ _ _ _ _ _)
   | (with_reducible exact ih7 _ _ _ _ _ _ _ _ _ _ _)
   | (with_reducible exact ih8 _ _ _ _ _ _ _ _ _ _)
   | (with_reducible exact ih9 _ _ _ _ _ _ _ _ _ _)
   | (with_reducible exact ih10 _ _ _ _ _ _ _ _ _ _ _)
   | (with_reducible exact ih11 _ _ _ _ _ _ _ _ _ _)
   | (with_reducible exact ih12 _ _ _ _ _ _ _ _ _)
   | (with_reducible exact ih13 _ _ _ _ _ _ _ _ _ _ _ _)
   | (with_reducible exact tallboyref04_Key.mono _ _)
   | (with_reducible exact LeO.refl _)
   | (with_reducible exact LeO.none _)
   | (with_reducible refine LeO.ite ?_ ?_)
   | (with_reducible refine LeO.bind ?_ (fun _ => ?_))
   | exact ih0 _ _ _ _ _ _ _ _ _ _
   | exact ih1 _ _ _ _ _ _ _ _ _ _ _
   | exact ih2 _ _ _ _ _ _ _ _ _ _ _
   | exact ih3 _ _ _ _ _ _ _ _ _ _
   | exact ih4 _ _ _ _ _ _ _ _ _ _
   | exact ih5 _ _ _ _ _ _ _ _ _ _ _
   | exact ih6 _ _ _ _ _ _ _ _ _ _ _
   | exact ih7 _ _ _ _ _ _ _ _ _ _ _
   | exact ih8 _ _ _ _ _ _ _ _ _ _
   | exact ih9 _ _ _ _ _ _ _ _ _ _
   | exact ih10 _ _ _ _ _ _ _ _ _ _ _
   | exact ih11 _ _ _ _ _ _ _ _ _ _
   | exact ih12 _ _ _ _ _ _ _ _ _
   | exact ih13 _ _ _ _ _ _ _ _ _ _ _ _
   | exact tallboyref04_Key.mono _ _
   | exact LeO.none _
   | refine LeO.ite ?_ ?_
   | refine LeO.bind ?_ (fun _ => ?_)
set_option maxHeartbeats 8000000 in
set_option maxRecDepth 100000 in
theorem tallboyref15_Check.calls (k : Nat) (a0_0 : Int) (A0_1 : Option Addr) (c0_1 : Nat) (l0_1 : List ByteArray) (a0_2 : Int) (a0_3 : Int) (a0_4 : ByteArray) (a0_5 : Int) (a0_6 : Int) (a0_7 : Bool) (r : Int) (w : World) (hr0_1 : Kd.C Kd.string w A0_1 l0_1.length l0_1) (hc0_1 : l0_1.length ≤ c0_1) (h : tallboyref15_Check.f k a0_0 l0_1 a0_2 a0_3 a0_4 a0_5 a0_6 a0_7 = some r) :
  Calls Try.prog 19 #[.agg #[.int .i64 a0_0, .slice A0_1 l0_1.length c0_1, .int .u32 a0_2, .int .i64 a0_3, .string a0_4, .int .u64 a0_5, .int .u64 a0_6, .bool a0_7]] w fun e w' => e = .returned (.int .i64 r) ∧ Below w.heap.size w w' := by
 have hu30 := Try.underlying30
 have HR0_1 := Aside0.mk hr0_1
 have HC0_1 := Aside0.mk hc0_1
 clear hr0_1 hc0_1
 have HB := Aside0.mk (Below.refl w.heap.size w)
 have H : (if a0_0 < 1 then (tallboyref15_Check.j0 k a0_0 true a0_0 l0_1 a0_2 a0_3 a0_4 a0_5 a0_6 a0_7) else (tallboyref15_Check.j0 k a0_0 (decide (a0_0 > 15)) a0_0 l0_1 a0_2 a0_3 a0_4 a0_5 a0_6 a0_7)) = some r := h
 clear h
 have HC2 := Aside0.mk H
 clear H
 go_enter Try.func19, Try.ntmps19
 go_upto_region 2 with (first | ((with_reducible refine gate_dst (N := 1) rfl ?_); refine box_event ?hg (N := 1) ?hd (cs := #[.int .i64 a0_0, .slice A0_1 l0_1.length c0_1, .int .u32 a0_2, .int .i64 a0_3, .string a0_4, .int .u64 a0_5, .int .u64 a0_6, .bool a0_7]) (t := 30) ?hr ?_; (case hd => rfl); (case hg => rfl); (case hr => first | (go_simp; done) | (go_simp; rfl)); intro gb136 hg w3 hbox hb; have n0_ := Aside0.mk (below_step (by repeat (first | (with_reducible first | exact HB.out | apply below_alloc | apply pw_below_drewN | apply below_drew1) | exact HB.out)) hb); have n1_ := Aside0.mk (hbox); have n2_ := Aside0.mk ((by rw [hg]; exact (below_size (by repeat (first | (with_reducible first | exact HB.out | apply below_alloc | apply pw_below_drewN | apply below_drew1) | exact HB.out))) : w.heap.size ≤ gb136)); have n3_ := Aside0.mk ((by rw [hg]; exact (below_size (by repeat (first | (with_reducible first | exact HB.out | apply below_alloc | apply pw_below_drewN | apply below_drew1) | exact HB.out))) : w.heap.size ≤ gb136)); clear HB; have HB := n0_; have BK136 := n1_; have GW136 := n2_; have GE136 := n3_; clear n0_ n1_ n2_ n3_; clear hb hbox hg; have hcz4_0 : w3.cell? ⟨gb136, 0, none⟩ = some (.int .i64 a0_0) := (blk_cell BK136.out 0).trans rfl; have hcz4_1 : w3.cell? ⟨gb136, 1, none⟩ = some (.slice A0_1 l0_1.length c0_1) := (blk_cell BK136.out 1).trans rfl; have hcz4_2 : w3.cell? ⟨gb136, 2, none⟩ = some (.int .u32 a0_2) := (blk_cell BK136.out 2).trans rfl; have hcz4_3 : w3.cell? ⟨gb136, 3, none⟩ = some (.int .i64 a0_3) := (blk_cell BK136.out 3).trans rfl; have hcz4_4 : w3.cell? ⟨gb136, 4, none⟩ = some (.string a0_4) := (blk_cell BK136.out 4).trans rfl; have hcz4_5 : w3.cell? ⟨gb136, 5, none⟩ = some (.int .u64 a0_5) := (blk_cell BK136.out 5).trans rfl; have hcz4_6 : w3.cell? ⟨gb136, 6, none⟩ = some (.int .u64 a0_6) := (blk_cell BK136.out 6).trans rfl; have hcz4_7 : w3.cell? ⟨gb136, 7, none⟩ = some (.bool a0_7) := (blk_cell BK136.out 7).trans rfl; have hfz4_0 := blk_frozen BK136.out 0; have hfz4_1 := blk_frozen BK136.out 1; have hfz4_2 := blk_frozen BK136.out 2; have hfz4_3 := blk_frozen BK136.out 3; have hfz4_4 := blk_frozen BK136.out 4; have hfz4_5 := blk_frozen BK136.out 5; have hfz4_6 := blk_frozen BK136.out 6; have hfz4_7 := blk_frozen BK136.out 7))
 (try simp only [Act.put, List.setIfInBounds_toArray, List.set_cons_zero, List.set_cons_succ])
 go_cut [16] (fun v16 wc => ∃ (kq : Nat) (x16_1 : Bool), v16 = .bool x16_1 ∧ Aside0 (tallboyref15_Check.j0 kq a0_0 x16_1 a0_0 l0_1 a0_2 a0_3 a0_4 a0_5 a0_6 a0_7 = some r) ∧ Aside0 (kq ≤ k) ∧ Aside0 (wc.heap[gb136]? = some (.cells #[.int .i64 a0_0, (.slice A0_1 l0_1.length c0_1), .int .u32 a0_2, .int .i64 a0_3, .string a0_4, .int .u64 a0_5, .int .u64 a0_6, .bool a0_7] 30 (0, 0))) ∧ Aside0 (Below w.heap.size w wc))
 case first =>
  have H := HC2.out
  clear HC2
  by_cases c5 : a0_0 < 1
  ·rw [if_pos c5] at H
   have c5b0 : decide (a0_0 < 1) = true := decide_eq_true c5
   clear c5
   (first | rw [c5b0] | (simp only [i64_w, i32_w]; rw [c5b0]) | skip)
   have H' := Aside0.mk H
   clear H
   go_wp2
   go_meet
   case rel => exact ⟨_, (true), (by first | rfl | (simp; done) | (simp [*]; done)), H', ⟨by first | omega | exact Nat.le_refl _⟩, ⟨by (with_reducible repeat (first | refine blk_drewN ?_ _ | refine blk_drew ?_ | refine blk_alloc ?_ _)); exact BK136.out⟩, ⟨by repeat (first | (with_reducible first | exact HB.out | apply below_alloc | apply pw_below_drewN | apply below_drew1 | refine below_set ?_ GE136.out) | exact HB.out)⟩⟩
  ·rw [if_neg c5] at H
   have c5b0 : decide (a0_0 < 1) = false := decide_eq_false c5
   clear c5
   (first | rw [c5b0] | (simp only [i64_w, i32_w]; rw [c5b0]) | skip)
   have H' := Aside0.mk H
   clear H
   go_wp2
   go_meet
   case rel => exact ⟨_, (decide (a0_0 > 15)), (by first | rfl | (simp; done) | (simp [*]; done)), H', ⟨by first | omega | exact Nat.le_refl _⟩, ⟨by (with_reducible repeat (first | refine blk_drewN ?_ _ | refine blk_drew ?_ | refine blk_alloc ?_ _)); exact BK136.out⟩, ⟨by repeat (first | (with_reducible first | exact HB.out | apply below_alloc | apply pw_below_drewN | apply below_drew1 | refine below_set ?_ GE136.out) | exact HB.out)⟩⟩
 case rest =>
  clear HC2
  try clear c1
  try clear p2
  try clear c5
  try clear c5b0
  try clear hcz4_0
  try clear hcz4_1
  try clear hcz4_2
  try clear hcz4_3
  try clear hcz4_4
  try clear hcz4_5
  try clear hcz4_6
  try clear hcz4_7
  try clear hfz4_0
  try clear hfz4_1
  try clear hfz4_2
  try clear hfz4_3
  try clear hfz4_4
  try clear hfz4_5
  try clear hfz4_6
  try clear hfz4_7
  obtain ⟨kq, x16_1, rfl, HA, HJ1, BK136, HB⟩ := hcut
  cases kq with
  | zero => exact absurd HA.out (by simp [tallboyref15_Check.j0])
  | succ kj1 =>
   have H := HA.out
   clear HA
   simp only [tallboyref15_Check.j0] at H
   by_cases c6 : x16_1 = true
   ·subst c6
    have H1 : (some 70) = some r := by rw [if_pos rfl] at H; exact H
    clear H
    have H := H1
    clear H1
    obtain rfl := Option.some.inj H
    go_wp2
    go_ret
    exact ⟨by first | rfl | (simp [errW_none, errW_some] <;> rfl) | (simp [*, errW_none, errW_some] <;> rfl), by repeat (first | (with_reducible first | exact HB.out | apply below_alloc | apply pw_below_drewN | apply below_drew1 | refine below_set ?_ GE136.out) | exact HB.out)⟩
   ·replace c6 := Bool.eq_false_iff.mpr c6
    subst c6
    have H1 : ((tallboyref15_Reads.f a0_0).bind fun t137 => (if t137 = true then (if (l0_1.length : Int) ≥ 1 then (tallboyref15_Check.j1 kj1 a0_0 (l0_1.length : Int) (decide ((l0_1.length : Int) ≤ 8)) a0_0 l0_1 a0_2 a0_3 a0_4 a0_5 a0_6 a0_7) else (tallboyref15_Check.j1 kj1 a0_0 (l0_1.length : Int) false a0_0 l0_1 a0_2 a0_3 a0_4 a0_5 a0_6 a0_7)) else (tallboyref15_Check.j1 kj1 a0_0 (l0_1.length : Int) ((l0_1.length : Int) == 1) a0_0 l0_1 a0_2 a0_3 a0_4 a0_5 a0_6 a0_7))) = some r := by rw [if_neg (show ¬ (false = true) by decide)] at H; exact H
    clear H
    have H := H1
    clear H1
    replace H := Option.bind_eq_some_iff.mp H
    obtain ⟨t137, A70, H⟩ := H
    replace H : (if t137 = true then (if (l0_1.length : Int) ≥ 1 then (tallboyref15_Check.j1 kj1 a0_0 (l0_1.length : Int) (decide ((l0_1.length : Int) ≤ 8)) a0_0 l0_1 a0_2 a0_3 a0_4 a0_5 a0_6 a0_7) else (tallboyref15_Check.j1 kj1 a0_0 (l0_1.length : Int) false a0_0 l0_1 a0_2 a0_3 a0_4 a0_5 a0_6 a0_7)) else (tallboyref15_Check.j1 kj1 a0_0 (l0_1.length : Int) ((l0_1.length : Int) == 1) a0_0 l0_1 a0_2 a0_3 a0_4 a0_5 a0_6 a0_7)) = some r := H
    have A7 := Aside0.mk A70
    clear A70
    have HC8 := Aside0.mk H
    clear H
    have hcz9_0 : wc.cell? ⟨gb136, 0, none⟩ = some (.int .i64 a0_0) := (blk_cell BK136.out 0).trans rfl
    have hcz9_1 : wc.cell? ⟨gb136, 1, none⟩ = some (.slice A0_1 l0_1.length c0_1) := (blk_cell BK136.out 1).trans rfl
    have hcz9_2 : wc.cell? ⟨gb136, 2, none⟩ = some (.int .u32 a0_2) := (blk_cell BK136.out 2).trans rfl
    have hcz9_3 : wc.cell? ⟨gb136, 3, none⟩ = some (.int .i64 a0_3) := (blk_cell BK136.out 3).trans rfl
    have hcz9_4 : wc.cell? ⟨gb136, 4, none⟩ = some (.string a0_4) := (blk_cell BK136.out 4).trans rfl
    have hcz9_5 : wc.cell? ⟨gb136, 5, none⟩ = some (.int .u64 a0_5) := (blk_cell BK136.out 5).trans rfl
    have hcz9_6 : wc.cell? ⟨gb136, 6, none⟩ = some (.int .u64 a0_6) := (blk_cell BK136.out 6).trans rfl
    have hcz9_7 : wc.cell? ⟨gb136, 7, none⟩ = some (.bool a0_7) := (blk_cell BK136.out 7).trans rfl
    have hfz9_0 := blk_frozen BK136.out 0
    have hfz9_1 := blk_frozen BK136.out 1
    have hfz9_2 := blk_frozen BK136.out 2
    have hfz9_3 := blk_frozen BK136.out 3
    have hfz9_4 := blk_frozen BK136.out 4
    have hfz9_5 := blk_frozen BK136.out 5
    have hfz9_6 := blk_frozen BK136.out 6
    have hfz9_7 := blk_frozen BK136.out 7
    go_upto_if 23 with (first | ((with_reducible refine gate_callee (f := 24) rfl ?_); refine goesL_ (some 23) rfl rfl Try.func24 (by kernel_rfl) rfl #[.int .i64 a0_0] rfl (by (try simp only [List.map_toArray, List.map_cons, List.map_nil]); first | done | rfl | (simp only [List.length_drop, List.length_take]; rfl)) ?_; (with_reducible refine (tallboyref15_Reads.calls a0_0 t137 _ A7.out).mono ?_); rintro e w' ⟨rfl, ⟨nd, rfl⟩⟩; refine ⟨_, rfl, ?_⟩))
    (try simp only [Act.put, List.setIfInBounds_toArray, List.set_cons_zero, List.set_cons_succ])
    go_cut [5] (fun v5 wc => ∃ (kq : Nat) (x5_7 : Bool), v5 = .bool x5_7 ∧ Aside0 (tallboyref15_Check.j1 kq a0_0 (l0_1.length : Int) x5_7 a0_0 l0_1 a0_2 a0_3 a0_4 a0_5 a0_6 a0_7 = some r) ∧ Aside0 (kq ≤ kj1) ∧ Aside0 (wc.heap[gb136]? = some (.cells #[.int .i64 a0_0, (.slice A0_1 l0_1.length c0_1), .int .u32 a0_2, .int .i64 a0_3, .string a0_4, .int .u64 a0_5, .int .u64 a0_6, .bool a0_7] 30 (0, 0))) ∧ Aside0 (Below w.heap.size w wc))
    case first =>
     have H := HC8.out
     clear HC8
     by_cases c10 : t137 = true
     ·subst c10
      have H1 : (if (l0_1.length : Int) ≥ 1 then (tallboyref15_Check.j1 kj1 a0_0 (l0_1.length : Int) (decide ((l0_1.length : Int) ≤ 8)) a0_0 l0_1 a0_2 a0_3 a0_4 a0_5 a0_6 a0_7) else (tallboyref15_Check.j1 kj1 a0_0 (l0_1.length : Int) false a0_0 l0_1 a0_2 a0_3 a0_4 a0_5 a0_6 a0_7)) = some r := by rw [if_pos rfl] at H; exact H
      clear H
      have H := H1
      clear H1
      by_cases c11 : (l0_1.length : Int) ≥ 1
      ·rw [if_pos c11] at H
       have c11b0 : decide (1 ≤ (l0_1.length : Int)) = true := decide_eq_true c11
       have c11b1 : decide (1 ≤ l0_1.length) = true := decide_eq_true (by omega)
       clear c11
       (first | rw [c11b0] | (simp only [i64_w, i32_w]; rw [c11b0]) | skip)
       have H' := Aside0.mk H
       clear H
       go_wp2
       go_meet
       case rel => exact ⟨_, (decide ((l0_1.length : Int) ≤ 8)), (by first | rfl | (simp; done) | (simp [*]; done)), H', ⟨by have := HJ1.out; first | omega | exact Nat.le_refl _⟩, ⟨by (with_reducible repeat (first | refine blk_drewN ?_ _ | refine blk_drew ?_ | refine blk_alloc ?_ _)); exact BK136.out⟩, ⟨by repeat (first | (with_reducible first | exact HB.out | apply below_alloc | apply pw_below_drewN | apply below_drew1 | refine below_set ?_ GE136.out) | exact HB.out)⟩⟩
      ·rw [if_neg c11] at H
       have c11b0 : decide (1 ≤ (l0_1.length : Int)) = false := decide_eq_false c11
       have c11b1 : decide (1 ≤ l0_1.length) = false := decide_eq_false (by omega)
       clear c11
       (first | rw [c11b0] | (simp only [i64_w, i32_w]; rw [c11b0]) | skip)
       have H' := Aside0.mk H
       clear H
       go_wp2
       go_meet
       case rel => exact ⟨_, (false), (by first | rfl | (simp; done) | (simp [*]; done)), H', ⟨by have := HJ1.out; first | omega | exact Nat.le_refl _⟩, ⟨by (with_reducible repeat (first | refine blk_drewN ?_ _ | refine blk_drew ?_ | refine blk_alloc ?_ _)); exact BK136.out⟩, ⟨by repeat (first | (with_reducible first | exact HB.out | apply below_alloc | apply pw_below_drewN | apply below_drew1 | refine below_set ?_ GE136.out) | exact HB.out)⟩⟩
     ·replace c10 := Bool.eq_false_iff.mpr c10
      subst c10
      have H1 : (tallboyref15_Check.j1 kj1 a0_0 (l0_1.length : Int) ((l0_1.length : Int) == 1) a0_0 l0_1 a0_2 a0_3 a0_4 a0_5 a0_6 a0_7) = some r := by rw [if_neg (show ¬ (false = true) by decide)] at H; exact H
      clear H
      have H := H1
      clear H1
      have H' := Aside0.mk H
      clear H
      go_wp2
      go_meet
      case rel => exact ⟨_, (((l0_1.length : Int) == 1)), (by first | rfl | (simp; done) | (simp [*]; done)), H', ⟨by have := HJ1.out; first | omega | exact Nat.le_refl _⟩, ⟨by (with_reducible repeat (first | refine blk_drewN ?_ _ | refine blk_drew ?_ | refine blk_alloc ?_ _)); exact BK136.out⟩, ⟨by repeat (first | (with_reducible first | exact HB.out | apply below_alloc | apply pw_below_drewN | apply below_drew1 | refine below_set ?_ GE136.out) | exact HB.out)⟩⟩
    case rest =>
     clear HC8
     try clear c1
     try clear c2
     try clear p2
     try clear c5
     try clear c5b0
     try clear c6
     try clear c10
     try clear c11
     try clear c11b0
     try clear c11b1
     try clear hcz4_0
     try clear hcz4_1
     try clear hcz4_2
     try clear hcz4_3
     try clear hcz4_4
     try clear hcz4_5
     try clear hcz4_6
     try clear hcz4_7
     try clear hcz9_0
     try clear hcz9_1
     try clear hcz9_2
     try clear hcz9_3
     try clear hcz9_4
     try clear hcz9_5
     try clear hcz9_6
     try clear hcz9_7
     try clear hfz4_0
     try clear hfz4_1
     try clear hfz4_2
     try clear hfz4_3
     try clear hfz4_4
     try clear hfz4_5
     try clear hfz4_6
     try clear hfz4_7
     try clear hfz9_0
     try clear hfz9_1
     try clear hfz9_2
     try clear hfz9_3
     try clear hfz9_4
     try clear hfz9_5
     try clear hfz9_6
     try clear hfz9_7
     try clear p2
     obtain ⟨kq, x5_7, rfl, HA, HJ7, BK136, HB⟩ := hcut
     cases kq with
     | zero => exact absurd HA.out (by simp [tallboyref15_Check.j1])
     | succ kj7 =>
      have H := HA.out
      clear HA
      simp only [tallboyref15_Check.j1] at H
      have HC12 := Aside0.mk H
      clear H
      go_upto_if 31 with (fail)
      go_cut [5] (fun v5 wc => ∃ (kq : Nat) (x5_11 : Bool), v5 = .bool x5_11 ∧ Aside0 (tallboyref15_Check.j2 kq a0_0 (l0_1.length : Int) x5_11 a0_0 l0_1 a0_2 a0_3 a0_4 a0_5 a0_6 a0_7 = some r) ∧ Aside0 (kq ≤ kj7) ∧ Aside0 (wc.heap[gb136]? = some (.cells #[.int .i64 a0_0, (.slice A0_1 l0_1.length c0_1), .int .u32 a0_2, .int .i64 a0_3, .string a0_4, .int .u64 a0_5, .int .u64 a0_6, .bool a0_7] 30 (0, 0))) ∧ Aside0 (Below w.heap.size w wc))
      case first =>
       have H := HC12.out
       clear HC12
       by_cases c13 : a0_0 = 15
       ·rw [if_pos c13] at H
        have c13b0 : (a0_0 == 15) = true := beq_iff_eq.mpr c13
        have c13b1 : (a0_0 != 15) = false := bne_eq_false_iff_eq.mpr c13
        clear c13
        (first | rw [c13b0] | (simp only [i64_w, i32_w]; rw [c13b0]) | skip)
        have H' := Aside0.mk H
        clear H
        go_wp2
        go_meet
        case rel => exact ⟨_, (((l0_1.length : Int) == 0)), (by first | rfl | (simp; done) | (simp [*]; done)), H', ⟨by have := HJ1.out; have := HJ7.out; first | omega | exact Nat.le_refl _⟩, ⟨by (with_reducible repeat (first | refine blk_drewN ?_ _ | refine blk_drew ?_ | refine blk_alloc ?_ _)); exact BK136.out⟩, ⟨by repeat (first | (with_reducible first | exact HB.out | apply below_alloc | apply pw_below_drewN | apply below_drew1 | refine below_set ?_ GE136.out) | exact HB.out)⟩⟩
       ·rw [if_neg c13] at H
        have c13b0 : (a0_0 == 15) = false := beq_eq_false_iff_ne.mpr c13
        have c13b1 : (a0_0 != 15) = true := bne_iff_ne.mpr c13
        (first | rw [c13b0] | (simp only [i64_w, i32_w]; rw [c13b0]) | skip)
        have H' := Aside0.mk H
        clear H
        go_wp2
        go_meet
        case rel => exact ⟨_, (x5_7), (by first | rfl | (simp; done) | (simp [*]; done)), H', ⟨by have := HJ1.out; have := HJ7.out; first | omega | exact Nat.le_refl _⟩, ⟨by (with_reducible repeat (first | refine blk_drewN ?_ _ | refine blk_drew ?_ | refine blk_alloc ?_ _)); exact BK136.out⟩, ⟨by repeat (first | (with_reducible first | exact HB.out | apply below_alloc | apply pw_below_drewN | apply below_drew1 | refine below_set ?_ GE136.out) | exact HB.out)⟩⟩
      case rest =>
       clear HC12
       try clear c1
       try clear c2
       try clear p2
       try clear c5
       try clear c5b0
       try clear c6
       try clear c10
       try clear c11
       try clear c11b0
       try clear c11b1
       try clear c13
       try clear c13b0
       try clear c13b1
       try clear hcz4_0
       try clear hcz4_1
       try clear hcz4_2
       try clear hcz4_3
       try clear hcz4_4
       try clear hcz4_5
       try clear hcz4_6
       try clear hcz4_7
       try clear hcz9_0
       try clear hcz9_1
       try clear hcz9_2
       try clear hcz9_3
       try clear hcz9_4
       try clear hcz9_5
       try clear hcz9_6
       try clear hcz9_7
       try clear hfz4_0
       try clear hfz4_1
       try clear hfz4_2
       try clear hfz4_3
       try clear hfz4_4
       try clear hfz4_5
       try clear hfz4_6
       try clear hfz4_7
       try clear hfz9_0
       try clear hfz9_1
       try clear hfz9_2
       try clear hfz9_3
       try clear hfz9_4
       try clear hfz9_5
       try clear hfz9_6
       try clear hfz9_7
       try clear p2
       obtain ⟨kq, x5_11, rfl, HA, HJ11, BK136, HB⟩ := hcut
       cases kq with
       | zero => exact absurd HA.out (by simp [tallboyref15_Check.j2])
       | succ kj11 =>
        have H := HA.out
        clear HA
        simp only [tallboyref15_Check.j2] at H
        have HC14 := Aside0.mk H
        clear H
        go_upto_block 0 with (fail)
        go_cut [5] (fun v5 wc => ∃ (kq : Nat) (x5_13 : Bool), v5 = .bool x5_13 ∧ Aside0 (tallboyref15_Check.j4 kq a0_0 x5_13 a0_0 l0_1 a0_2 a0_3 a0_4 a0_5 a0_6 a0_7 = some r) ∧ Aside0 (kq ≤ kj11) ∧ Aside0 (wc.heap[gb136]? = some (.cells #[.int .i64 a0_0, (.slice A0_1 l0_1.length c0_1), .int .u32 a0_2, .int .i64 a0_3, .string a0_4, .int .u64 a0_5, .int .u64 a0_6, .bool a0_7] 30 (0, 0))) ∧ Aside0 (Below w.heap.size w wc))
        case first =>
         have H := HC14.out
         clear HC14
         have H' := Aside0.mk H
         clear H
         go_wp2
         go_loopg [5, 6] kj11 (fun kq v5 v6 w' => ∃ (x5_4 : Bool) (x6_4 : Int), v5 = .bool x5_4 ∧ v6 = .int .i64 x6_4 ∧ Aside0 (tallboyref15_Check.l0 kq a0_0 (l0_1.length : Int) x5_4 x6_4 a0_0 l0_1 a0_2 a0_3 a0_4 a0_5 a0_6 a0_7 = some r) ∧ Aside0 (kq ≤ kj11) ∧ Aside0 (w'.heap[gb136]? = some (.cells #[.int .i64 a0_0, (.slice A0_1 l0_1.length c0_1), .int .u32 a0_2, .int .i64 a0_3, .string a0_4, .int .u64 a0_5, .int .u64 a0_6, .bool a0_7] 30 (0, 0))) ∧ Aside0 (Below w.heap.size w w'))
         case atStart => exact ⟨(x5_11), (0), (by first | rfl | (simp; done) | (simp [*]; done)), (by first | rfl | (simp; done) | (simp [*]; done)), H', ⟨Nat.le_refl _⟩, ⟨by (with_reducible repeat (first | refine blk_drewN ?_ _ | refine blk_drew ?_ | refine blk_alloc ?_ _)); exact BK136.out⟩, ⟨by repeat (first | (with_reducible first | exact HB.out | apply below_alloc | apply pw_below_drewN | apply below_drew1 | refine below_set ?_ GE136.out) | exact HB.out)⟩⟩
         case round =>
          clear H'
          try clear c1
          try clear c2
          try clear p2
          try clear c5
          try clear c5b0
          try clear c6
          try clear c10
          try clear c11
          try clear c11b0
          try clear c11b1
          try clear c13
          try clear c13b0
          try clear c13b1
          try clear hcz4_0
          try clear hcz4_1
          try clear hcz4_2
          try clear hcz4_3
          try clear hcz4_4
          try clear hcz4_5
          try clear hcz4_6
          try clear hcz4_7
          try clear hcz9_0
          try clear hcz9_1
          try clear hcz9_2
          try clear hcz9_3
          try clear hcz9_4
          try clear hcz9_5
          try clear hcz9_6
          try clear hcz9_7
          try clear hfz4_0
          try clear hfz4_1
          try clear hfz4_2
          try clear hfz4_3
          try clear hfz4_4
          try clear hfz4_5
          try clear hfz4_6
          try clear hfz4_7
          try clear hfz9_0
          try clear hfz9_1
          try clear hfz9_2
          try clear hfz9_3
          try clear hfz9_4
          try clear hfz9_5
          try clear hfz9_6
          try clear hfz9_7
          try clear p2
          obtain ⟨x5_4, x6_4, rfl, rfl, HA, HK4, BK136, HB⟩ := hrel
          cases gk with
          | zero => exact absurd HA.out (by simp [tallboyref15_Check.l0])
          | succ k4 =>
           have H := HA.out
           clear HA
           simp only [tallboyref15_Check.l0] at H
           by_cases c15 : x6_4 < (l0_1.length : Int)
           ·rw [if_pos c15] at H
            have c15b0 : decide (x6_4 < (l0_1.length : Int)) = true := decide_eq_true c15
            clear c15
            (first | rw [c15b0] | (simp only [i64_w, i32_w]; rw [c15b0]) | skip)
            by_cases c16 : x5_4 = true
            ·subst c16
             have H1 : (if 0 ≤ x6_4 then (if x6_4 < (l0_1.length : Int) then ((tallboyref04_Key.f k4 (rdOf ByteArray.empty l0_1 x6_4)).bind fun t139 => (tallboyref15_Check.l0 k4 a0_0 (l0_1.length : Int) t139 (wrap64 (x6_4 + 1)) a0_0 l0_1 a0_2 a0_3 a0_4 a0_5 a0_6 a0_7)) else (none)) else (none)) = some r := by rw [if_pos rfl] at H; exact H
             clear H
             have H := H1
             clear H1
             by_cases c17 : 0 ≤ x6_4
             ·rw [if_pos c17] at H
              have c17b0 : decide (0 ≤ x6_4) = true := decide_eq_true c17
              clear c17
              by_cases c18 : x6_4 < (l0_1.length : Int)
              ·rw [if_pos c18] at H
               have c18b0 : decide (x6_4 < (l0_1.length : Int)) = true := decide_eq_true c18
               clear c18
               replace H := Option.bind_eq_some_iff.mp H
               obtain ⟨t139, A190, H⟩ := H
               replace H : (tallboyref15_Check.l0 k4 a0_0 (l0_1.length : Int) t139 (wrap64 (x6_4 + 1)) a0_0 l0_1 a0_2 a0_3 a0_4 a0_5 a0_6 a0_7) = some r := H
               have A19 := Aside0.mk A190
               clear A190
               have H' := Aside0.mk H
               clear H
               have hcz20_0 : wr.cell? ⟨gb136, 0, none⟩ = some (.int .i64 a0_0) := (blk_cell BK136.out 0).trans rfl
               have hcz20_1 : wr.cell? ⟨gb136, 1, none⟩ = some (.slice A0_1 l0_1.length c0_1) := (blk_cell BK136.out 1).trans rfl
               have hcz20_2 : wr.cell? ⟨gb136, 2, none⟩ = some (.int .u32 a0_2) := (blk_cell BK136.out 2).trans rfl
               have hcz20_3 : wr.cell? ⟨gb136, 3, none⟩ = some (.int .i64 a0_3) := (blk_cell BK136.out 3).trans rfl
               have hcz20_4 : wr.cell? ⟨gb136, 4, none⟩ = some (.string a0_4) := (blk_cell BK136.out 4).trans rfl
               have hcz20_5 : wr.cell? ⟨gb136, 5, none⟩ = some (.int .u64 a0_5) := (blk_cell BK136.out 5).trans rfl
               have hcz20_6 : wr.cell? ⟨gb136, 6, none⟩ = some (.int .u64 a0_6) := (blk_cell BK136.out 6).trans rfl
               have hcz20_7 : wr.cell? ⟨gb136, 7, none⟩ = some (.bool a0_7) := (blk_cell BK136.out 7).trans rfl
               have hfz20_0 := blk_frozen BK136.out 0
               have hfz20_1 := blk_frozen BK136.out 1
               have hfz20_2 := blk_frozen BK136.out 2
               have hfz20_3 := blk_frozen BK136.out 3
               have hfz20_4 := blk_frozen BK136.out 4
               have hfz20_5 := blk_frozen BK136.out 5
               have hfz20_6 := blk_frozen BK136.out 6
               have hfz20_7 := blk_frozen BK136.out 7
               have p138 : 0 ≤ (x6_4 : Int) := of_decide_eq_true (by first | (with_reducible assumption) | assumption)
               have q138 : x6_4 < (l0_1.length : Int) := of_decide_eq_true (by first | (with_reducible assumption) | assumption)
               obtain ⟨ad138, e138, hx138_0⟩ := Kd.at_string HR0_1.out x6_4 p138 q138
               cases e138
               replace hx138_0 := (HB.out.cell (World.block_lt_of_cell? w _ hx138_0)).trans hx138_0
               replace p138 := eq_true p138
               replace q138 := eq_true q138
               go_wp2_with (first | ((with_reducible refine gate_callee (f := 33) rfl ?_); refine goesL_ (some 47) rfl rfl Try.func33 (by kernel_rfl) rfl #[.string (rdOf ByteArray.empty l0_1 x6_4)] rfl (by (try simp only [List.map_toArray, List.map_cons, List.map_nil]); first | done | rfl | (simp only [List.length_drop, List.length_take]; rfl)) ?_; (with_reducible refine (tallboyref04_Key.calls k4 (rdOf ByteArray.empty l0_1 x6_4) t139 _ A19.out).mono ?_); rintro e w' ⟨rfl, ⟨nd, rfl⟩⟩; refine ⟨_, rfl, ?_⟩))
               go_roundg k4
               case measure => have := HJ1.out; have := HJ7.out; have := HJ11.out; have := HK4.out; omega
               case rel => exact ⟨(t139), (wrap64 (x6_4 + 1)), (by first | rfl | (simp; done) | (simp [*]; done)), (by first | rfl | (simp; done) | (simp [*]; done)), H', ⟨by have := HJ1.out; have := HJ7.out; have := HJ11.out; have := HK4.out; omega⟩, ⟨by (with_reducible repeat (first | refine blk_drewN ?_ _ | refine blk_drew ?_ | refine blk_alloc ?_ _)); exact BK136.out⟩, ⟨by repeat (first | (with_reducible first | exact HB.out | apply below_alloc | apply pw_below_drewN | apply below_drew1 | refine below_set ?_ GE136.out) | exact HB.out)⟩⟩
              ·rw [if_neg c18] at H
               exact absurd H (by simp)
             ·rw [if_neg c17] at H
              exact absurd H (by simp)
            ·replace c16 := Bool.eq_false_iff.mpr c16
             subst c16
             have H1 : (tallboyref15_Check.j4 k4 a0_0 false a0_0 l0_1 a0_2 a0_3 a0_4 a0_5 a0_6 a0_7) = some r := by rw [if_neg (show ¬ (false = true) by decide)] at H; exact H
             clear H
             have H := H1
             clear H1
             have H' := Aside0.mk H
             clear H
             go_wp2
             go_meet
             case rel => exact ⟨_, (false), (by first | rfl | (simp; done) | (simp [*]; done)), H', ⟨by have := HJ1.out; have := HJ7.out; have := HJ11.out; have := HK4.out; first | omega | exact Nat.le_refl _⟩, ⟨by (with_reducible repeat (first | refine blk_drewN ?_ _ | refine blk_drew ?_ | refine blk_alloc ?_ _)); exact BK136.out⟩, ⟨by repeat (first | (with_reducible first | exact HB.out | apply below_alloc | apply pw_below_drewN | apply below_drew1 | refine below_set ?_ GE136.out) | exact HB.out)⟩⟩
           ·rw [if_neg c15] at H
            have c15b0 : decide (x6_4 < (l0_1.length : Int)) = false := decide_eq_false c15
            clear c15
            (first | rw [c15b0] | (simp only [i64_w, i32_w]; rw [c15b0]) | skip)
            have H' := Aside0.mk H
            clear H
            go_wp2
            go_meet
            case rel => exact ⟨_, (x5_4), (by first | rfl | (simp; done) | (simp [*]; done)), H', ⟨by have := HJ1.out; have := HJ7.out; have := HJ11.out; have := HK4.out; first | omega | exact Nat.le_refl _⟩, ⟨by (with_reducible repeat (first | refine blk_drewN ?_ _ | refine blk_drew ?_ | refine blk_alloc ?_ _)); exact BK136.out⟩, ⟨by repeat (first | (with_reducible first | exact HB.out | apply below_alloc | apply pw_below_drewN | apply below_drew1 | refine below_set ?_ GE136.out) | exact HB.out)⟩⟩
        case rest =>
         clear HC14
         try clear c1
         try clear p1
         try clear q1
         try clear hx1
         try clear c2
         try clear p2
         try clear c3
         try clear c5
         try clear c5b0
         try clear c6
         try clear p6
         try clear c10
         try clear c11
         try clear c11b0
         try clear c11b1
         try clear c13
         try clear c13b0
         try clear c13b1
         try clear p13
         try clear q13
         try clear hx13
         try clear c15
         try clear c15b0
         try clear c16
         try clear c17
         try clear c17b0
         try clear c18
         try clear c18b0
         try clear c19
         try clear hcz20_0
         try clear hcz20_1
         try clear hcz20_2
         try clear hcz20_3
         try clear hcz20_4
         try clear hcz20_5
         try clear hcz20_6
         try clear hcz20_7
         try clear hcz4_0
         try clear hcz4_1
         try clear hcz4_2
         try clear hcz4_3
         try clear hcz4_4
         try clear hcz4_5
         try clear hcz4_6
         try clear hcz4_7
         try clear hcz9_0
         try clear hcz9_1
         try clear hcz9_2
         try clear hcz9_3
         try clear hcz9_4
         try clear hcz9_5
         try clear hcz9_6
         try clear hcz9_7
         try clear hfz20_0
         try clear hfz20_1
         try clear hfz20_2
         try clear hfz20_3
         try clear hfz20_4
         try clear hfz20_5
         try clear hfz20_6
         try clear hfz20_7
         try clear hfz4_0
         try clear hfz4_1
         try clear hfz4_2
         try clear hfz4_3
         try clear hfz4_4
         try clear hfz4_5
         try clear hfz4_6
         try clear hfz4_7
         try clear hfz9_0
         try clear hfz9_1
         try clear hfz9_2
         try clear hfz9_3
         try clear hfz9_4
         try clear hfz9_5
         try clear hfz9_6
         try clear hfz9_7
         try clear hx138_0
         try clear p138
         try clear p2
         try clear q138
         obtain ⟨kq, x5_13, rfl, HA, HJ13, BK136, HB⟩ := hcut
         cases kq with
         | zero => exact absurd HA.out (by simp [tallboyref15_Check.j4])
         | succ kj13 =>
          have H := HA.out
          clear HA
          simp only [tallboyref15_Check.j4] at H
          replace H := Option.bind_eq_some_iff.mp H
          obtain ⟨t140, A210, H⟩ := H
          replace H : (if t140 = true then (tallboyref15_Check.j5 kj13 a0_0 x5_13 a0_0 l0_1 a0_2 a0_3 a0_4 a0_5 a0_6 a0_7) else (if x5_13 = true then (tallboyref15_Check.j5 kj13 a0_0 (a0_4.toList == ([] : List UInt8)) a0_0 l0_1 a0_2 a0_3 a0_4 a0_5 a0_6 a0_7) else (tallboyref15_Check.j5 kj13 a0_0 false a0_0 l0_1 a0_2 a0_3 a0_4 a0_5 a0_6 a0_7))) = some r := H
          have A21 := Aside0.mk A210
          clear A210
          have HC22 := Aside0.mk H
          clear H
          go_upto_if 50 with (first | ((with_reducible refine gate_callee (f := 13) rfl ?_); refine goesL_ (some 49) rfl rfl Try.func13 (by kernel_rfl) rfl #[.int .i64 a0_0] rfl (by (try simp only [List.map_toArray, List.map_cons, List.map_nil]); first | done | rfl | (simp only [List.length_drop, List.length_take]; rfl)) ?_; (with_reducible refine (tallboyref15_Stores.calls a0_0 t140 _ A21.out).mono ?_); rintro e w' ⟨rfl, ⟨nd, rfl⟩⟩; refine ⟨_, rfl, ?_⟩))
          (try simp only [Act.put, List.setIfInBounds_toArray, List.set_cons_zero, List.set_cons_succ])
          go_cut [5] (fun v5 wc => ∃ (kq : Nat) (x5_21 : Bool), v5 = .bool x5_21 ∧ Aside0 (tallboyref15_Check.j5 kq a0_0 x5_21 a0_0 l0_1 a0_2 a0_3 a0_4 a0_5 a0_6 a0_7 = some r) ∧ Aside0 (kq ≤ kj13) ∧ Aside0 (wc.heap[gb136]? = some (.cells #[.int .i64 a0_0, (.slice A0_1 l0_1.length c0_1), .int .u32 a0_2, .int .i64 a0_3, .string a0_4, .int .u64 a0_5, .int .u64 a0_6, .bool a0_7] 30 (0, 0))) ∧ Aside0 (Below w.heap.size w wc))
          case first =>
           have H := HC22.out
           clear HC22
           by_cases c23 : t140 = true
           ·subst c23
            have H1 : (tallboyref15_Check.j5 kj13 a0_0 x5_13 a0_0 l0_1 a0_2 a0_3 a0_4 a0_5 a0_6 a0_7) = some r := by rw [if_pos rfl] at H; exact H
            clear H
            have H := H1
            clear H1
            have H' := Aside0.mk H
            clear H
            go_wp2
            go_meet
            case rel => exact ⟨_, (x5_13), (by first | rfl | (simp; done) | (simp [*]; done)), H', ⟨by have := HJ1.out; have := HJ7.out; have := HJ11.out; have := HJ13.out; first | omega | exact Nat.le_refl _⟩, ⟨by (with_reducible repeat (first | refine blk_drewN ?_ _ | refine blk_drew ?_ | refine blk_alloc ?_ _)); exact BK136.out⟩, ⟨by repeat (first | (with_reducible first | exact HB.out | apply below_alloc | apply pw_below_drewN | apply below_drew1 | refine below_set ?_ GE136.out) | exact HB.out)⟩⟩
           ·replace c23 := Bool.eq_false_iff.mpr c23
            subst c23
            have H1 : (if x5_13 = true then (tallboyref15_Check.j5 kj13 a0_0 (a0_4.toList == ([] : List UInt8)) a0_0 l0_1 a0_2 a0_3 a0_4 a0_5 a0_6 a0_7) else (tallboyref15_Check.j5 kj13 a0_0 false a0_0 l0_1 a0_2 a0_3 a0_4 a0_5 a0_6 a0_7)) = some r := by rw [if_neg (show ¬ (false = true) by decide)] at H; exact H
            clear H
            have H := H1
            clear H1
            by_cases c24 : x5_13 = true
            ·subst c24
             have H1 : (tallboyref15_Check.j5 kj13 a0_0 (a0_4.toList == ([] : List UInt8)) a0_0 l0_1 a0_2 a0_3 a0_4 a0_5 a0_6 a0_7) = some r := by rw [if_pos rfl] at H; exact H
             clear H
             have H := H1
             clear H1
             have H' := Aside0.mk H
             clear H
             have hcz25_0 : wc.cell? ⟨gb136, 0, none⟩ = some (.int .i64 a0_0) := (blk_cell BK136.out 0).trans rfl
             have hcz25_1 : wc.cell? ⟨gb136, 1, none⟩ = some (.slice A0_1 l0_1.length c0_1) := (blk_cell BK136.out 1).trans rfl
             have hcz25_2 : wc.cell? ⟨gb136, 2, none⟩ = some (.int .u32 a0_2) := (blk_cell BK136.out 2).trans rfl
             have hcz25_3 : wc.cell? ⟨gb136, 3, none⟩ = some (.int .i64 a0_3) := (blk_cell BK136.out 3).trans rfl
             have hcz25_4 : wc.cell? ⟨gb136, 4, none⟩ = some (.string a0_4) := (blk_cell BK136.out 4).trans rfl
             have hcz25_5 : wc.cell? ⟨gb136, 5, none⟩ = some (.int .u64 a0_5) := (blk_cell BK136.out 5).trans rfl
             have hcz25_6 : wc.cell? ⟨gb136, 6, none⟩ = some (.int .u64 a0_6) := (blk_cell BK136.out 6).trans rfl
             have hcz25_7 : wc.cell? ⟨gb136, 7, none⟩ = some (.bool a0_7) := (blk_cell BK136.out 7).trans rfl
             have hfz25_0 := blk_frozen BK136.out 0
             have hfz25_1 := blk_frozen BK136.out 1
             have hfz25_2 := blk_frozen BK136.out 2
             have hfz25_3 := blk_frozen BK136.out 3
             have hfz25_4 := blk_frozen BK136.out 4
             have hfz25_5 := blk_frozen BK136.out 5
             have hfz25_6 := blk_frozen BK136.out 6
             have hfz25_7 := blk_frozen BK136.out 7
             go_wp2
             go_meet
             case rel => exact ⟨_, ((a0_4.toList == ([] : List UInt8))), (by first | rfl | (simp; done) | (simp [*]; done)), H', ⟨by have := HJ1.out; have := HJ7.out; have := HJ11.out; have := HJ13.out; first | omega | exact Nat.le_refl _⟩, ⟨by (with_reducible repeat (first | refine blk_drewN ?_ _ | refine blk_drew ?_ | refine blk_alloc ?_ _)); exact BK136.out⟩, ⟨by repeat (first | (with_reducible first | exact HB.out | apply below_alloc | apply pw_below_drewN | apply below_drew1 | refine below_set ?_ GE136.out) | exact HB.out)⟩⟩
            ·replace c24 := Bool.eq_false_iff.mpr c24
             subst c24
             have H1 : (tallboyref15_Check.j5 kj13 a0_0 false a0_0 l0_1 a0_2 a0_3 a0_4 a0_5 a0_6 a0_7) = some r := by rw [if_neg (show ¬ (false = true) by decide)] at H; exact H
             clear H
             have H := H1
             clear H1
             have H' := Aside0.mk H
             clear H
             go_wp2
             go_meet
             case rel => exact ⟨_, (false), (by first | rfl | (simp; done) | (simp [*]; done)), H', ⟨by have := HJ1.out; have := HJ7.out; have := HJ11.out; have := HJ13.out; first | omega | exact Nat.le_refl _⟩, ⟨by (with_reducible repeat (first | refine blk_drewN ?_ _ | refine blk_drew ?_ | refine blk_alloc ?_ _)); exact BK136.out⟩, ⟨by repeat (first | (with_reducible first | exact HB.out | apply below_alloc | apply pw_below_drewN | apply below_drew1 | refine below_set ?_ GE136.out) | exact HB.out)⟩⟩
          case rest =>
           clear HC22
           try clear c1
           try clear p1
           try clear q1
           try clear hx1
           try clear c2
           try clear p2
           try clear c3
           try clear c5
           try clear c5b0
           try clear c6
           try clear p6
           try clear c10
           try clear c11
           try clear c11b0
           try clear c11b1
           try clear c13
           try clear c13b0
           try clear c13b1
           try clear p13
           try clear q13
           try clear hx13
           try clear c15
           try clear c15b0
           try clear c16
           try clear c17
           try clear c17b0
           try clear c18
           try clear c18b0
           try clear c19
           try clear c23
           try clear c24
           try clear hcz20_0
           try clear hcz20_1
           try clear hcz20_2
           try clear hcz20_3
           try clear hcz20_4
           try clear hcz20_5
           try clear hcz20_6
           try clear hcz20_7
           try clear hcz25_0
           try clear hcz25_1
           try clear hcz25_2
           try clear hcz25_3
           try clear hcz25_4
           try clear hcz25_5
           try clear hcz25_6
           try clear hcz25_7
           try clear hcz4_0
           try clear hcz4_1
           try clear hcz4_2
           try clear hcz4_3
           try clear hcz4_4
           try clear hcz4_5
           try clear hcz4_6
           try clear hcz4_7
           try clear hcz9_0
           try clear hcz9_1
           try clear hcz9_2
           try clear hcz9_3
           try clear hcz9_4
           try clear hcz9_5
           try clear hcz9_6
           try clear hcz9_7
           try clear hfz20_0
           try clear hfz20_1
           try clear hfz20_2
           try clear hfz20_3
           try clear hfz20_4
           try clear hfz20_5
           try clear hfz20_6
           try clear hfz20_7
           try clear hfz25_0
           try clear hfz25_1
           try clear hfz25_2
           try clear hfz25_3
           try clear hfz25_4
           try clear hfz25_5
           try clear hfz25_6
           try clear hfz25_7
           try clear hfz4_0
           try clear hfz4_1
           try clear hfz4_2
           try clear hfz4_3
           try clear hfz4_4
           try clear hfz4_5
           try clear hfz4_6
           try clear hfz4_7
           try clear hfz9_0
           try clear hfz9_1
           try clear hfz9_2
           try clear hfz9_3
           try clear hfz9_4
           try clear hfz9_5
           try clear hfz9_6
           try clear hfz9_7
           try clear hx138_0
           try clear p1
           try clear p13
           try clear p138
           try clear p2
           try clear p6
           try clear q1
           try clear q13
           try clear q138
           obtain ⟨kq, x5_21, rfl, HA, HJ21, BK136, HB⟩ := hcut
           cases kq with
           | zero => exact absurd HA.out (by simp [tallboyref15_Check.j5])
           | succ kj21 =>
            have H := HA.out
            clear HA
            simp only [tallboyref15_Check.j5] at H
            have HC26 := Aside0.mk H
            clear H
            go_upto_region 16 with (fail)
            go_cut [7] (fun v7 wc => ∃ (kq : Nat) (x7_25 : Bool), v7 = .bool x7_25 ∧ Aside0 (tallboyref15_Check.j6 kq a0_0 x5_21 x7_25 a0_0 l0_1 a0_2 a0_3 a0_4 a0_5 a0_6 a0_7 = some r) ∧ Aside0 (kq ≤ kj21) ∧ Aside0 (wc.heap[gb136]? = some (.cells #[.int .i64 a0_0, (.slice A0_1 l0_1.length c0_1), .int .u32 a0_2, .int .i64 a0_3, .string a0_4, .int .u64 a0_5, .int .u64 a0_6, .bool a0_7] 30 (0, 0))) ∧ Aside0 (Below w.heap.size w wc))
            case first =>
             have H := HC26.out
             clear HC26
             replace H := Option.bind_eq_some_iff.mp H
             obtain ⟨t141, A270, H⟩ := H
             replace H : (if t141 = true then (if a0_0 = 8 then (tallboyref15_Check.j6 kj21 a0_0 x5_21 false a0_0 l0_1 a0_2 a0_3 a0_4 a0_5 a0_6 a0_7) else (tallboyref15_Check.j6 kj21 a0_0 x5_21 (a0_0 != 9) a0_0 l0_1 a0_2 a0_3 a0_4 a0_5 a0_6 a0_7)) else (tallboyref15_Check.j6 kj21 a0_0 x5_21 false a0_0 l0_1 a0_2 a0_3 a0_4 a0_5 a0_6 a0_7)) = some r := H
             have A27 := Aside0.mk A270
             clear A270
             by_cases c28 : t141 = true
             ·subst c28
              have H1 : (if a0_0 = 8 then (tallboyref15_Check.j6 kj21 a0_0 x5_21 false a0_0 l0_1 a0_2 a0_3 a0_4 a0_5 a0_6 a0_7) else (tallboyref15_Check.j6 kj21 a0_0 x5_21 (a0_0 != 9) a0_0 l0_1 a0_2 a0_3 a0_4 a0_5 a0_6 a0_7)) = some r := by rw [if_pos rfl] at H; exact H
              clear H
              have H := H1
              clear H1
              by_cases c29 : a0_0 = 8
              ·rw [if_pos c29] at H
               have c29b0 : (a0_0 == 8) = true := beq_iff_eq.mpr c29
               have c29b1 : (a0_0 != 8) = false := bne_eq_false_iff_eq.mpr c29
               clear c29
               (first | rw [c29b0] | (simp only [i64_w, i32_w]; rw [c29b0]) | skip)
               have H' := Aside0.mk H
               clear H
               go_wp2_with (first | ((with_reducible refine gate_callee (f := 13) rfl ?_); refine goesL_ (some 58) rfl rfl Try.func13 (by kernel_rfl) rfl #[.int .i64 a0_0] rfl (by (try simp only [List.map_toArray, List.map_cons, List.map_nil]); first | done | rfl | (simp only [List.length_drop, List.length_take]; rfl)) ?_; (with_reducible refine (tallboyref15_Stores.calls a0_0 true _ A27.out).mono ?_); rintro e w' ⟨rfl, ⟨nd, rfl⟩⟩; refine ⟨_, rfl, ?_⟩))
               go_meet
               case rel => exact ⟨_, (false), (by first | rfl | (simp; done) | (simp [*]; done)), H', ⟨by have := HJ1.out; have := HJ7.out; have := HJ11.out; have := HJ13.out; have := HJ21.out; first | omega | exact Nat.le_refl _⟩, ⟨by (with_reducible repeat (first | refine blk_drewN ?_ _ | refine blk_drew ?_ | refine blk_alloc ?_ _)); exact BK136.out⟩, ⟨by repeat (first | (with_reducible first | exact HB.out | apply below_alloc | apply pw_below_drewN | apply below_drew1 | refine below_set ?_ GE136.out) | exact HB.out)⟩⟩
              ·rw [if_neg c29] at H
               have c29b0 : (a0_0 == 8) = false := beq_eq_false_iff_ne.mpr c29
               have c29b1 : (a0_0 != 8) = true := bne_iff_ne.mpr c29
               (first | rw [c29b0] | (simp only [i64_w, i32_w]; rw [c29b0]) | skip)
               have H' := Aside0.mk H
               clear H
               go_wp2_with (first | ((with_reducible refine gate_callee (f := 13) rfl ?_); refine goesL_ (some 58) rfl rfl Try.func13 (by kernel_rfl) rfl #[.int .i64 a0_0] rfl (by (try simp only [List.map_toArray, List.map_cons, List.map_nil]); first | done | rfl | (simp only [List.length_drop, List.length_take]; rfl)) ?_; (with_reducible refine (tallboyref15_Stores.calls a0_0 true _ A27.out).mono ?_); rintro e w' ⟨rfl, ⟨nd, rfl⟩⟩; refine ⟨_, rfl, ?_⟩))
               go_meet
               case rel => exact ⟨_, ((a0_0 != 9)), (by first | rfl | (simp; done) | (simp [*]; done)), H', ⟨by have := HJ1.out; have := HJ7.out; have := HJ11.out; have := HJ13.out; have := HJ21.out; first | omega | exact Nat.le_refl _⟩, ⟨by (with_reducible repeat (first | refine blk_drewN ?_ _ | refine blk_drew ?_ | refine blk_alloc ?_ _)); exact BK136.out⟩, ⟨by repeat (first | (with_reducible first | exact HB.out | apply below_alloc | apply pw_below_drewN | apply below_drew1 | refine below_set ?_ GE136.out) | exact HB.out)⟩⟩
             ·replace c28 := Bool.eq_false_iff.mpr c28
              subst c28
              have H1 : (tallboyref15_Check.j6 kj21 a0_0 x5_21 false a0_0 l0_1 a0_2 a0_3 a0_4 a0_5 a0_6 a0_7) = some r := by rw [if_neg (show ¬ (false = true) by decide)] at H; exact H
              clear H
              have H := H1
              clear H1
              have H' := Aside0.mk H
              clear H
              go_wp2_with (first | ((with_reducible refine gate_callee (f := 13) rfl ?_); refine goesL_ (some 58) rfl rfl Try.func13 (by kernel_rfl) rfl #[.int .i64 a0_0] rfl (by (try simp only [List.map_toArray, List.map_cons, List.map_nil]); first | done | rfl | (simp only [List.length_drop, List.length_take]; rfl)) ?_; (with_reducible refine (tallboyref15_Stores.calls a0_0 false _ A27.out).mono ?_); rintro e w' ⟨rfl, ⟨nd, rfl⟩⟩; refine ⟨_, rfl, ?_⟩))
              go_meet
              case rel => exact ⟨_, (false), (by first | rfl | (simp; done) | (simp [*]; done)), H', ⟨by have := HJ1.out; have := HJ7.out; have := HJ11.out; have := HJ13.out; have := HJ21.out; first | omega | exact Nat.le_refl _⟩, ⟨by (with_reducible repeat (first | refine blk_drewN ?_ _ | refine blk_drew ?_ | refine blk_alloc ?_ _)); exact BK136.out⟩, ⟨by repeat (first | (with_reducible first | exact HB.out | apply below_alloc | apply pw_below_drewN | apply below_drew1 | refine below_set ?_ GE136.out) | exact HB.out)⟩⟩
            case rest =>
             clear HC26
             try clear c1
             try clear p1
             try clear q1
             try clear hx1
             try clear c2
             try clear p2
             try clear c3
             try clear c5
             try clear c5b0
             try clear c6
             try clear p6
             try clear c10
             try clear c11
             try clear c11b0
             try clear c11b1
             try clear c13
             try clear c13b0
             try clear c13b1
             try clear p13
             try clear q13
             try clear hx13
             try clear c15
             try clear c15b0
             try clear c16
             try clear c17
             try clear c17b0
             try clear c18
             try clear c18b0
             try clear c19
             try clear c23
             try clear c24
             try clear c28
             try clear c29
             try clear c29b0
             try clear c29b1
             try clear hcz20_0
             try clear hcz20_1
             try clear hcz20_2
             try clear hcz20_3
             try clear hcz20_4
             try clear hcz20_5
             try clear hcz20_6
             try clear hcz20_7
             try clear hcz25_0
             try clear hcz25_1
             try clear hcz25_2
             try clear hcz25_3
             try clear hcz25_4
             try clear hcz25_5
             try clear hcz25_6
             try clear hcz25_7
             try clear hcz4_0
             try clear hcz4_1
             try clear hcz4_2
             try clear hcz4_3
             try clear hcz4_4
             try clear hcz4_5
             try clear hcz4_6
             try clear hcz4_7
             try clear hcz9_0
             try clear hcz9_1
             try clear hcz9_2
             try clear hcz9_3
             try clear hcz9_4
             try clear hcz9_5
             try clear hcz9_6
             try clear hcz9_7
             try clear hfz20_0
             try clear hfz20_1
             try clear hfz20_2
             try clear hfz20_3
             try clear hfz20_4
             try clear hfz20_5
             try clear hfz20_6
             try clear hfz20_7
             try clear hfz25_0
             try clear hfz25_1
             try clear hfz25_2
             try clear hfz25_3
             try clear hfz25_4
             try clear hfz25_5
             try clear hfz25_6
             try clear hfz25_7
             try clear hfz4_0
             try clear hfz4_1
             try clear hfz4_2
             try clear hfz4_3
             try clear hfz4_4
             try clear hfz4_5
             try clear hfz4_6
             try clear hfz4_7
             try clear hfz9_0
             try clear hfz9_1
             try clear hfz9_2
             try clear hfz9_3
             try clear hfz9_4
             try clear hfz9_5
             try clear hfz9_6
             try clear hfz9_7
             try clear hx138_0
             try clear p1
             try clear p13
             try clear p138
             try clear p2
             try clear p6
             try clear q1
             try clear q13
             try clear q138
             obtain ⟨kq, x7_25, rfl, HA, HJ25, BK136, HB⟩ := hcut
             cases kq with
             | zero => exact absurd HA.out (by simp [tallboyref15_Check.j6])
             | succ kj25 =>
              have H := HA.out
              clear HA
              simp only [tallboyref15_Check.j6] at H
              have HC30 := Aside0.mk H
              clear H
              go_upto_if 68 with (fail)
              go_cut [5] (fun v5 wc => ∃ (kq : Nat) (x5_29 : Bool), v5 = .bool x5_29 ∧ Aside0 (tallboyref15_Check.j7 kq a0_0 x5_29 x7_25 a0_0 l0_1 a0_2 a0_3 a0_4 a0_5 a0_6 a0_7 = some r) ∧ Aside0 (kq ≤ kj25) ∧ Aside0 (wc.heap[gb136]? = some (.cells #[.int .i64 a0_0, (.slice A0_1 l0_1.length c0_1), .int .u32 a0_2, .int .i64 a0_3, .string a0_4, .int .u64 a0_5, .int .u64 a0_6, .bool a0_7] 30 (0, 0))) ∧ Aside0 (Below w.heap.size w wc))
              case first =>
               have H := HC30.out
               clear HC30
               by_cases c31 : x7_25 = true
               ·subst c31
                have H1 : (tallboyref15_Check.j7 kj25 a0_0 x5_21 true a0_0 l0_1 a0_2 a0_3 a0_4 a0_5 a0_6 a0_7) = some r := by rw [if_pos rfl] at H; exact H
                clear H
                have H := H1
                clear H1
                have H' := Aside0.mk H
                clear H
                go_wp2
                go_meet
                case rel => exact ⟨_, (x5_21), (by first | rfl | (simp; done) | (simp [*]; done)), H', ⟨by have := HJ1.out; have := HJ7.out; have := HJ11.out; have := HJ13.out; have := HJ21.out; have := HJ25.out; first | omega | exact Nat.le_refl _⟩, ⟨by (with_reducible repeat (first | refine blk_drewN ?_ _ | refine blk_drew ?_ | refine blk_alloc ?_ _)); exact BK136.out⟩, ⟨by repeat (first | (with_reducible first | exact HB.out | apply below_alloc | apply pw_below_drewN | apply below_drew1 | refine below_set ?_ GE136.out) | exact HB.out)⟩⟩
               ·replace c31 := Bool.eq_false_iff.mpr c31
                subst c31
                have H1 : (if x5_21 = true then (tallboyref15_Check.j7 kj25 a0_0 (a0_2 == 0) false a0_0 l0_1 a0_2 a0_3 a0_4 a0_5 a0_6 a0_7) else (tallboyref15_Check.j7 kj25 a0_0 false false a0_0 l0_1 a0_2 a0_3 a0_4 a0_5 a0_6 a0_7)) = some r := by rw [if_neg (show ¬ (false = true) by decide)] at H; exact H
                clear H
                have H := H1
                clear H1
                by_cases c32 : x5_21 = true
                ·subst c32
                 have H1 : (tallboyref15_Check.j7 kj25 a0_0 (a0_2 == 0) false a0_0 l0_1 a0_2 a0_3 a0_4 a0_5 a0_6 a0_7) = some r := by rw [if_pos rfl] at H; exact H
                 clear H
                 have H := H1
                 clear H1
                 have H' := Aside0.mk H
                 clear H
                 have hcz33_0 : wc.cell? ⟨gb136, 0, none⟩ = some (.int .i64 a0_0) := (blk_cell BK136.out 0).trans rfl
                 have hcz33_1 : wc.cell? ⟨gb136, 1, none⟩ = some (.slice A0_1 l0_1.length c0_1) := (blk_cell BK136.out 1).trans rfl
                 have hcz33_2 : wc.cell? ⟨gb136, 2, none⟩ = some (.int .u32 a0_2) := (blk_cell BK136.out 2).trans rfl
                 have hcz33_3 : wc.cell? ⟨gb136, 3, none⟩ = some (.int .i64 a0_3) := (blk_cell BK136.out 3).trans rfl
                 have hcz33_4 : wc.cell? ⟨gb136, 4, none⟩ = some (.string a0_4) := (blk_cell BK136.out 4).trans rfl
                 have hcz33_5 : wc.cell? ⟨gb136, 5, none⟩ = some (.int .u64 a0_5) := (blk_cell BK136.out 5).trans rfl
                 have hcz33_6 : wc.cell? ⟨gb136, 6, none⟩ = some (.int .u64 a0_6) := (blk_cell BK136.out 6).trans rfl
                 have hcz33_7 : wc.cell? ⟨gb136, 7, none⟩ = some (.bool a0_7) := (blk_cell BK136.out 7).trans rfl
                 have hfz33_0 := blk_frozen BK136.out 0
                 have hfz33_1 := blk_frozen BK136.out 1
                 have hfz33_2 := blk_frozen BK136.out 2
                 have hfz33_3 := blk_frozen BK136.out 3
                 have hfz33_4 := blk_frozen BK136.out 4
                 have hfz33_5 := blk_frozen BK136.out 5
                 have hfz33_6 := blk_frozen BK136.out 6
                 have hfz33_7 := blk_frozen BK136.out 7
                 go_wp2
                 go_meet
                 case rel => exact ⟨_, ((a0_2 == 0)), (by first | rfl | (simp; done) | (simp [*]; done)), H', ⟨by have := HJ1.out; have := HJ7.out; have := HJ11.out; have := HJ13.out; have := HJ21.out; have := HJ25.out; first | omega | exact Nat.le_refl _⟩, ⟨by (with_reducible repeat (first | refine blk_drewN ?_ _ | refine blk_drew ?_ | refine blk_alloc ?_ _)); exact BK136.out⟩, ⟨by repeat (first | (with_reducible first | exact HB.out | apply below_alloc | apply pw_below_drewN | apply below_drew1 | refine below_set ?_ GE136.out) | exact HB.out)⟩⟩
                ·replace c32 := Bool.eq_false_iff.mpr c32
                 subst c32
                 have H1 : (tallboyref15_Check.j7 kj25 a0_0 false false a0_0 l0_1 a0_2 a0_3 a0_4 a0_5 a0_6 a0_7) = some r := by rw [if_neg (show ¬ (false = true) by decide)] at H; exact H
                 clear H
                 have H := H1
                 clear H1
                 have H' := Aside0.mk H
                 clear H
                 go_wp2
                 go_meet
                 case rel => exact ⟨_, (false), (by first | rfl | (simp; done) | (simp [*]; done)), H', ⟨by have := HJ1.out; have := HJ7.out; have := HJ11.out; have := HJ13.out; have := HJ21.out; have := HJ25.out; first | omega | exact Nat.le_refl _⟩, ⟨by (with_reducible repeat (first | refine blk_drewN ?_ _ | refine blk_drew ?_ | refine blk_alloc ?_ _)); exact BK136.out⟩, ⟨by repeat (first | (with_reducible first | exact HB.out | apply below_alloc | apply pw_below_drewN | apply below_drew1 | refine below_set ?_ GE136.out) | exact HB.out)⟩⟩
              case rest =>
               clear HC30
               try clear c1
               try clear p1
               try clear q1
               try clear hx1
               try clear c2
               try clear p2
               try clear c3
               try clear c5
               try clear c5b0
               try clear c6
               try clear p6
               try clear c10
               try clear c11
               try clear c11b0
               try clear c11b1
               try clear c13
               try clear c13b0
               try clear c13b1
               try clear p13
               try clear q13
               try clear hx13
               try clear c15
               try clear c15b0
               try clear c16
               try clear c17
               try clear c17b0
               try clear c18
               try clear c18b0
               try clear c19
               try clear c23
               try clear c24
               try clear c28
               try clear c29
               try clear c29b0
               try clear c29b1
               try clear c31
               try clear c32
               try clear c33
               try clear hcz20_0
               try clear hcz20_1
               try clear hcz20_2
               try clear hcz20_3
               try clear hcz20_4
               try clear hcz20_5
               try clear hcz20_6
               try clear hcz20_7
               try clear hcz25_0
               try clear hcz25_1
               try clear hcz25_2
               try clear hcz25_3
               try clear hcz25_4
               try clear hcz25_5
               try clear hcz25_6
               try clear hcz25_7
               try clear hcz33_0
               try clear hcz33_1
               try clear hcz33_2
               try clear hcz33_3
               try clear hcz33_4
               try clear hcz33_5
               try clear hcz33_6
               try clear hcz33_7
               try clear hcz4_0
               try clear hcz4_1
               try clear hcz4_2
               try clear hcz4_3
               try clear hcz4_4
               try clear hcz4_5
               try clear hcz4_6
               try clear hcz4_7
               try clear hcz9_0
               try clear hcz9_1
               try clear hcz9_2
               try clear hcz9_3
               try clear hcz9_4
               try clear hcz9_5
               try clear hcz9_6
               try clear hcz9_7
               try clear hfz20_0
               try clear hfz20_1
               try clear hfz20_2
               try clear hfz20_3
               try clear hfz20_4
               try clear hfz20_5
               try clear hfz20_6
               try clear hfz20_7
               try clear hfz25_0
               try clear hfz25_1
               try clear hfz25_2
               try clear hfz25_3
               try clear hfz25_4
               try clear hfz25_5
               try clear hfz25_6
               try clear hfz25_7
               try clear hfz33_0
               try clear hfz33_1
               try clear hfz33_2
               try clear hfz33_3
               try clear hfz33_4
               try clear hfz33_5
               try clear hfz33_6
               try clear hfz33_7
               try clear hfz4_0
               try clear hfz4_1
               try clear hfz4_2
               try clear hfz4_3
               try clear hfz4_4
               try clear hfz4_5
               try clear hfz4_6
               try clear hfz4_7
               try clear hfz9_0
               try clear hfz9_1
               try clear hfz9_2
               try clear hfz9_3
               try clear hfz9_4
               try clear hfz9_5
               try clear hfz9_6
               try clear hfz9_7
               try clear hx138_0
               try clear p1
               try clear p13
               try clear p138
               try clear p2
               try clear p6
               try clear q1
               try clear q13
               try clear q138
               obtain ⟨kq, x5_29, rfl, HA, HJ29, BK136, HB⟩ := hcut
               cases kq with
               | zero => exact absurd HA.out (by simp [tallboyref15_Check.j7])
               | succ kj29 =>
                have H := HA.out
                clear HA
                simp only [tallboyref15_Check.j7] at H
                have HC34 := Aside0.mk H
                clear H
                go_upto_region 19 with (fail)
                go_cut [8] (fun v8 wc => ∃ (kq : Nat) (x8_33 : Bool), v8 = .bool x8_33 ∧ Aside0 (tallboyref15_Check.j8 kq a0_0 x5_29 x8_33 a0_0 l0_1 a0_2 a0_3 a0_4 a0_5 a0_6 a0_7 = some r) ∧ Aside0 (kq ≤ kj29) ∧ Aside0 (wc.heap[gb136]? = some (.cells #[.int .i64 a0_0, (.slice A0_1 l0_1.length c0_1), .int .u32 a0_2, .int .i64 a0_3, .string a0_4, .int .u64 a0_5, .int .u64 a0_6, .bool a0_7] 30 (0, 0))) ∧ Aside0 (Below w.heap.size w wc))
                case first =>
                 have H := HC34.out
                 clear HC34
                 by_cases c35 : x7_25 = true
                 ·subst c35
                  have H1 : (tallboyref15_Check.j8 kj29 a0_0 x5_29 true a0_0 l0_1 a0_2 a0_3 a0_4 a0_5 a0_6 a0_7) = some r := by rw [if_pos rfl] at H; exact H
                  clear H
                  have H := H1
                  clear H1
                  have H' := Aside0.mk H
                  clear H
                  go_wp2
                  go_meet
                  case rel => exact ⟨_, (true), (by first | rfl | (simp; done) | (simp [*]; done)), H', ⟨by have := HJ1.out; have := HJ7.out; have := HJ11.out; have := HJ13.out; have := HJ21.out; have := HJ25.out; have := HJ29.out; first | omega | exact Nat.le_refl _⟩, ⟨by (with_reducible repeat (first | refine blk_drewN ?_ _ | refine blk_drew ?_ | refine blk_alloc ?_ _)); exact BK136.out⟩, ⟨by repeat (first | (with_reducible first | exact HB.out | apply below_alloc | apply pw_below_drewN | apply below_drew1 | refine below_set ?_ GE136.out) | exact HB.out)⟩⟩
                 ·replace c35 := Bool.eq_false_iff.mpr c35
                  subst c35
                  have H1 : (if a0_0 = 3 then (tallboyref15_Check.j8 kj29 a0_0 x5_29 true a0_0 l0_1 a0_2 a0_3 a0_4 a0_5 a0_6 a0_7) else (if a0_0 = 4 then (tallboyref15_Check.j8 kj29 a0_0 x5_29 true a0_0 l0_1 a0_2 a0_3 a0_4 a0_5 a0_6 a0_7) else (tallboyref15_Check.j8 kj29 a0_0 x5_29 (a0_0 == 14) a0_0 l0_1 a0_2 a0_3 a0_4 a0_5 a0_6 a0_7))) = some r := by rw [if_neg (show ¬ (false = true) by decide)] at H; exact H
                  clear H
                  have H := H1
                  clear H1
                  by_cases c36 : a0_0 = 3
                  ·rw [if_pos c36] at H
                   have c36b0 : (a0_0 == 3) = true := beq_iff_eq.mpr c36
                   have c36b1 : (a0_0 != 3) = false := bne_eq_false_iff_eq.mpr c36
                   clear c36
                   (first | rw [c36b0] | (simp only [i64_w, i32_w]; rw [c36b0]) | skip)
                   have H' := Aside0.mk H
                   clear H
                   go_wp2
                   go_meet
                   case rel => exact ⟨_, (true), (by first | rfl | (simp; done) | (simp [*]; done)), H', ⟨by have := HJ1.out; have := HJ7.out; have := HJ11.out; have := HJ13.out; have := HJ21.out; have := HJ25.out; have := HJ29.out; first | omega | exact Nat.le_refl _⟩, ⟨by (with_reducible repeat (first | refine blk_drewN ?_ _ | refine blk_drew ?_ | refine blk_alloc ?_ _)); exact BK136.out⟩, ⟨by repeat (first | (with_reducible first | exact HB.out | apply below_alloc | apply pw_below_drewN | apply below_drew1 | refine below_set ?_ GE136.out) | exact HB.out)⟩⟩
                  ·rw [if_neg c36] at H
                   have c36b0 : (a0_0 == 3) = false := beq_eq_false_iff_ne.mpr c36
                   have c36b1 : (a0_0 != 3) = true := bne_iff_ne.mpr c36
                   (first | rw [c36b0] | (simp only [i64_w, i32_w]; rw [c36b0]) | skip)
                   by_cases c37 : a0_0 = 4
                   ·rw [if_pos c37] at H
                    have c37b0 : (a0_0 == 4) = true := beq_iff_eq.mpr c37
                    have c37b1 : (a0_0 != 4) = false := bne_eq_false_iff_eq.mpr c37
                    clear c37
                    have H' := Aside0.mk H
                    clear H
                    go_wp2
                    go_meet
                    case rel => exact ⟨_, (true), (by first | rfl | (simp; done) | (simp [*]; done)), H', ⟨by have := HJ1.out; have := HJ7.out; have := HJ11.out; have := HJ13.out; have := HJ21.out; have := HJ25.out; have := HJ29.out; first | omega | exact Nat.le_refl _⟩, ⟨by (with_reducible repeat (first | refine blk_drewN ?_ _ | refine blk_drew ?_ | refine blk_alloc ?_ _)); exact BK136.out⟩, ⟨by repeat (first | (with_reducible first | exact HB.out | apply below_alloc | apply pw_below_drewN | apply below_drew1 | refine below_set ?_ GE136.out) | exact HB.out)⟩⟩
                   ·rw [if_neg c37] at H
                    have c37b0 : (a0_0 == 4) = false := beq_eq_false_iff_ne.mpr c37
                    have c37b1 : (a0_0 != 4) = true := bne_iff_ne.mpr c37
                    have H' := Aside0.mk H
                    clear H
                    go_wp2
                    go_meet
                    case rel => exact ⟨_, ((a0_0 == 14)), (by first | rfl | (simp; done) | (simp [*]; done)), H', ⟨by have := HJ1.out; have := HJ7.out; have := HJ11.out; have := HJ13.out; have := HJ21.out; have := HJ25.out; have := HJ29.out; first | omega | exact Nat.le_refl _⟩, ⟨by (with_reducible repeat (first | refine blk_drewN ?_ _ | refine blk_drew ?_ | refine blk_alloc ?_ _)); exact BK136.out⟩, ⟨by repeat (first | (with_reducible first | exact HB.out | apply below_alloc | apply pw_below_drewN | apply below_drew1 | refine below_set ?_ GE136.out) | exact HB.out)⟩⟩
                case rest =>
                 clear HC34
                 try clear c1
                 try clear p1
                 try clear q1
                 try clear hx1
                 try clear c2
                 try clear p2
                 try clear c3
                 try clear c5
                 try clear c5b0
                 try clear c6
                 try clear p6
                 try clear c10
                 try clear c11
                 try clear c11b0
                 try clear c11b1
                 try clear c13
                 try clear c13b0
                 try clear c13b1
                 try clear p13
                 try clear q13
                 try clear hx13
                 try clear c15
                 try clear c15b0
                 try clear c16
                 try clear c17
                 try clear c17b0
                 try clear c18
                 try clear c18b0
                 try clear c19
                 try clear c23
                 try clear c24
                 try clear c28
                 try clear c29
                 try clear c29b0
                 try clear c29b1
                 try clear c31
                 try clear c32
                 try clear c33
                 try clear c35
                 try clear c36
                 try clear c36b0
                 try clear c36b1
                 try clear c37
                 try clear c37b0
                 try clear c37b1
                 try clear hcz20_0
                 try clear hcz20_1
                 try clear hcz20_2
                 try clear hcz20_3
                 try clear hcz20_4
                 try clear hcz20_5
                 try clear hcz20_6
                 try clear hcz20_7
                 try clear hcz25_0
                 try clear hcz25_1
                 try clear hcz25_2
                 try clear hcz25_3
                 try clear hcz25_4
                 try clear hcz25_5
                 try clear hcz25_6
                 try clear hcz25_7
                 try clear hcz33_0
                 try clear hcz33_1
                 try clear hcz33_2
                 try clear hcz33_3
                 try clear hcz33_4
                 try clear hcz33_5
                 try clear hcz33_6
                 try clear hcz33_7
                 try clear hcz4_0
                 try clear hcz4_1
                 try clear hcz4_2
                 try clear hcz4_3
                 try clear hcz4_4
                 try clear hcz4_5
                 try clear hcz4_6
                 try clear hcz4_7
                 try clear hcz9_0
                 try clear hcz9_1
                 try clear hcz9_2
                 try clear hcz9_3
                 try clear hcz9_4
                 try clear hcz9_5
                 try clear hcz9_6
                 try clear hcz9_7
                 try clear hfz20_0
                 try clear hfz20_1
                 try clear hfz20_2
                 try clear hfz20_3
                 try clear hfz20_4
                 try clear hfz20_5
                 try clear hfz20_6
                 try clear hfz20_7
                 try clear hfz25_0
                 try clear hfz25_1
                 try clear hfz25_2
                 try clear hfz25_3
                 try clear hfz25_4
                 try clear hfz25_5
                 try clear hfz25_6
                 try clear hfz25_7
                 try clear hfz33_0
                 try clear hfz33_1
                 try clear hfz33_2
                 try clear hfz33_3
                 try clear hfz33_4
                 try clear hfz33_5
                 try clear hfz33_6
                 try clear hfz33_7
                 try clear hfz4_0
                 try clear hfz4_1
                 try clear hfz4_2
                 try clear hfz4_3
                 try clear hfz4_4
                 try clear hfz4_5
                 try clear hfz4_6
                 try clear hfz4_7
                 try clear hfz9_0
                 try clear hfz9_1
                 try clear hfz9_2
                 try clear hfz9_3
                 try clear hfz9_4
                 try clear hfz9_5
                 try clear hfz9_6
                 try clear hfz9_7
                 try clear hx138_0
                 try clear p1
                 try clear p13
                 try clear p138
                 try clear p2
                 try clear p6
                 try clear q1
                 try clear q13
                 try clear q138
                 obtain ⟨kq, x8_33, rfl, HA, HJ33, BK136, HB⟩ := hcut
                 cases kq with
                 | zero => exact absurd HA.out (by simp [tallboyref15_Check.j8])
                 | succ kj33 =>
                  have H := HA.out
                  clear HA
                  simp only [tallboyref15_Check.j8] at H
                  have HC38 := Aside0.mk H
                  clear H
                  go_upto_if 89 with (fail)
                  go_cut [5] (fun v5 wc => ∃ (kq : Nat) (x5_37 : Bool), v5 = .bool x5_37 ∧ Aside0 (tallboyref15_Check.j9 kq a0_0 x5_37 a0_0 l0_1 a0_2 a0_3 a0_4 a0_5 a0_6 a0_7 = some r) ∧ Aside0 (kq ≤ kj33) ∧ Aside0 (wc.heap[gb136]? = some (.cells #[.int .i64 a0_0, (.slice A0_1 l0_1.length c0_1), .int .u32 a0_2, .int .i64 a0_3, .string a0_4, .int .u64 a0_5, .int .u64 a0_6, .bool a0_7] 30 (0, 0))) ∧ Aside0 (Below w.heap.size w wc))
                  case first =>
                   have H := HC38.out
                   clear HC38
                   by_cases c39 : x8_33 = true
                   ·subst c39
                    have H1 : (tallboyref15_Check.j9 kj33 a0_0 x5_29 a0_0 l0_1 a0_2 a0_3 a0_4 a0_5 a0_6 a0_7) = some r := by rw [if_pos rfl] at H; exact H
                    clear H
                    have H := H1
                    clear H1
                    have H' := Aside0.mk H
                    clear H
                    go_wp2
                    go_meet
                    case rel => exact ⟨_, (x5_29), (by first | rfl | (simp; done) | (simp [*]; done)), H', ⟨by have := HJ1.out; have := HJ7.out; have := HJ11.out; have := HJ13.out; have := HJ21.out; have := HJ25.out; have := HJ29.out; have := HJ33.out; first | omega | exact Nat.le_refl _⟩, ⟨by (with_reducible repeat (first | refine blk_drewN ?_ _ | refine blk_drew ?_ | refine blk_alloc ?_ _)); exact BK136.out⟩, ⟨by repeat (first | (with_reducible first | exact HB.out | apply below_alloc | apply pw_below_drewN | apply below_drew1 | refine below_set ?_ GE136.out) | exact HB.out)⟩⟩
                   ·replace c39 := Bool.eq_false_iff.mpr c39
                    subst c39
                    have H1 : (if x5_29 = true then (tallboyref15_Check.j9 kj33 a0_0 (a0_3 == 0) a0_0 l0_1 a0_2 a0_3 a0_4 a0_5 a0_6 a0_7) else (tallboyref15_Check.j9 kj33 a0_0 false a0_0 l0_1 a0_2 a0_3 a0_4 a0_5 a0_6 a0_7)) = some r := by rw [if_neg (show ¬ (false = true) by decide)] at H; exact H
                    clear H
                    have H := H1
                    clear H1
                    by_cases c40 : x5_29 = true
                    ·subst c40
                     have H1 : (tallboyref15_Check.j9 kj33 a0_0 (a0_3 == 0) a0_0 l0_1 a0_2 a0_3 a0_4 a0_5 a0_6 a0_7) = some r := by rw [if_pos rfl] at H; exact H
                     clear H
                     have H := H1
                     clear H1
                     have H' := Aside0.mk H
                     clear H
                     have hcz41_0 : wc.cell? ⟨gb136, 0, none⟩ = some (.int .i64 a0_0) := (blk_cell BK136.out 0).trans rfl
                     have hcz41_1 : wc.cell? ⟨gb136, 1, none⟩ = some (.slice A0_1 l0_1.length c0_1) := (blk_cell BK136.out 1).trans rfl
                     have hcz41_2 : wc.cell? ⟨gb136, 2, none⟩ = some (.int .u32 a0_2) := (blk_cell BK136.out 2).trans rfl
                     have hcz41_3 : wc.cell? ⟨gb136, 3, none⟩ = some (.int .i64 a0_3) := (blk_cell BK136.out 3).trans rfl
                     have hcz41_4 : wc.cell? ⟨gb136, 4, none⟩ = some (.string a0_4) := (blk_cell BK136.out 4).trans rfl
                     have hcz41_5 : wc.cell? ⟨gb136, 5, none⟩ = some (.int .u64 a0_5) := (blk_cell BK136.out 5).trans rfl
                     have hcz41_6 : wc.cell? ⟨gb136, 6, none⟩ = some (.int .u64 a0_6) := (blk_cell BK136.out 6).trans rfl
                     have hcz41_7 : wc.cell? ⟨gb136, 7, none⟩ = some (.bool a0_7) := (blk_cell BK136.out 7).trans rfl
                     have hfz41_0 := blk_frozen BK136.out 0
                     have hfz41_1 := blk_frozen BK136.out 1
                     have hfz41_2 := blk_frozen BK136.out 2
                     have hfz41_3 := blk_frozen BK136.out 3
                     have hfz41_4 := blk_frozen BK136.out 4
                     have hfz41_5 := blk_frozen BK136.out 5
                     have hfz41_6 := blk_frozen BK136.out 6
                     have hfz41_7 := blk_frozen BK136.out 7
                     go_wp2
                     go_meet
                     case rel => exact ⟨_, ((a0_3 == 0)), (by first | rfl | (simp; done) | (simp [*]; done)), H', ⟨by have := HJ1.out; have := HJ7.out; have := HJ11.out; have := HJ13.out; have := HJ21.out; have := HJ25.out; have := HJ29.out; have := HJ33.out; first | omega | exact Nat.le_refl _⟩, ⟨by (with_reducible repeat (first | refine blk_drewN ?_ _ | refine blk_drew ?_ | refine blk_alloc ?_ _)); exact BK136.out⟩, ⟨by repeat (first | (with_reducible first | exact HB.out | apply below_alloc | apply pw_below_drewN | apply below_drew1 | refine below_set ?_ GE136.out) | exact HB.out)⟩⟩
                    ·replace c40 := Bool.eq_false_iff.mpr c40
                     subst c40
                     have H1 : (tallboyref15_Check.j9 kj33 a0_0 false a0_0 l0_1 a0_2 a0_3 a0_4 a0_5 a0_6 a0_7) = some r := by rw [if_neg (show ¬ (false = true) by decide)] at H; exact H
                     clear H
                     have H := H1
                     clear H1
                     have H' := Aside0.mk H
                     clear H
                     go_wp2
                     go_meet
                     case rel => exact ⟨_, (false), (by first | rfl | (simp; done) | (simp [*]; done)), H', ⟨by have := HJ1.out; have := HJ7.out; have := HJ11.out; have := HJ13.out; have := HJ21.out; have := HJ25.out; have := HJ29.out; have := HJ33.out; first | omega | exact Nat.le_refl _⟩, ⟨by (with_reducible repeat (first | refine blk_drewN ?_ _ | refine blk_drew ?_ | refine blk_alloc ?_ _)); exact BK136.out⟩, ⟨by repeat (first | (with_reducible first | exact HB.out | apply below_alloc | apply pw_below_drewN | apply below_drew1 | refine below_set ?_ GE136.out) | exact HB.out)⟩⟩
                  case rest =>
                   clear HC38
                   try clear c1
                   try clear p1
                   try clear q1
                   try clear hx1
                   try clear c2
                   try clear p2
                   try clear c3
                   try clear c4
                   try clear c5
                   try clear c5b0
                   try clear c6
                   try clear p6
                   try clear c10
                   try clear c11
                   try clear c11b0
                   try clear c11b1
                   try clear c13
                   try clear c13b0
                   try clear c13b1
                   try clear p13
                   try clear q13
                   try clear hx13
                   try clear c15
                   try clear c15b0
                   try clear c16
                   try clear c17
                   try clear c17b0
                   try clear c18
                   try clear c18b0
                   try clear c19
                   try clear c23
                   try clear c24
                   try clear c28
                   try clear c29
                   try clear c29b0
                   try clear c29b1
                   try clear c31
                   try clear c32
                   try clear c33
                   try clear c35
                   try clear c36
                   try clear c36b0
                   try clear c36b1
                   try clear c37
                   try clear c37b0
                   try clear c37b1
                   try clear c39
                   try clear c40
                   try clear hcz20_0
                   try clear hcz20_1
                   try clear hcz20_2
                   try clear hcz20_3
                   try clear hcz20_4
                   try clear hcz20_5
                   try clear hcz20_6
                   try clear hcz20_7
                   try clear hcz25_0
                   try clear hcz25_1
                   try clear hcz25_2
                   try clear hcz25_3
                   try clear hcz25_4
                   try clear hcz25_5
                   try clear hcz25_6
                   try clear hcz25_7
                   try clear hcz33_0
                   try clear hcz33_1
                   try clear hcz33_2
                   try clear hcz33_3
                   try clear hcz33_4
                   try clear hcz33_5
                   try clear hcz33_6
                   try clear hcz33_7
                   try clear hcz41_0
                   try clear hcz41_1
                   try clear hcz41_2
                   try clear hcz41_3
                   try clear hcz41_4
                   try clear hcz41_5
                   try clear hcz41_6
                   try clear hcz41_7
                   try clear hcz4_0
                   try clear hcz4_1
                   try clear hcz4_2
                   try clear hcz4_3
                   try clear hcz4_4
                   try clear hcz4_5
                   try clear hcz4_6
                   try clear hcz4_7
                   try clear hcz9_0
                   try clear hcz9_1
                   try clear hcz9_2
                   try clear hcz9_3
                   try clear hcz9_4
                   try clear hcz9_5
                   try clear hcz9_6
                   try clear hcz9_7
                   try clear hfz20_0
                   try clear hfz20_1
                   try clear hfz20_2
                   try clear hfz20_3
                   try clear hfz20_4
                   try clear hfz20_5
                   try clear hfz20_6
                   try clear hfz20_7
                   try clear hfz25_0
                   try clear hfz25_1
                   try clear hfz25_2
                   try clear hfz25_3
                   try clear hfz25_4
                   try clear hfz25_5
                   try clear hfz25_6
                   try clear hfz25_7
                   try clear hfz33_0
                   try clear hfz33_1
                   try clear hfz33_2
                   try clear hfz33_3
                   try clear hfz33_4
                   try clear hfz33_5
                   try clear hfz33_6
                   try clear hfz33_7
                   try clear hfz41_0
                   try clear hfz41_1
                   try clear hfz41_2
                   try clear hfz41_3
                   try clear hfz41_4
                   try clear hfz41_5
                   try clear hfz41_6
                   try clear hfz41_7
                   try clear hfz4_0
                   try clear hfz4_1
                   try clear hfz4_2
                   try clear hfz4_3
                   try clear hfz4_4
                   try clear hfz4_5
                   try clear hfz4_6
                   try clear hfz4_7
                   try clear hfz9_0
                   try clear hfz9_1
                   try clear hfz9_2
                   try clear hfz9_3
                   try clear hfz9_4
                   try clear hfz9_5
                   try clear hfz9_6
                   try clear hfz9_7
                   try clear hx138_0
                   try clear p1
                   try clear p13
                   try clear p138
                   try clear p2
                   try clear p6
                   try clear q1
                   try clear q13
                   try clear q138
                   obtain ⟨kq, x5_37, rfl, HA, HJ37, BK136, HB⟩ := hcut
                   cases kq with
                   | zero => exact absurd HA.out (by simp [tallboyref15_Check.j9])
                   | succ kj37 =>
                    have H := HA.out
                    clear HA
                    simp only [tallboyref15_Check.j9] at H
                    have HC42 := Aside0.mk H
                    clear H
                    go_upto_if 97 with (fail)
                    go_cut [5] (fun v5 wc => ∃ (kq : Nat) (x5_41 : Bool), v5 = .bool x5_41 ∧ Aside0 (tallboyref15_Check.j10 kq a0_0 x5_41 a0_0 l0_1 a0_2 a0_3 a0_4 a0_5 a0_6 a0_7 = some r) ∧ Aside0 (kq ≤ kj37) ∧ Aside0 (wc.heap[gb136]? = some (.cells #[.int .i64 a0_0, (.slice A0_1 l0_1.length c0_1), .int .u32 a0_2, .int .i64 a0_3, .string a0_4, .int .u64 a0_5, .int .u64 a0_6, .bool a0_7] 30 (0, 0))) ∧ Aside0 (Below w.heap.size w wc))
                    case first =>
                     have H := HC42.out
                     clear HC42
                     by_cases c43 : a0_0 = 10
                     ·rw [if_pos c43] at H
                      have c43b0 : (a0_0 == 10) = true := beq_iff_eq.mpr c43
                      have c43b1 : (a0_0 != 10) = false := bne_eq_false_iff_eq.mpr c43
                      clear c43
                      (first | rw [c43b0] | (simp only [i64_w, i32_w]; rw [c43b0]) | skip)
                      have H' := Aside0.mk H
                      clear H
                      go_wp2
                      go_meet
                      case rel => exact ⟨_, (x5_37), (by first | rfl | (simp; done) | (simp [*]; done)), H', ⟨by have := HJ1.out; have := HJ7.out; have := HJ11.out; have := HJ13.out; have := HJ21.out; have := HJ25.out; have := HJ29.out; have := HJ33.out; have := HJ37.out; first | omega | exact Nat.le_refl _⟩, ⟨by (with_reducible repeat (first | refine blk_drewN ?_ _ | refine blk_drew ?_ | refine blk_alloc ?_ _)); exact BK136.out⟩, ⟨by repeat (first | (with_reducible first | exact HB.out | apply below_alloc | apply pw_below_drewN | apply below_drew1 | refine below_set ?_ GE136.out) | exact HB.out)⟩⟩
                     ·rw [if_neg c43] at H
                      have c43b0 : (a0_0 == 10) = false := beq_eq_false_iff_ne.mpr c43
                      have c43b1 : (a0_0 != 10) = true := bne_iff_ne.mpr c43
                      (first | rw [c43b0] | (simp only [i64_w, i32_w]; rw [c43b0]) | skip)
                      by_cases c44 : x5_37 = true
                      ·subst c44
                       have H1 : (tallboyref15_Check.j10 kj37 a0_0 (a0_5 == 0) a0_0 l0_1 a0_2 a0_3 a0_4 a0_5 a0_6 a0_7) = some r := by rw [if_pos rfl] at H; exact H
                       clear H
                       have H := H1
                       clear H1
                       have H' := Aside0.mk H
                       clear H
                       have hcz45_0 : wc.cell? ⟨gb136, 0, none⟩ = some (.int .i64 a0_0) := (blk_cell BK136.out 0).trans rfl
                       have hcz45_1 : wc.cell? ⟨gb136, 1, none⟩ = some (.slice A0_1 l0_1.length c0_1) := (blk_cell BK136.out 1).trans rfl
                       have hcz45_2 : wc.cell? ⟨gb136, 2, none⟩ = some (.int .u32 a0_2) := (blk_cell BK136.out 2).trans rfl
                       have hcz45_3 : wc.cell? ⟨gb136, 3, none⟩ = some (.int .i64 a0_3) := (blk_cell BK136.out 3).trans rfl
                       have hcz45_4 : wc.cell? ⟨gb136, 4, none⟩ = some (.string a0_4) := (blk_cell BK136.out 4).trans rfl
                       have hcz45_5 : wc.cell? ⟨gb136, 5, none⟩ = some (.int .u64 a0_5) := (blk_cell BK136.out 5).trans rfl
                       have hcz45_6 : wc.cell? ⟨gb136, 6, none⟩ = some (.int .u64 a0_6) := (blk_cell BK136.out 6).trans rfl
                       have hcz45_7 : wc.cell? ⟨gb136, 7, none⟩ = some (.bool a0_7) := (blk_cell BK136.out 7).trans rfl
                       have hfz45_0 := blk_frozen BK136.out 0
                       have hfz45_1 := blk_frozen BK136.out 1
                       have hfz45_2 := blk_frozen BK136.out 2
                       have hfz45_3 := blk_frozen BK136.out 3
                       have hfz45_4 := blk_frozen BK136.out 4
                       have hfz45_5 := blk_frozen BK136.out 5
                       have hfz45_6 := blk_frozen BK136.out 6
                       have hfz45_7 := blk_frozen BK136.out 7
                       go_wp2
                       go_meet
                       case rel => exact ⟨_, ((a0_5 == 0)), (by first | rfl | (simp; done) | (simp [*]; done)), H', ⟨by have := HJ1.out; have := HJ7.out; have := HJ11.out; have := HJ13.out; have := HJ21.out; have := HJ25.out; have := HJ29.out; have := HJ33.out; have := HJ37.out; first | omega | exact Nat.le_refl _⟩, ⟨by (with_reducible repeat (first | refine blk_drewN ?_ _ | refine blk_drew ?_ | refine blk_alloc ?_ _)); exact BK136.out⟩, ⟨by repeat (first | (with_reducible first | exact HB.out | apply below_alloc | apply pw_below_drewN | apply below_drew1 | refine below_set ?_ GE136.out) | exact HB.out)⟩⟩
                      ·replace c44 := Bool.eq_false_iff.mpr c44
                       subst c44
                       have H1 : (tallboyref15_Check.j10 kj37 a0_0 false a0_0 l0_1 a0_2 a0_3 a0_4 a0_5 a0_6 a0_7) = some r := by rw [if_neg (show ¬ (false = true) by decide)] at H; exact H
                       clear H
                       have H := H1
                       clear H1
                       have H' := Aside0.mk H
                       clear H
                       go_wp2
                       go_meet
                       case rel => exact ⟨_, (false), (by first | rfl | (simp; done) | (simp [*]; done)), H', ⟨by have := HJ1.out; have := HJ7.out; have := HJ11.out; have := HJ13.out; have := HJ21.out; have := HJ25.out; have := HJ29.out; have := HJ33.out; have := HJ37.out; first | omega | exact Nat.le_refl _⟩, ⟨by (with_reducible repeat (first | refine blk_drewN ?_ _ | refine blk_drew ?_ | refine blk_alloc ?_ _)); exact BK136.out⟩, ⟨by repeat (first | (with_reducible first | exact HB.out | apply below_alloc | apply pw_below_drewN | apply below_drew1 | refine below_set ?_ GE136.out) | exact HB.out)⟩⟩
                    case rest =>
                     clear HC42
                     try clear c1
                     try clear p1
                     try clear q1
                     try clear hx1
                     try clear c2
                     try clear p2
                     try clear c3
                     try clear c4
                     try clear c5
                     try clear c5b0
                     try clear c6
                     try clear p6
                     try clear c10
                     try clear c11
                     try clear c11b0
                     try clear c11b1
                     try clear c13
                     try clear c13b0
                     try clear c13b1
                     try clear p13
                     try clear q13
                     try clear hx13
                     try clear c15
                     try clear c15b0
                     try clear c16
                     try clear c17
                     try clear c17b0
                     try clear c18
                     try clear c18b0
                     try clear c19
                     try clear c23
                     try clear c24
                     try clear c28
                     try clear c29
                     try clear c29b0
                     try clear c29b1
                     try clear c31
                     try clear c32
                     try clear c33
                     try clear c35
                     try clear c36
                     try clear c36b0
                     try clear c36b1
                     try clear c37
                     try clear c37b0
                     try clear c37b1
                     try clear c39
                     try clear c40
                     try clear c43
                     try clear c43b0
                     try clear c43b1
                     try clear c44
                     try clear hcz20_0
                     try clear hcz20_1
                     try clear hcz20_2
                     try clear hcz20_3
                     try clear hcz20_4
                     try clear hcz20_5
                     try clear hcz20_6
                     try clear hcz20_7
                     try clear hcz25_0
                     try clear hcz25_1
                     try clear hcz25_2
                     try clear hcz25_3
                     try clear hcz25_4
                     try clear hcz25_5
                     try clear hcz25_6
                     try clear hcz25_7
                     try clear hcz33_0
                     try clear hcz33_1
                     try clear hcz33_2
                     try clear hcz33_3
                     try clear hcz33_4
                     try clear hcz33_5
                     try clear hcz33_6
                     try clear hcz33_7
                     try clear hcz41_0
                     try clear hcz41_1
                     try clear hcz41_2
                     try clear hcz41_3
                     try clear hcz41_4
                     try clear hcz41_5
                     try clear hcz41_6
                     try clear hcz41_7
                     try clear hcz45_0
                     try clear hcz45_1
                     try clear hcz45_2
                     try clear hcz45_3
                     try clear hcz45_4
                     try clear hcz45_5
                     try clear hcz45_6
                     try clear hcz45_7
                     try clear hcz4_0
                     try clear hcz4_1
                     try clear hcz4_2
                     try clear hcz4_3
                     try clear hcz4_4
                     try clear hcz4_5
                     try clear hcz4_6
                     try clear hcz4_7
                     try clear hcz9_0
                     try clear hcz9_1
                     try clear hcz9_2
                     try clear hcz9_3
                     try clear hcz9_4
                     try clear hcz9_5
                     try clear hcz9_6
                     try clear hcz9_7
                     try clear hfz20_0
                     try clear hfz20_1
                     try clear hfz20_2
                     try clear hfz20_3
                     try clear hfz20_4
                     try clear hfz20_5
                     try clear hfz20_6
                     try clear hfz20_7
                     try clear hfz25_0
                     try clear hfz25_1
                     try clear hfz25_2
                     try clear hfz25_3
                     try clear hfz25_4
                     try clear hfz25_5
                     try clear hfz25_6
                     try clear hfz25_7
                     try clear hfz33_0
                     try clear hfz33_1
                     try clear hfz33_2
                     try clear hfz33_3
                     try clear hfz33_4
                     try clear hfz33_5
                     try clear hfz33_6
                     try clear hfz33_7
                     try clear hfz41_0
                     try clear hfz41_1
                     try clear hfz41_2
                     try clear hfz41_3
                     try clear hfz41_4
                     try clear hfz41_5
                     try clear hfz41_6
                     try clear hfz41_7
                     try clear hfz45_0
                     try clear hfz45_1
                     try clear hfz45_2
                     try clear hfz45_3
                     try clear hfz45_4
                     try clear hfz45_5
                     try clear hfz45_6
                     try clear hfz45_7
                     try clear hfz4_0
                     try clear hfz4_1
                     try clear hfz4_2
                     try clear hfz4_3
                     try clear hfz4_4
                     try clear hfz4_5
                     try clear hfz4_6
                     try clear hfz4_7
                     try clear hfz9_0
                     try clear hfz9_1
                     try clear hfz9_2
                     try clear hfz9_3
                     try clear hfz9_4
                     try clear hfz9_5
                     try clear hfz9_6
                     try clear hfz9_7
                     try clear hx138_0
                     try clear p1
                     try clear p13
                     try clear p138
                     try clear p2
                     try clear p6
                     try clear q1
                     try clear q13
                     try clear q138
                     obtain ⟨kq, x5_41, rfl, HA, HJ41, BK136, HB⟩ := hcut
                     cases kq with
                     | zero => exact absurd HA.out (by simp [tallboyref15_Check.j10])
                     | succ kj41 =>
                      have H := HA.out
                      clear HA
                      simp only [tallboyref15_Check.j10] at H
                      have HC46 := Aside0.mk H
                      clear H
                      go_upto_region 24 with (fail)
                      go_cut [109] (fun v109 wc => ∃ (kq : Nat) (x109_45 : Bool), v109 = .bool x109_45 ∧ Aside0 (tallboyref15_Check.j11 kq a0_0 x5_41 x109_45 a0_0 l0_1 a0_2 a0_3 a0_4 a0_5 a0_6 a0_7 = some r) ∧ Aside0 (kq ≤ kj41) ∧ Aside0 (wc.heap[gb136]? = some (.cells #[.int .i64 a0_0, (.slice A0_1 l0_1.length c0_1), .int .u32 a0_2, .int .i64 a0_3, .string a0_4, .int .u64 a0_5, .int .u64 a0_6, .bool a0_7] 30 (0, 0))) ∧ Aside0 (Below w.heap.size w wc))
                      case first =>
                       have H := HC46.out
                       clear HC46
                       by_cases c47 : a0_0 = 12
                       ·rw [if_pos c47] at H
                        have c47b0 : (a0_0 == 12) = true := beq_iff_eq.mpr c47
                        have c47b1 : (a0_0 != 12) = false := bne_eq_false_iff_eq.mpr c47
                        clear c47
                        (first | rw [c47b0] | (simp only [i64_w, i32_w]; rw [c47b0]) | skip)
                        have H' := Aside0.mk H
                        clear H
                        go_wp2
                        go_meet
                        case rel => exact ⟨_, (false), (by first | rfl | (simp; done) | (simp [*]; done)), H', ⟨by have := HJ1.out; have := HJ7.out; have := HJ11.out; have := HJ13.out; have := HJ21.out; have := HJ25.out; have := HJ29.out; have := HJ33.out; have := HJ37.out; have := HJ41.out; first | omega | exact Nat.le_refl _⟩, ⟨by (with_reducible repeat (first | refine blk_drewN ?_ _ | refine blk_drew ?_ | refine blk_alloc ?_ _)); exact BK136.out⟩, ⟨by repeat (first | (with_reducible first | exact HB.out | apply below_alloc | apply pw_below_drewN | apply below_drew1 | refine below_set ?_ GE136.out) | exact HB.out)⟩⟩
                       ·rw [if_neg c47] at H
                        have c47b0 : (a0_0 == 12) = false := beq_eq_false_iff_ne.mpr c47
                        have c47b1 : (a0_0 != 12) = true := bne_iff_ne.mpr c47
                        (first | rw [c47b0] | (simp only [i64_w, i32_w]; rw [c47b0]) | skip)
                        have H' := Aside0.mk H
                        clear H
                        go_wp2
                        go_meet
                        case rel => exact ⟨_, ((a0_0 != 13)), (by first | rfl | (simp; done) | (simp [*]; done)), H', ⟨by have := HJ1.out; have := HJ7.out; have := HJ11.out; have := HJ13.out; have := HJ21.out; have := HJ25.out; have := HJ29.out; have := HJ33.out; have := HJ37.out; have := HJ41.out; first | omega | exact Nat.le_refl _⟩, ⟨by (with_reducible repeat (first | refine blk_drewN ?_ _ | refine blk_drew ?_ | refine blk_alloc ?_ _)); exact BK136.out⟩, ⟨by repeat (first | (with_reducible first | exact HB.out | apply below_alloc | apply pw_below_drewN | apply below_drew1 | refine below_set ?_ GE136.out) | exact HB.out)⟩⟩
                      case rest =>
                       clear HC46
                       try clear c1
                       try clear p1
                       try clear q1
                       try clear hx1
                       try clear c2
                       try clear p2
                       try clear c3
                       try clear c4
                       try clear c5
                       try clear c5b0
                       try clear c6
                       try clear p6
                       try clear c10
                       try clear c11
                       try clear c11b0
                       try clear c11b1
                       try clear c13
                       try clear c13b0
                       try clear c13b1
                       try clear p13
                       try clear q13
                       try clear hx13
                       try clear c15
                       try clear c15b0
                       try clear c16
                       try clear c17
                       try clear c17b0
                       try clear c18
                       try clear c18b0
                       try clear c19
                       try clear c23
                       try clear c24
                       try clear c28
                       try clear c29
                       try clear c29b0
                       try clear c29b1
                       try clear c31
                       try clear c32
                       try clear c33
                       try clear c35
                       try clear c36
                       try clear c36b0
                       try clear c36b1
                       try clear c37
                       try clear c37b0
                       try clear c37b1
                       try clear c39
                       try clear c40
                       try clear c43
                       try clear c43b0
                       try clear c43b1
                       try clear c44
                       try clear c47
                       try clear c47b0
                       try clear c47b1
                       try clear hcz20_0
                       try clear hcz20_1
                       try clear hcz20_2
                       try clear hcz20_3
                       try clear hcz20_4
                       try clear hcz20_5
                       try clear hcz20_6
                       try clear hcz20_7
                       try clear hcz25_0
                       try clear hcz25_1
                       try clear hcz25_2
                       try clear hcz25_3
                       try clear hcz25_4
                       try clear hcz25_5
                       try clear hcz25_6
                       try clear hcz25_7
                       try clear hcz33_0
                       try clear hcz33_1
                       try clear hcz33_2
                       try clear hcz33_3
                       try clear hcz33_4
                       try clear hcz33_5
                       try clear hcz33_6
                       try clear hcz33_7
                       try clear hcz41_0
                       try clear hcz41_1
                       try clear hcz41_2
                       try clear hcz41_3
                       try clear hcz41_4
                       try clear hcz41_5
                       try clear hcz41_6
                       try clear hcz41_7
                       try clear hcz45_0
                       try clear hcz45_1
                       try clear hcz45_2
                       try clear hcz45_3
                       try clear hcz45_4
                       try clear hcz45_5
                       try clear hcz45_6
                       try clear hcz45_7
                       try clear hcz4_0
                       try clear hcz4_1
                       try clear hcz4_2
                       try clear hcz4_3
                       try clear hcz4_4
                       try clear hcz4_5
                       try clear hcz4_6
                       try clear hcz4_7
                       try clear hcz9_0
                       try clear hcz9_1
                       try clear hcz9_2
                       try clear hcz9_3
                       try clear hcz9_4
                       try clear hcz9_5
                       try clear hcz9_6
                       try clear hcz9_7
                       try clear hfz20_0
                       try clear hfz20_1
                       try clear hfz20_2
                       try clear hfz20_3
                       try clear hfz20_4
                       try clear hfz20_5
                       try clear hfz20_6
                       try clear hfz20_7
                       try clear hfz25_0
                       try clear hfz25_1
                       try clear hfz25_2
                       try clear hfz25_3
                       try clear hfz25_4
                       try clear hfz25_5
                       try clear hfz25_6
                       try clear hfz25_7
                       try clear hfz33_0
                       try clear hfz33_1
                       try clear hfz33_2
                       try clear hfz33_3
                       try clear hfz33_4
                       try clear hfz33_5
                       try clear hfz33_6
                       try clear hfz33_7
                       try clear hfz41_0
                       try clear hfz41_1
                       try clear hfz41_2
                       try clear hfz41_3
                       try clear hfz41_4
                       try clear hfz41_5
                       try clear hfz41_6
                       try clear hfz41_7
                       try clear hfz45_0
                       try clear hfz45_1
                       try clear hfz45_2
                       try clear hfz45_3
                       try clear hfz45_4
                       try clear hfz45_5
                       try clear hfz45_6
                       try clear hfz45_7
                       try clear hfz4_0
                       try clear hfz4_1
                       try clear hfz4_2
                       try clear hfz4_3
                       try clear hfz4_4
                       try clear hfz4_5
                       try clear hfz4_6
                       try clear hfz4_7
                       try clear hfz9_0
                       try clear hfz9_1
                       try clear hfz9_2
                       try clear hfz9_3
                       try clear hfz9_4
                       try clear hfz9_5
                       try clear hfz9_6
                       try clear hfz9_7
                       try clear hx138_0
                       try clear p1
                       try clear p13
                       try clear p138
                       try clear p2
                       try clear p6
                       try clear q1
                       try clear q13
                       try clear q138
                       obtain ⟨kq, x109_45, rfl, HA, HJ45, BK136, HB⟩ := hcut
                       cases kq with
                       | zero => exact absurd HA.out (by simp [tallboyref15_Check.j11])
                       | succ kj45 =>
                        have H := HA.out
                        clear HA
                        simp only [tallboyref15_Check.j11] at H
                        have HC48 := Aside0.mk H
                        clear H
                        go_upto_if 109 with (fail)
                        go_cut [5] (fun v5 wc => ∃ (kq : Nat) (x5_47 : Bool), v5 = .bool x5_47 ∧ Aside0 (tallboyref15_Check.j12 kq a0_0 x5_47 a0_0 l0_1 a0_2 a0_3 a0_4 a0_5 a0_6 a0_7 = some r) ∧ Aside0 (kq ≤ kj45) ∧ Aside0 (wc.heap[gb136]? = some (.cells #[.int .i64 a0_0, (.slice A0_1 l0_1.length c0_1), .int .u32 a0_2, .int .i64 a0_3, .string a0_4, .int .u64 a0_5, .int .u64 a0_6, .bool a0_7] 30 (0, 0))) ∧ Aside0 (Below w.heap.size w wc))
                        case first =>
                         have H := HC48.out
                         clear HC48
                         by_cases c49 : x109_45 = true
                         ·subst c49
                          have H1 : (if x5_41 = true then (tallboyref15_Check.j12 kj45 a0_0 (a0_6 == 0) a0_0 l0_1 a0_2 a0_3 a0_4 a0_5 a0_6 a0_7) else (tallboyref15_Check.j12 kj45 a0_0 false a0_0 l0_1 a0_2 a0_3 a0_4 a0_5 a0_6 a0_7)) = some r := by rw [if_pos rfl] at H; exact H
                          clear H
                          have H := H1
                          clear H1
                          by_cases c50 : x5_41 = true
                          ·subst c50
                           have H1 : (tallboyref15_Check.j12 kj45 a0_0 (a0_6 == 0) a0_0 l0_1 a0_2 a0_3 a0_4 a0_5 a0_6 a0_7) = some r := by rw [if_pos rfl] at H; exact H
                           clear H
                           have H := H1
                           clear H1
                           have H' := Aside0.mk H
                           clear H
                           have hcz51_0 : wc.cell? ⟨gb136, 0, none⟩ = some (.int .i64 a0_0) := (blk_cell BK136.out 0).trans rfl
                           have hcz51_1 : wc.cell? ⟨gb136, 1, none⟩ = some (.slice A0_1 l0_1.length c0_1) := (blk_cell BK136.out 1).trans rfl
                           have hcz51_2 : wc.cell? ⟨gb136, 2, none⟩ = some (.int .u32 a0_2) := (blk_cell BK136.out 2).trans rfl
                           have hcz51_3 : wc.cell? ⟨gb136, 3, none⟩ = some (.int .i64 a0_3) := (blk_cell BK136.out 3).trans rfl
                           have hcz51_4 : wc.cell? ⟨gb136, 4, none⟩ = some (.string a0_4) := (blk_cell BK136.out 4).trans rfl
                           have hcz51_5 : wc.cell? ⟨gb136, 5, none⟩ = some (.int .u64 a0_5) := (blk_cell BK136.out 5).trans rfl
                           have hcz51_6 : wc.cell? ⟨gb136, 6, none⟩ = some (.int .u64 a0_6) := (blk_cell BK136.out 6).trans rfl
                           have hcz51_7 : wc.cell? ⟨gb136, 7, none⟩ = some (.bool a0_7) := (blk_cell BK136.out 7).trans rfl
                           have hfz51_0 := blk_frozen BK136.out 0
                           have hfz51_1 := blk_frozen BK136.out 1
                           have hfz51_2 := blk_frozen BK136.out 2
                           have hfz51_3 := blk_frozen BK136.out 3
                           have hfz51_4 := blk_frozen BK136.out 4
                           have hfz51_5 := blk_frozen BK136.out 5
                           have hfz51_6 := blk_frozen BK136.out 6
                           have hfz51_7 := blk_frozen BK136.out 7
                           go_wp2
                           go_meet
                           case rel => exact ⟨_, ((a0_6 == 0)), (by first | rfl | (simp; done) | (simp [*]; done)), H', ⟨by have := HJ1.out; have := HJ7.out; have := HJ11.out; have := HJ13.out; have := HJ21.out; have := HJ25.out; have := HJ29.out; have := HJ33.out; have := HJ37.out; have := HJ41.out; have := HJ45.out; first | omega | exact Nat.le_refl _⟩, ⟨by (with_reducible repeat (first | refine blk_drewN ?_ _ | refine blk_drew ?_ | refine blk_alloc ?_ _)); exact BK136.out⟩, ⟨by repeat (first | (with_reducible first | exact HB.out | apply below_alloc | apply pw_below_drewN | apply below_drew1 | refine below_set ?_ GE136.out) | exact HB.out)⟩⟩
                          ·replace c50 := Bool.eq_false_iff.mpr c50
                           subst c50
                           have H1 : (tallboyref15_Check.j12 kj45 a0_0 false a0_0 l0_1 a0_2 a0_3 a0_4 a0_5 a0_6 a0_7) = some r := by rw [if_neg (show ¬ (false = true) by decide)] at H; exact H
                           clear H
                           have H := H1
                           clear H1
                           have H' := Aside0.mk H
                           clear H
                           go_wp2
                           go_meet
                           case rel => exact ⟨_, (false), (by first | rfl | (simp; done) | (simp [*]; done)), H', ⟨by have := HJ1.out; have := HJ7.out; have := HJ11.out; have := HJ13.out; have := HJ21.out; have := HJ25.out; have := HJ29.out; have := HJ33.out; have := HJ37.out; have := HJ41.out; have := HJ45.out; first | omega | exact Nat.le_refl _⟩, ⟨by (with_reducible repeat (first | refine blk_drewN ?_ _ | refine blk_drew ?_ | refine blk_alloc ?_ _)); exact BK136.out⟩, ⟨by repeat (first | (with_reducible first | exact HB.out | apply below_alloc | apply pw_below_drewN | apply below_drew1 | refine below_set ?_ GE136.out) | exact HB.out)⟩⟩
                         ·replace c49 := Bool.eq_false_iff.mpr c49
                          subst c49
                          have H1 : (tallboyref15_Check.j12 kj45 a0_0 x5_41 a0_0 l0_1 a0_2 a0_3 a0_4 a0_5 a0_6 a0_7) = some r := by rw [if_neg (show ¬ (false = true) by decide)] at H; exact H
                          clear H
                          have H := H1
                          clear H1
                          have H' := Aside0.mk H
                          clear H
                          go_wp2
                          go_meet
                          case rel => exact ⟨_, (x5_41), (by first | rfl | (simp; done) | (simp [*]; done)), H', ⟨by have := HJ1.out; have := HJ7.out; have := HJ11.out; have := HJ13.out; have := HJ21.out; have := HJ25.out; have := HJ29.out; have := HJ33.out; have := HJ37.out; have := HJ41.out; have := HJ45.out; first | omega | exact Nat.le_refl _⟩, ⟨by (with_reducible repeat (first | refine blk_drewN ?_ _ | refine blk_drew ?_ | refine blk_alloc ?_ _)); exact BK136.out⟩, ⟨by repeat (first | (with_reducible first | exact HB.out | apply below_alloc | apply pw_below_drewN | apply below_drew1 | refine below_set ?_ GE136.out) | exact HB.out)⟩⟩
                        case rest =>
                         clear HC48
                         try clear c1
                         try clear p1
                         try clear q1
                         try clear hx1
                         try clear c2
                         try clear p2
                         try clear c3
                         try clear c4
                         try clear c5
                         try clear c5b0
                         try clear c6
                         try clear p6
                         try clear c10
                         try clear c11
                         try clear c11b0
                         try clear c11b1
                         try clear c13
                         try clear c13b0
                         try clear c13b1
                         try clear p13
                         try clear q13
                         try clear hx13
                         try clear c15
                         try clear c15b0
                         try clear c16
                         try clear c17
                         try clear c17b0
                         try clear c18
                         try clear c18b0
                         try clear c19
                         try clear c23
                         try clear c24
                         try clear c28
                         try clear c29
                         try clear c29b0
                         try clear c29b1
                         try clear c31
                         try clear c32
                         try clear c33
                         try clear c35
                         try clear c36
                         try clear c36b0
                         try clear c36b1
                         try clear c37
                         try clear c37b0
                         try clear c37b1
                         try clear c39
                         try clear c40
                         try clear c43
                         try clear c43b0
                         try clear c43b1
                         try clear c44
                         try clear c47
                         try clear c47b0
                         try clear c47b1
                         try clear c49
                         try clear c50
                         try clear hcz20_0
                         try clear hcz20_1
                         try clear hcz20_2
                         try clear hcz20_3
                         try clear hcz20_4
                         try clear hcz20_5
                         try clear hcz20_6
                         try clear hcz20_7
                         try clear hcz25_0
                         try clear hcz25_1
                         try clear hcz25_2
                         try clear hcz25_3
                         try clear hcz25_4
                         try clear hcz25_5
                         try clear hcz25_6
                         try clear hcz25_7
                         try clear hcz33_0
                         try clear hcz33_1
                         try clear hcz33_2
                         try clear hcz33_3
                         try clear hcz33_4
                         try clear hcz33_5
                         try clear hcz33_6
                         try clear hcz33_7
                         try clear hcz41_0
                         try clear hcz41_1
                         try clear hcz41_2
                         try clear hcz41_3
                         try clear hcz41_4
                         try clear hcz41_5
                         try clear hcz41_6
                         try clear hcz41_7
                         try clear hcz45_0
                         try clear hcz45_1
                         try clear hcz45_2
                         try clear hcz45_3
                         try clear hcz45_4
                         try clear hcz45_5
                         try clear hcz45_6
                         try clear hcz45_7
                         try clear hcz4_0
                         try clear hcz4_1
                         try clear hcz4_2
                         try clear hcz4_3
                         try clear hcz4_4
                         try clear hcz4_5
                         try clear hcz4_6
                         try clear hcz4_7
                         try clear hcz51_0
                         try clear hcz51_1
                         try clear hcz51_2
                         try clear hcz51_3
                         try clear hcz51_4
                         try clear hcz51_5
                         try clear hcz51_6
                         try clear hcz51_7
                         try clear hcz9_0
                         try clear hcz9_1
                         try clear hcz9_2
                         try clear hcz9_3
                         try clear hcz9_4
                         try clear hcz9_5
                         try clear hcz9_6
                         try clear hcz9_7
                         try clear hfz20_0
                         try clear hfz20_1
                         try clear hfz20_2
                         try clear hfz20_3
                         try clear hfz20_4
                         try clear hfz20_5
                         try clear hfz20_6
                         try clear hfz20_7
                         try clear hfz25_0
                         try clear hfz25_1
                         try clear hfz25_2
                         try clear hfz25_3
                         try clear hfz25_4
                         try clear hfz25_5
                         try clear hfz25_6
                         try clear hfz25_7
                         try clear hfz33_0
                         try clear hfz33_1
                         try clear hfz33_2
                         try clear hfz33_3
                         try clear hfz33_4
                         try clear hfz33_5
                         try clear hfz33_6
                         try clear hfz33_7
                         try clear hfz41_0
                         try clear hfz41_1
                         try clear hfz41_2
                         try clear hfz41_3
                         try clear hfz41_4
                         try clear hfz41_5
                         try clear hfz41_6
                         try clear hfz41_7
                         try clear hfz45_0
                         try clear hfz45_1
                         try clear hfz45_2
                         try clear hfz45_3
                         try clear hfz45_4
                         try clear hfz45_5
                         try clear hfz45_6
                         try clear hfz45_7
                         try clear hfz4_0
                         try clear hfz4_1
                         try clear hfz4_2
                         try clear hfz4_3
                         try clear hfz4_4
                         try clear hfz4_5
                         try clear hfz4_6
                         try clear hfz4_7
                         try clear hfz51_0
                         try clear hfz51_1
                         try clear hfz51_2
                         try clear hfz51_3
                         try clear hfz51_4
                         try clear hfz51_5
                         try clear hfz51_6
                         try clear hfz51_7
                         try clear hfz9_0
                         try clear hfz9_1
                         try clear hfz9_2
                         try clear hfz9_3
                         try clear hfz9_4
                         try clear hfz9_5
                         try clear hfz9_6
                         try clear hfz9_7
                         try clear hx138_0
                         try clear p1
                         try clear p13
                         try clear p138
                         try clear p2
                         try clear p6
                         try clear q1
                         try clear q13
                         try clear q138
                         obtain ⟨kq, x5_47, rfl, HA, HJ47, BK136, HB⟩ := hcut
                         cases kq with
                         | zero => exact absurd HA.out (by simp [tallboyref15_Check.j12])
                         | succ kj47 =>
                          have H := HA.out
                          clear HA
                          simp only [tallboyref15_Check.j12] at H
                          replace H := Option.bind_eq_some_iff.mp H
                          obtain ⟨t142, A520, H⟩ := H
                          replace H : (if t142 = true then (if x5_47 = true then (tallboyref15_Check.j13 kj47 (!a0_7) a0_0 l0_1 a0_2 a0_3 a0_4 a0_5 a0_6 a0_7) else (tallboyref15_Check.j13 kj47 false a0_0 l0_1 a0_2 a0_3 a0_4 a0_5 a0_6 a0_7)) else (tallboyref15_Check.j13 kj47 x5_47 a0_0 l0_1 a0_2 a0_3 a0_4 a0_5 a0_6 a0_7)) = some r := H
                          have A52 := Aside0.mk A520
                          clear A520
                          have HC53 := Aside0.mk H
                          clear H
                          go_upto_if 117 with (first | ((with_reducible refine gate_callee (f := 24) rfl ?_); refine goesL_ (some 117) rfl rfl Try.func24 (by kernel_rfl) rfl #[.int .i64 a0_0] rfl (by (try simp only [List.map_toArray, List.map_cons, List.map_nil]); first | done | rfl | (simp only [List.length_drop, List.length_take]; rfl)) ?_; (with_reducible refine (tallboyref15_Reads.calls a0_0 t142 _ A52.out).mono ?_); rintro e w' ⟨rfl, ⟨nd, rfl⟩⟩; refine ⟨_, rfl, ?_⟩))
                          (try simp only [Act.put, List.setIfInBounds_toArray, List.set_cons_zero, List.set_cons_succ])
                          go_cut [5] (fun v5 wc => ∃ (kq : Nat) (x5_52 : Bool), v5 = .bool x5_52 ∧ Aside0 (tallboyref15_Check.j13 kq x5_52 a0_0 l0_1 a0_2 a0_3 a0_4 a0_5 a0_6 a0_7 = some r) ∧ Aside0 (kq ≤ kj47) ∧ Aside0 (wc.heap[gb136]? = some (.cells #[.int .i64 a0_0, (.slice A0_1 l0_1.length c0_1), .int .u32 a0_2, .int .i64 a0_3, .string a0_4, .int .u64 a0_5, .int .u64 a0_6, .bool a0_7] 30 (0, 0))) ∧ Aside0 (Below w.heap.size w wc))
                          case first =>
                           have H := HC53.out
                           clear HC53
                           by_cases c54 : t142 = true
                           ·subst c54
                            have H1 : (if x5_47 = true then (tallboyref15_Check.j13 kj47 (!a0_7) a0_0 l0_1 a0_2 a0_3 a0_4 a0_5 a0_6 a0_7) else (tallboyref15_Check.j13 kj47 false a0_0 l0_1 a0_2 a0_3 a0_4 a0_5 a0_6 a0_7)) = some r := by rw [if_pos rfl] at H; exact H
                            clear H
                            have H := H1
                            clear H1
                            by_cases c55 : x5_47 = true
                            ·subst c55
                             have H1 : (tallboyref15_Check.j13 kj47 (!a0_7) a0_0 l0_1 a0_2 a0_3 a0_4 a0_5 a0_6 a0_7) = some r := by rw [if_pos rfl] at H; exact H
                             clear H
                             have H := H1
                             clear H1
                             have H' := Aside0.mk H
                             clear H
                             have hcz56_0 : wc.cell? ⟨gb136, 0, none⟩ = some (.int .i64 a0_0) := (blk_cell BK136.out 0).trans rfl
                             have hcz56_1 : wc.cell? ⟨gb136, 1, none⟩ = some (.slice A0_1 l0_1.length c0_1) := (blk_cell BK136.out 1).trans rfl
                             have hcz56_2 : wc.cell? ⟨gb136, 2, none⟩ = some (.int .u32 a0_2) := (blk_cell BK136.out 2).trans rfl
                             have hcz56_3 : wc.cell? ⟨gb136, 3, none⟩ = some (.int .i64 a0_3) := (blk_cell BK136.out 3).trans rfl
                             have hcz56_4 : wc.cell? ⟨gb136, 4, none⟩ = some (.string a0_4) := (blk_cell BK136.out 4).trans rfl
                             have hcz56_5 : wc.cell? ⟨gb136, 5, none⟩ = some (.int .u64 a0_5) := (blk_cell BK136.out 5).trans rfl
                             have hcz56_6 : wc.cell? ⟨gb136, 6, none⟩ = some (.int .u64 a0_6) := (blk_cell BK136.out 6).trans rfl
                             have hcz56_7 : wc.cell? ⟨gb136, 7, none⟩ = some (.bool a0_7) := (blk_cell BK136.out 7).trans rfl
                             have hfz56_0 := blk_frozen BK136.out 0
                             have hfz56_1 := blk_frozen BK136.out 1
                             have hfz56_2 := blk_frozen BK136.out 2
                             have hfz56_3 := blk_frozen BK136.out 3
                             have hfz56_4 := blk_frozen BK136.out 4
                             have hfz56_5 := blk_frozen BK136.out 5
                             have hfz56_6 := blk_frozen BK136.out 6
                             have hfz56_7 := blk_frozen BK136.out 7
                             go_wp2
                             go_meet
                             case rel => exact ⟨_, (!a0_7), (by first | rfl | (simp; done) | (simp [*]; done)), H', ⟨by have := HJ1.out; have := HJ7.out; have := HJ11.out; have := HJ13.out; have := HJ21.out; have := HJ25.out; have := HJ29.out; have := HJ33.out; have := HJ37.out; have := HJ41.out; have := HJ45.out; have := HJ47.out; first | omega | exact Nat.le_refl _⟩, ⟨by (with_reducible repeat (first | refine blk_drewN ?_ _ | refine blk_drew ?_ | refine blk_alloc ?_ _)); exact BK136.out⟩, ⟨by repeat (first | (with_reducible first | exact HB.out | apply below_alloc | apply pw_below_drewN | apply below_drew1 | refine below_set ?_ GE136.out) | exact HB.out)⟩⟩
                            ·replace c55 := Bool.eq_false_iff.mpr c55
                             subst c55
                             have H1 : (tallboyref15_Check.j13 kj47 false a0_0 l0_1 a0_2 a0_3 a0_4 a0_5 a0_6 a0_7) = some r := by rw [if_neg (show ¬ (false = true) by decide)] at H; exact H
                             clear H
                             have H := H1
                             clear H1
                             have H' := Aside0.mk H
                             clear H
                             go_wp2
                             go_meet
                             case rel => exact ⟨_, (false), (by first | rfl | (simp; done) | (simp [*]; done)), H', ⟨by have := HJ1.out; have := HJ7.out; have := HJ11.out; have := HJ13.out; have := HJ21.out; have := HJ25.out; have := HJ29.out; have := HJ33.out; have := HJ37.out; have := HJ41.out; have := HJ45.out; have := HJ47.out; first | omega | exact Nat.le_refl _⟩, ⟨by (with_reducible repeat (first | refine blk_drewN ?_ _ | refine blk_drew ?_ | refine blk_alloc ?_ _)); exact BK136.out⟩, ⟨by repeat (first | (with_reducible first | exact HB.out | apply below_alloc | apply pw_below_drewN | apply below_drew1 | refine below_set ?_ GE136.out) | exact HB.out)⟩⟩
                           ·replace c54 := Bool.eq_false_iff.mpr c54
                            subst c54
                            have H1 : (tallboyref15_Check.j13 kj47 x5_47 a0_0 l0_1 a0_2 a0_3 a0_4 a0_5 a0_6 a0_7) = some r := by rw [if_neg (show ¬ (false = true) by decide)] at H; exact H
                            clear H
                            have H := H1
                            clear H1
                            have H' := Aside0.mk H
                            clear H
                            go_wp2
                            go_meet
                            case rel => exact ⟨_, (x5_47), (by first | rfl | (simp; done) | (simp [*]; done)), H', ⟨by have := HJ1.out; have := HJ7.out; have := HJ11.out; have := HJ13.out; have := HJ21.out; have := HJ25.out; have := HJ29.out; have := HJ33.out; have := HJ37.out; have := HJ41.out; have := HJ45.out; have := HJ47.out; first | omega | exact Nat.le_refl _⟩, ⟨by (with_reducible repeat (first | refine blk_drewN ?_ _ | refine blk_drew ?_ | refine blk_alloc ?_ _)); exact BK136.out⟩, ⟨by repeat (first | (with_reducible first | exact HB.out | apply below_alloc | apply pw_below_drewN | apply below_drew1 | refine below_set ?_ GE136.out) | exact HB.out)⟩⟩
                          case rest =>
                           clear HC53
                           try clear c1
                           try clear p1
                           try clear q1
                           try clear hx1
                           try clear c2
                           try clear p2
                           try clear c3
                           try clear c4
                           try clear c5
                           try clear c5b0
                           try clear c6
                           try clear p6
                           try clear c10
                           try clear c11
                           try clear c11b0
                           try clear c11b1
                           try clear c13
                           try clear c13b0
                           try clear c13b1
                           try clear p13
                           try clear q13
                           try clear hx13
                           try clear c15
                           try clear c15b0
                           try clear c16
                           try clear c17
                           try clear c17b0
                           try clear c18
                           try clear c18b0
                           try clear c19
                           try clear c23
                           try clear c24
                           try clear c28
                           try clear c29
                           try clear c29b0
                           try clear c29b1
                           try clear c31
                           try clear c32
                           try clear c33
                           try clear c35
                           try clear c36
                           try clear c36b0
                           try clear c36b1
                           try clear c37
                           try clear c37b0
                           try clear c37b1
                           try clear c39
                           try clear c40
                           try clear c43
                           try clear c43b0
                           try clear c43b1
                           try clear c44
                           try clear c47
                           try clear c47b0
                           try clear c47b1
                           try clear c49
                           try clear c50
                           try clear c54
                           try clear c55
                           try clear hcz20_0
                           try clear hcz20_1
                           try clear hcz20_2
                           try clear hcz20_3
                           try clear hcz20_4
                           try clear hcz20_5
                           try clear hcz20_6
                           try clear hcz20_7
                           try clear hcz25_0
                           try clear hcz25_1
                           try clear hcz25_2
                           try clear hcz25_3
                           try clear hcz25_4
                           try clear hcz25_5
                           try clear hcz25_6
                           try clear hcz25_7
                           try clear hcz33_0
                           try clear hcz33_1
                           try clear hcz33_2
                           try clear hcz33_3
                           try clear hcz33_4
                           try clear hcz33_5
                           try clear hcz33_6
                           try clear hcz33_7
                           try clear hcz41_0
                           try clear hcz41_1
                           try clear hcz41_2
                           try clear hcz41_3
                           try clear hcz41_4
                           try clear hcz41_5
                           try clear hcz41_6
                           try clear hcz41_7
                           try clear hcz45_0
                           try clear hcz45_1
                           try clear hcz45_2
                           try clear hcz45_3
                           try clear hcz45_4
                           try clear hcz45_5
                           try clear hcz45_6
                           try clear hcz45_7
                           try clear hcz4_0
                           try clear hcz4_1
                           try clear hcz4_2
                           try clear hcz4_3
                           try clear hcz4_4
                           try clear hcz4_5
                           try clear hcz4_6
                           try clear hcz4_7
                           try clear hcz51_0
                           try clear hcz51_1
                           try clear hcz51_2
                           try clear hcz51_3
                           try clear hcz51_4
                           try clear hcz51_5
                           try clear hcz51_6
                           try clear hcz51_7
                           try clear hcz56_0
                           try clear hcz56_1
                           try clear hcz56_2
                           try clear hcz56_3
                           try clear hcz56_4
                           try clear hcz56_5
                           try clear hcz56_6
                           try clear hcz56_7
                           try clear hcz9_0
                           try clear hcz9_1
                           try clear hcz9_2
                           try clear hcz9_3
                           try clear hcz9_4
                           try clear hcz9_5
                           try clear hcz9_6
                           try clear hcz9_7
                           try clear hfz20_0
                           try clear hfz20_1
                           try clear hfz20_2
                           try clear hfz20_3
                           try clear hfz20_4
                           try clear hfz20_5
                           try clear hfz20_6
                           try clear hfz20_7
                           try clear hfz25_0
                           try clear hfz25_1
                           try clear hfz25_2
                           try clear hfz25_3
                           try clear hfz25_4
                           try clear hfz25_5
                           try clear hfz25_6
                           try clear hfz25_7
                           try clear hfz33_0
                           try clear hfz33_1
                           try clear hfz33_2
                           try clear hfz33_3
                           try clear hfz33_4
                           try clear hfz33_5
                           try clear hfz33_6
                           try clear hfz33_7
                           try clear hfz41_0
                           try clear hfz41_1
                           try clear hfz41_2
                           try clear hfz41_3
                           try clear hfz41_4
                           try clear hfz41_5
                           try clear hfz41_6
                           try clear hfz41_7
                           try clear hfz45_0
                           try clear hfz45_1
                           try clear hfz45_2
                           try clear hfz45_3
                           try clear hfz45_4
                           try clear hfz45_5
                           try clear hfz45_6
                           try clear hfz45_7
                           try clear hfz4_0
                           try clear hfz4_1
                           try clear hfz4_2
                           try clear hfz4_3
                           try clear hfz4_4
                           try clear hfz4_5
                           try clear hfz4_6
                           try clear hfz4_7
                           try clear hfz51_0
                           try clear hfz51_1
                           try clear hfz51_2
                           try clear hfz51_3
                           try clear hfz51_4
                           try clear hfz51_5
                           try clear hfz51_6
                           try clear hfz51_7
                           try clear hfz56_0
                           try clear hfz56_1
                           try clear hfz56_2
                           try clear hfz56_3
                           try clear hfz56_4
                           try clear hfz56_5
                           try clear hfz56_6
                           try clear hfz56_7
                           try clear hfz9_0
                           try clear hfz9_1
                           try clear hfz9_2
                           try clear hfz9_3
                           try clear hfz9_4
                           try clear hfz9_5
                           try clear hfz9_6
                           try clear hfz9_7
                           try clear hx138_0
                           try clear p1
                           try clear p13
                           try clear p138
                           try clear p2
                           try clear p6
                           try clear q1
                           try clear q13
                           try clear q138
                           obtain ⟨kq, x5_52, rfl, HA, HJ52, BK136, HB⟩ := hcut
                           cases kq with
                           | zero => exact absurd HA.out (by simp [tallboyref15_Check.j13])
                           | succ kj52 =>
                            have H := HA.out
                            clear HA
                            simp only [tallboyref15_Check.j13] at H
                            by_cases c57 : x5_52 = true
                            ·subst c57
                             have H1 : (if (a0_4.size : Int) > 2000 then (some 7) else (some 0)) = some r := by rw [if_pos rfl] at H; exact H
                             clear H
                             have H := H1
                             clear H1
                             by_cases c58 : (a0_4.size : Int) > 2000
                             ·rw [if_pos c58] at H
                              have c58b0 : decide (2000 < (a0_4.size : Int)) = true := decide_eq_true c58
                              have c58b1 : decide (2000 < a0_4.size) = true := decide_eq_true (by omega)
                              clear c58
                              obtain rfl := Option.some.inj H
                              have hcz59_0 : wc.cell? ⟨gb136, 0, none⟩ = some (.int .i64 a0_0) := (blk_cell BK136.out 0).trans rfl
                              have hcz59_1 : wc.cell? ⟨gb136, 1, none⟩ = some (.slice A0_1 l0_1.length c0_1) := (blk_cell BK136.out 1).trans rfl
                              have hcz59_2 : wc.cell? ⟨gb136, 2, none⟩ = some (.int .u32 a0_2) := (blk_cell BK136.out 2).trans rfl
                              have hcz59_3 : wc.cell? ⟨gb136, 3, none⟩ = some (.int .i64 a0_3) := (blk_cell BK136.out 3).trans rfl
                              have hcz59_4 : wc.cell? ⟨gb136, 4, none⟩ = some (.string a0_4) := (blk_cell BK136.out 4).trans rfl
                              have hcz59_5 : wc.cell? ⟨gb136, 5, none⟩ = some (.int .u64 a0_5) := (blk_cell BK136.out 5).trans rfl
                              have hcz59_6 : wc.cell? ⟨gb136, 6, none⟩ = some (.int .u64 a0_6) := (blk_cell BK136.out 6).trans rfl
                              have hcz59_7 : wc.cell? ⟨gb136, 7, none⟩ = some (.bool a0_7) := (blk_cell BK136.out 7).trans rfl
                              have hfz59_0 := blk_frozen BK136.out 0
                              have hfz59_1 := blk_frozen BK136.out 1
                              have hfz59_2 := blk_frozen BK136.out 2
                              have hfz59_3 := blk_frozen BK136.out 3
                              have hfz59_4 := blk_frozen BK136.out 4
                              have hfz59_5 := blk_frozen BK136.out 5
                              have hfz59_6 := blk_frozen BK136.out 6
                              have hfz59_7 := blk_frozen BK136.out 7
                              go_wp2
                              go_ret
                              exact ⟨by first | rfl | (simp [errW_none, errW_some] <;> rfl) | (simp [*, errW_none, errW_some] <;> rfl), by repeat (first | (with_reducible first | exact HB.out | apply below_alloc | apply pw_below_drewN | apply below_drew1 | refine below_set ?_ GE136.out) | exact HB.out)⟩
                             ·rw [if_neg c58] at H
                              have c58b0 : decide (2000 < (a0_4.size : Int)) = false := decide_eq_false c58
                              have c58b1 : decide (2000 < a0_4.size) = false := decide_eq_false (by omega)
                              clear c58
                              obtain rfl := Option.some.inj H
                              have hcz60_0 : wc.cell? ⟨gb136, 0, none⟩ = some (.int .i64 a0_0) := (blk_cell BK136.out 0).trans rfl
                              have hcz60_1 : wc.cell? ⟨gb136, 1, none⟩ = some (.slice A0_1 l0_1.length c0_1) := (blk_cell BK136.out 1).trans rfl
                              have hcz60_2 : wc.cell? ⟨gb136, 2, none⟩ = some (.int .u32 a0_2) := (blk_cell BK136.out 2).trans rfl
                              have hcz60_3 : wc.cell? ⟨gb136, 3, none⟩ = some (.int .i64 a0_3) := (blk_cell BK136.out 3).trans rfl
                              have hcz60_4 : wc.cell? ⟨gb136, 4, none⟩ = some (.string a0_4) := (blk_cell BK136.out 4).trans rfl
                              have hcz60_5 : wc.cell? ⟨gb136, 5, none⟩ = some (.int .u64 a0_5) := (blk_cell BK136.out 5).trans rfl
                              have hcz60_6 : wc.cell? ⟨gb136, 6, none⟩ = some (.int .u64 a0_6) := (blk_cell BK136.out 6).trans rfl
                              have hcz60_7 : wc.cell? ⟨gb136, 7, none⟩ = some (.bool a0_7) := (blk_cell BK136.out 7).trans rfl
                              have hfz60_0 := blk_frozen BK136.out 0
                              have hfz60_1 := blk_frozen BK136.out 1
                              have hfz60_2 := blk_frozen BK136.out 2
                              have hfz60_3 := blk_frozen BK136.out 3
                              have hfz60_4 := blk_frozen BK136.out 4
                              have hfz60_5 := blk_frozen BK136.out 5
                              have hfz60_6 := blk_frozen BK136.out 6
                              have hfz60_7 := blk_frozen BK136.out 7
                              go_wp2
                              go_ret
                              exact ⟨by first | rfl | (simp [errW_none, errW_some] <;> rfl) | (simp [*, errW_none, errW_some] <;> rfl), by repeat (first | (with_reducible first | exact HB.out | apply below_alloc | apply pw_below_drewN | apply below_drew1 | refine below_set ?_ GE136.out) | exact HB.out)⟩
                            ·replace c57 := Bool.eq_false_iff.mpr c57
                             subst c57
                             have H1 : (some 6) = some r := by rw [if_neg (show ¬ (false = true) by decide)] at H; exact H
                             clear H
                             have H := H1
                             clear H1
                             obtain rfl := Option.some.inj H
                             go_wp2
                             go_ret
                             exact ⟨by first | rfl | (simp [errW_none, errW_some] <;> rfl) | (simp [*, errW_none, errW_some] <;> rfl), by repeat (first | (with_reducible first | exact HB.out | apply below_alloc | apply pw_below_drewN | apply below_drew1 | refine below_set ?_ GE136.out) | exact HB.out)⟩

end Go.Proofs.Ytmogojefpjmhkaa.P
