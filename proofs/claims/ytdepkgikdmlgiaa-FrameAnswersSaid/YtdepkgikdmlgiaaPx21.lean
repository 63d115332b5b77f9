/- Lean functions for the Go functions that the laws of this seat use, and the proofs that the Go code computes them; conditions: the readings that each theorem names. Written by a program. -/
import Derived.Test.YtdepkgikdmlgiaaPx0
import Derived.Test.YtdepkgikdmlgiaaPx1
import Derived.Test.YtdepkgikdmlgiaaPx3
import Derived.Test.YtdepkgikdmlgiaaPx5
import Derived.Test.YtdepkgikdmlgiaaPx11
import Derived.Test.YtdepkgikdmlgiaaPx13
import Derived.Test.YtdepkgikdmlgiaaPx14
import Derived.Test.YtdepkgikdmlgiaaPx16
import Derived.Test.YtdepkgikdmlgiaaPx18
import Derived.Test.YtdepkgikdmlgiaaPx20
import Derived.Test.YtdepkgikdmlgiaaShort
namespace Go.Proofs.Ytdepkgikdmlgiaa.P
open Go.RowKit Go.Proofs.YtdepkgikdmlgiaaW.PrintWords Go.Proofs.YtdepkgikdmlgiaaW.PrintLast Go.Proofs.YtdepkgikdmlgiaaW.PrintMore
set_option linter.unusedVariables false
set_option linter.unusedSimpArgs false

attribute [local go_sem high] eqA26
/-! ### tallboylaw29_FrameAnswers: function 5 -/
def tallboylaw29_FrameAnswers.j0 : Nat → Int → Int → Bool → Bool → Int → Int → Int → Int → ByteArray → ByteArray → ByteArray → Int → List (S97) → Int → Option (Bool)
 | 0, _, _, _, _, _, _, _, _, _, _, _, _, _, _ => none
 | k + 1, x2, x3, x18, x268000, x268001, x268002, x268003, x268004, x268005, x268006, x268007, x269000, x269001, x269002 => if x18 = true then (some true) else ((tallboylaw29_To.f x268000 x268001 x268002 x268003 x268004 x268005 x268006 x268007).bind fun bt271 => ((tallboylaw18_To.f k x269000 x269001 x269002).bind fun bt279 => ((frame_Reply.f k bt271.1 bt271.2.1 bt271.2.2.1 bt271.2.2.2.1 bt271.2.2.2.2.1 bt271.2.2.2.2.2.1 bt271.2.2.2.2.2.2.1 bt271.2.2.2.2.2.2.2 bt279.1 bt279.2.1 bt279.2.2 x2).bind fun bt284 => ((tallboyref29_Reply.f k x268000 x268001 x268002 x268003 x268004 x268005 x268006 x268007 x269000 x269001 x269002 x2).bind fun bt294 => ((tallboylaw29_From.f bt284.1 bt284.2.1 bt284.2.2.1 bt284.2.2.2.1 bt284.2.2.2.2.1 bt284.2.2.2.2.2.1 bt284.2.2.2.2.2.2.1 bt284.2.2.2.2.2.2.2.1).bind fun bt304 => (if (bt304.1 == bt294.1 && (bt304.2.1 == bt294.2.1 && (bt304.2.2.1 == bt294.2.2.1 && (bt304.2.2.2.1 == bt294.2.2.2.1 && (bt304.2.2.2.2.1 == bt294.2.2.2.2.1 && (bt304.2.2.2.2.2.1.toList == bt294.2.2.2.2.2.1.toList && (bt304.2.2.2.2.2.2.1.toList == bt294.2.2.2.2.2.2.1.toList && (bt304.2.2.2.2.2.2.2.toList == bt294.2.2.2.2.2.2.2.1.toList)))))))) = true then (if (bt284.2.2.2.2.2.2.2.2 == bt294.2.2.2.2.2.2.2.2) = true then ((tallboylaw29_To.f x268000 x268001 x268002 x268003 x268004 x268005 x268006 x268007).bind fun bt312 => ((frame_Refuse.f k bt312.1 bt312.2.1 bt312.2.2.1 bt312.2.2.2.1 bt312.2.2.2.2.1 bt312.2.2.2.2.2.1 bt312.2.2.2.2.2.2.1 bt312.2.2.2.2.2.2.2 x3).bind fun bt320 => ((tallboylaw29_From.f bt320.1 bt320.2.1 bt320.2.2.1 bt320.2.2.2.1 bt320.2.2.2.2.1 bt320.2.2.2.2.2.1 bt320.2.2.2.2.2.2.1 bt320.2.2.2.2.2.2.2).bind fun bt328 => ((tallboyref29_Refuse.f k x268000 x268001 x268002 x268003 x268004 x268005 x268006 x268007 x3).bind fun bt336 => (some (bt328.1 == bt336.1 && (bt328.2.1 == bt336.2.1 && (bt328.2.2.1 == bt336.2.2.1 && (bt328.2.2.2.1 == bt336.2.2.2.1 && (bt328.2.2.2.2.1 == bt336.2.2.2.2.1 && (bt328.2.2.2.2.2.1.toList == bt336.2.2.2.2.2.1.toList && (bt328.2.2.2.2.2.2.1.toList == bt336.2.2.2.2.2.2.1.toList && (bt328.2.2.2.2.2.2.2.toList == bt336.2.2.2.2.2.2.2.toList))))))))))))) else (none)) else (none)))))))
def tallboylaw29_FrameAnswers.f (k : Nat) (a0_0 : Bool) (a0_1 : Int) (a0_2 : Int) (a0_3 : Int) (a0_4 : Int) (a0_5 : ByteArray) (a0_6 : ByteArray) (a0_7 : ByteArray) (a1_0 : Int) (l1_1 : List (S97)) (a1_2 : Int) (a2 : Int) (a3 : Int) : Option (Bool) := (tallboylaw29_Great.f a0_0 a0_1 a0_2 a0_3 a0_4 a0_5 a0_6 a0_7).bind fun t269 => (if t269 = true then (tallboylaw29_FrameAnswers.j0 k a2 a3 true a0_0 a0_1 a0_2 a0_3 a0_4 a0_5 a0_6 a0_7 a1_0 l1_1 a1_2) else ((tallboylaw18_Great.f k a1_0 l1_1 a1_2).bind fun t270 => (tallboylaw29_FrameAnswers.j0 k a2 a3 t270 a0_0 a0_1 a0_2 a0_3 a0_4 a0_5 a0_6 a0_7 a1_0 l1_1 a1_2)))
theorem tallboylaw29_FrameAnswers.mono_l : ∀ k, (∀ y0 y1 y2 y3 y4 y5 y6 y7 y8 y9 y10 y11 y12 y13, LeO (tallboylaw29_FrameAnswers.j0 k y0 y1 y2 y3 y4 y5 y6 y7 y8 y9 y10 y11 y12 y13) (tallboylaw29_FrameAnswers.j0 (k + 1) y0 y1 y2 y3 y4 y5 y6 y7 y8 y9 y10 y11 y12 y13))
 | 0 => fun _ _ _ _ _ _ _ _ _ _ _ _ _ _ r h => by simp [tallboylaw29_FrameAnswers.j0] at h
 | k + 1 => by
  have ih0 := tallboylaw29_FrameAnswers.mono_l k
  ·intro y0 y1 y2 y3 y4 y5 y6 y7 y8 y9 y10 y11 y12 y13
   unfold tallboylaw29_FrameAnswers.j0
   repeat' first
   | (with_reducible exact ih0 _ _ _ _ _ _ _ _ _ _ _ _ _ _)
   | (with_reducible exact frame_Refuse.mono _ _ _ _ _ _ _ _ _ _)
   | (with_reducible exact frame_Reply.mono _ _ _ _ _ _ _ _ _ _ _ _ _)
   | (with_reducible exact tallboylaw18_Great.mono _ _ _ _)
   | (with_reducible exact tallboylaw18_To.mono _ _ _ _)
   | (with_reducible exact tallboyref29_Refuse.mono _ _ _ _ _ _ _ _ _ _)
   | (with_reducible exact tallboyref29_Reply.mono _ _ _ _ _ _ _ _ _ _ _ _ _)
   | (with_reducible exact LeO.refl _)
   | (with_reducible exact LeO.none _)
   | (with_reducible refine LeO.ite ?_ ?_)
   | (with_reducible refine LeO.bind ?_ (fun _ => ?_))
   | exact ih0 _ _ _ _ _ _ _ _ _ _ _ _ _ _
   | exact frame_Refuse.mono _ _ _ _ _ _ _ _ _ _
   | exact frame_Reply.mono _ _ _ _ _ _ _ _ _ _ _ _ _
   | exact tallboylaw18_Great.mono _ _ _ _
   | exact tallboylaw18_To.mono _ _ _ _
   | exact tallboyref29_Refuse.mono _ _ _ _ _ _ _ _ _ _
   | exact tallboyref29_Reply.mono _ _ _ _ _ _ _ _ _ _ _ _ _
   | exact LeO.none _
   | refine LeO.ite ?_ ?_
   | refine LeO.bind ?_ (fun _ => ?_)
theorem tallboylaw29_FrameAnswers.mono : ∀ a0 a1 a2 a3 a4 a5 a6 a7 a8 a9 a10 a11 a12 k, LeO (tallboylaw29_FrameAnswers.f k a0 a1 a2 a3 a4 a5 a6 a7 a8 a9 a10 a11 a12) (tallboylaw29_FrameAnswers.f (k + 1) a0 a1 a2 a3 a4 a5 a6 a7 a8 a9 a10 a11 a12) := by
 intro a0 a1 a2 a3 a4 a5 a6 a7 a8 a9 a10 a11 a12 k
 have ih0 := tallboylaw29_FrameAnswers.mono_l k; unfold tallboylaw29_FrameAnswers.f
 repeat' first
   | (with_reducible exact ih0 _ _ _ _ _ _ _ _ _ _ _ _ _ _)
   | (with_reducible exact frame_Refuse.mono _ _ _ _ _ _ _ _ _ _)
   | (with_reducible exact frame_Reply.mono _ _ _ _ _ _ _ _ _ _ _ _ _)
   | (with_reducible exact tallboylaw18_Great.mono _ _ _ _)
   | (with_reducible exact tallboylaw18_To.mono _ _ _ _)
   | (with_reducible exact tallboyref29_Refuse.mono _ _ _ _ _ _ _ _ _ _)
   | (with_reducible exact tallboyref29_Reply.mono _ _ _ _ _ _ _ _ _ _ _ _ _)
   | (with_reducible exact LeO.refl _)
   | (with_reducible exact LeO.none _)
   | (with_reducible refine LeO.ite ?_ ?_)
   | (with_reducible refine LeO.bind ?_ (fun _ => ?_))
   | exact ih0 _ _ _ _ _ _ _ _ _ _ _ _ _ _
   | exact frame_Refuse.mono _ _ _ _ _ _ _ _ _ _
   | exact frame_Reply.mono _ _ _ _ _ _ _ _ _ _ _ _ _
   | exact tallboylaw18_Great.mono _ _ _ _
   | exact tallboylaw18_To.mono _ _ _ _
   | exact tallboyref29_Refuse.mono _ _ _ _ _ _ _ _ _ _
   | exact tallboyref29_Reply.mono _ _ _ _ _ _ _ _ _ _ _ _ _
   | exact LeO.none _
   | refine LeO.ite ?_ ?_
   | refine LeO.bind ?_ (fun _ => ?_)
def tallboylaw29_FrameAnswers.T3 : Bool × List (List Nat × List Nat) := (true, [([], []), ([0], [0]), ([], []), ([2, 1], [2]), ([], []), ([1, 3, 4, 3], [1, 3, 4]), ([5], [5]), ([6], [6]), ([6], [6]), ([], []), ([9, 7, 5, 0, 1, 2, 3, 4, 5, 6, 7, 9], [7, 9]), ([8, 10, 0, 1, 2, 3, 4, 5, 6, 7, 8, 9, 10], [8])])
def tallboylaw29_FrameAnswers.B3 : List Nat := [0, 1, 0, 7, 0, 31, 63, 127, 127, 0, 767, 2047]
theorem tallboylaw29_FrameAnswers.tab3 : rtab .any (opsOf Try.f5 3) = tallboylaw29_FrameAnswers.T3 := by kernel_rfl
theorem tallboylaw29_FrameAnswers.bits3 : waitsOk tallboylaw29_FrameAnswers.T3.2 tallboylaw29_FrameAnswers.B3 = true := by kernel_rfl
def tallboylaw29_FrameAnswers.T5 : Bool × List (List Nat × List Nat) := (true, [([], []), ([0], [0]), ([], []), ([1, 2], [1, 2]), ([3, 1], [3]), ([4], [4]), ([4], [4]), ([5, 6, 4], [4, 5, 6]), ([4, 7], [4, 7]), ([8, 4], [8]), ([9], [9]), ([10, 9, 9], [9, 10]), ([9], [9]), ([11, 12, 11, 9], [9, 11, 12]), ([13, 13, 9], [9, 13]), ([9], [9]), ([9], [9]), ([15, 16, 14, 9], [9, 15, 16]), ([14, 17, 9], [9, 14, 17]), ([9, 18], [9, 18]), ([19, 17, 0, 1, 2, 3, 4, 5, 6, 7, 8, 9, 10, 11, 12, 13, 14, 15, 16, 17, 18, 19], [19])])
def tallboylaw29_FrameAnswers.B5 : List Nat := [0, 1, 0, 7, 15, 31, 31, 127, 255, 511, 1023, 2047, 1023, 8191, 16383, 1023, 1023, 131071, 262143, 524287, 1048575]
theorem tallboylaw29_FrameAnswers.tab5 : rtab .any (opsOf Try.f5 5) = tallboylaw29_FrameAnswers.T5 := by kernel_rfl
theorem tallboylaw29_FrameAnswers.bits5 : waitsOk tallboylaw29_FrameAnswers.T5.2 tallboylaw29_FrameAnswers.B5 = true := by kernel_rfl

end Go.Proofs.Ytdepkgikdmlgiaa.P
