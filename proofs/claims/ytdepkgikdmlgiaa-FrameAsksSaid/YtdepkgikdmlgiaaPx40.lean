/- Lean functions for the Go functions that the laws of this seat use, and the proofs that the Go code computes them; conditions: the readings that each theorem names. Written by a program. -/
import Derived.Test.YtdepkgikdmlgiaaPx0
import Derived.Test.YtdepkgikdmlgiaaPx1
import Derived.Test.YtdepkgikdmlgiaaPx3
import Derived.Test.YtdepkgikdmlgiaaPx5
import Derived.Test.YtdepkgikdmlgiaaPx11
import Derived.Test.YtdepkgikdmlgiaaPx23
import Derived.Test.YtdepkgikdmlgiaaPx28
import Derived.Test.YtdepkgikdmlgiaaPx33
import Derived.Test.YtdepkgikdmlgiaaPx35
import Derived.Test.YtdepkgikdmlgiaaPx37
import Derived.Test.YtdepkgikdmlgiaaPx39
import Derived.Test.YtdepkgikdmlgiaaShort
namespace Go.Proofs.Ytdepkgikdmlgiaa.P
open Go.RowKit Go.Proofs.YtdepkgikdmlgiaaW.PrintWords Go.Proofs.YtdepkgikdmlgiaaW.PrintLast Go.Proofs.YtdepkgikdmlgiaaW.PrintMore
set_option linter.unusedVariables false
set_option linter.unusedSimpArgs false

attribute [local go_sem high] eqA26
/-! ### tallboylaw29_FrameAsks: function 6 -/
def tallboylaw29_FrameAsks.j0 : Nat → Int → Bool → Bool → Int → Int → Int → Int → ByteArray → ByteArray → ByteArray → Int → List ByteArray → Int → Int → ByteArray → Int → Int → Bool → Option (Bool)
 | 0, _, _, _, _, _, _, _, _, _, _, _, _, _, _, _, _, _, _ => none
 | k + 1, x2, x20, z0, z1, z2, z3, z4, z5, z6, z7, z8, z9, za, zb, zc, zd, ze, zf => if x20 = true then (some true) else ((tallboylaw29_To.f z0 z1 z2 z3 z4 z5 z6 z7).bind fun bt471 => ((frame_Command.f k bt471.1 bt471.2.1 bt471.2.2.1 bt471.2.2.2.1 bt471.2.2.2.2.1 bt471.2.2.2.2.2.1 bt471.2.2.2.2.2.2.1 bt471.2.2.2.2.2.2.2).bind fun bt479 => ((tallboyref29_Command.f k z0 z1 z2 z3 z4 z5 z6 z7).bind fun bt491 => ((tallboylaw15_Own.f z8 z9 za zb zc zd ze zf).bind fun bt503 => ((frame_Request.f k bt503.1 bt503.2.1 bt503.2.2.1 bt503.2.2.2.1 bt503.2.2.2.2.1 bt503.2.2.2.2.2.1 bt503.2.2.2.2.2.2.1 bt503.2.2.2.2.2.2.2 x2).bind fun bt513 => ((tallboyref29_Request.f k z8 z9 za zb zc zd ze zf x2).bind fun bt523 => ((tallboyref17_SameCommands.f k bt479.1 bt479.2.1 bt479.2.2.1 bt479.2.2.2.1 bt479.2.2.2.2.1 bt479.2.2.2.2.2.1 bt479.2.2.2.2.2.2.1 bt479.2.2.2.2.2.2.2.1 bt491.1 bt491.2.1 bt491.2.2.1 bt491.2.2.2.1 bt491.2.2.2.2.1 bt491.2.2.2.2.2.1 bt491.2.2.2.2.2.2.1 bt491.2.2.2.2.2.2.2.1).bind fun t533 => (if t533 = true then (if bt479.2.2.2.2.2.2.2.2 = bt491.2.2.2.2.2.2.2.2 then ((tallboylaw29_From.f bt513.1 bt513.2.1 bt513.2.2.1 bt513.2.2.2.1 bt513.2.2.2.2.1 bt513.2.2.2.2.2.1 bt513.2.2.2.2.2.2.1 bt513.2.2.2.2.2.2.2.1).bind fun bt534 => (if (bt534.1 == bt523.1 && (bt534.2.1 == bt523.2.1 && (bt534.2.2.1 == bt523.2.2.1 && (bt534.2.2.2.1 == bt523.2.2.2.1 && (bt534.2.2.2.2.1 == bt523.2.2.2.2.1 && (bt534.2.2.2.2.2.1.toList == bt523.2.2.2.2.2.1.toList && (bt534.2.2.2.2.2.2.1.toList == bt523.2.2.2.2.2.2.1.toList && (bt534.2.2.2.2.2.2.2.toList == bt523.2.2.2.2.2.2.2.1.toList)))))))) = true then (some (bt513.2.2.2.2.2.2.2.2 == bt523.2.2.2.2.2.2.2.2)) else (none))) else (none)) else (none)))))))))
def tallboylaw29_FrameAsks.f (k : Nat) (a0_0 : Bool) (a0_1 : Int) (a0_2 : Int) (a0_3 : Int) (a0_4 : Int) (a0_5 : ByteArray) (a0_6 : ByteArray) (a0_7 : ByteArray) (a1_0 : Int) (l1_1 : List ByteArray) (a1_2 : Int) (a1_3 : Int) (a1_4 : ByteArray) (a1_5 : Int) (a1_6 : Int) (a1_7 : Bool) (a2 : Int) : Option (Bool) := (tallboylaw29_Great.f a0_0 a0_1 a0_2 a0_3 a0_4 a0_5 a0_6 a0_7).bind fun t469 => (if t469 = true then (tallboylaw29_FrameAsks.j0 k a2 true a0_0 a0_1 a0_2 a0_3 a0_4 a0_5 a0_6 a0_7 a1_0 l1_1 a1_2 a1_3 a1_4 a1_5 a1_6 a1_7) else ((tallboylaw15_Great.f k a1_0 l1_1 a1_2 a1_3 a1_4 a1_5 a1_6 a1_7).bind fun t470 => (tallboylaw29_FrameAsks.j0 k a2 t470 a0_0 a0_1 a0_2 a0_3 a0_4 a0_5 a0_6 a0_7 a1_0 l1_1 a1_2 a1_3 a1_4 a1_5 a1_6 a1_7)))
theorem tallboylaw29_FrameAsks.mono_l : ∀ k, (∀ y0 y1 y2 y3 y4 y5 y6 y7 y8 y9 y10 y11 y12 y13 y14 y15 y16 y17, LeO (tallboylaw29_FrameAsks.j0 k y0 y1 y2 y3 y4 y5 y6 y7 y8 y9 y10 y11 y12 y13 y14 y15 y16 y17) (tallboylaw29_FrameAsks.j0 (k + 1) y0 y1 y2 y3 y4 y5 y6 y7 y8 y9 y10 y11 y12 y13 y14 y15 y16 y17))
 | 0 => fun _ _ _ _ _ _ _ _ _ _ _ _ _ _ _ _ _ _ r h => by simp [tallboylaw29_FrameAsks.j0] at h
 | k + 1 => by
  have ih0 := tallboylaw29_FrameAsks.mono_l k
  ·intro y0 y1 y2 y3 y4 y5 y6 y7 y8 y9 y10 y11 y12 y13 y14 y15 y16 y17
   unfold tallboylaw29_FrameAsks.j0
   repeat' first | (with_reducible first | apply ih0 | apply frame_Command.mono | apply frame_Request.mono | apply tallboylaw15_Great.mono | apply tallboyref17_SameCommands.mono | apply tallboyref29_Command.mono | apply tallboyref29_Request.mono | exact LeO.refl _ | exact LeO.none _ | refine LeO.ite ?_ ?_ | refine LeO.bind ?_ (fun _ => ?_)) | apply ih0 | apply frame_Command.mono | apply frame_Request.mono | apply tallboylaw15_Great.mono | apply tallboyref17_SameCommands.mono | apply tallboyref29_Command.mono | apply tallboyref29_Request.mono | exact LeO.none _ | refine LeO.ite ?_ ?_ | refine LeO.bind ?_ (fun _ => ?_)
theorem tallboylaw29_FrameAsks.mono : ∀ a0 a1 a2 a3 a4 a5 a6 a7 a8 a9 a10 a11 a12 a13 a14 a15 a16 k, LeO (tallboylaw29_FrameAsks.f k a0 a1 a2 a3 a4 a5 a6 a7 a8 a9 a10 a11 a12 a13 a14 a15 a16) (tallboylaw29_FrameAsks.f (k + 1) a0 a1 a2 a3 a4 a5 a6 a7 a8 a9 a10 a11 a12 a13 a14 a15 a16) := by
 intro a0 a1 a2 a3 a4 a5 a6 a7 a8 a9 a10 a11 a12 a13 a14 a15 a16 k
 have ih0 := tallboylaw29_FrameAsks.mono_l k; unfold tallboylaw29_FrameAsks.f
 repeat' first | (with_reducible first | apply ih0 | apply frame_Command.mono | apply frame_Request.mono | apply tallboylaw15_Great.mono | apply tallboyref17_SameCommands.mono | apply tallboyref29_Command.mono | apply tallboyref29_Request.mono | exact LeO.refl _ | exact LeO.none _ | refine LeO.ite ?_ ?_ | refine LeO.bind ?_ (fun _ => ?_)) | apply ih0 | apply frame_Command.mono | apply frame_Request.mono | apply tallboylaw15_Great.mono | apply tallboyref17_SameCommands.mono | apply tallboyref29_Command.mono | apply tallboyref29_Request.mono | exact LeO.none _ | refine LeO.ite ?_ ?_ | refine LeO.bind ?_ (fun _ => ?_)
def tallboylaw29_FrameAsks.T7 : Bool × List (List Nat × List Nat) := (true, [([], []), ([], []), ([0, 1], [0, 1]), ([2, 2], [2]), ([3], [3]), ([3], [3]), ([4, 5, 3], [3, 4, 5]), ([3, 6], [3, 6]), ([7, 3], [7]), ([8], [8]), ([9, 8, 8], [8, 9]), ([8], [8]), ([10, 11, 8], [8, 10, 11]), ([8, 12], [8, 12]), ([13, 10], [13]), ([14], [14]), ([14], [14]), ([15, 16, 14], [14, 15, 16]), ([14, 17], [14, 17]), ([18, 14, 0, 1, 2, 3, 4, 5, 6, 7, 8, 9, 10, 11, 12, 13, 14, 15, 16, 17, 18], [18])])
def tallboylaw29_FrameAsks.B7 : List Nat := [0, 0, 3, 7, 15, 15, 63, 127, 255, 511, 1023, 511, 4095, 8191, 16383, 32767, 32767, 131071, 262143, 524287]
theorem tallboylaw29_FrameAsks.tab7 : rtab .any (opsOf Try.f6 7) = tallboylaw29_FrameAsks.T7 := by kernel_rfl
theorem tallboylaw29_FrameAsks.bits7 : waitsOk tallboylaw29_FrameAsks.T7.2 tallboylaw29_FrameAsks.B7 = true := by kernel_rfl

end Go.Proofs.Ytdepkgikdmlgiaa.P
