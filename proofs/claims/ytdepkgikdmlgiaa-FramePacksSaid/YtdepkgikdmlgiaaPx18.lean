/- Lean functions for the Go functions that the laws of this seat use, and the proofs that the Go code computes them; conditions: the readings that each theorem names. Written by a program. -/
import Derived.Test.YtdepkgikdmlgiaaPx0
import Derived.Test.YtdepkgikdmlgiaaPx5
import Derived.Test.YtdepkgikdmlgiaaPx17
import Derived.Test.YtdepkgikdmlgiaaShort
namespace Go.Proofs.Ytdepkgikdmlgiaa.P
open Go.RowKit Go.Proofs.YtdepkgikdmlgiaaW.PrintWords Go.Proofs.YtdepkgikdmlgiaaW.PrintLast Go.Proofs.YtdepkgikdmlgiaaW.PrintMore
set_option linter.unusedVariables false
set_option linter.unusedSimpArgs false

/-! ### tallboyref15_Reads: function 48 -/
def tallboyref15_Reads.f (a0 : Int) : Option (Bool) := if a0 ≥ 1 then (some (decide (a0 ≤ 4))) else (some false)
set_option maxHeartbeats 8000000 in
set_option maxRecDepth 100000 in
theorem tallboyref15_Reads.calls (a0 : Int) (r : Bool) (w : World) (h : tallboyref15_Reads.f a0 = some r) :
  Calls Try.prog 48 #[.int .i64 a0] w fun e w' => e = .returned (.bool r) ∧ Drawn0 w w' := by
 have H : (if a0 ≥ 1 then (some (decide (a0 ≤ 4))) else (some false)) = some r := h; clear h
 by_cases c2 : a0 ≥ 1
 ·rw [if_pos c2] at H; have c2b0 : decide (1 ≤ a0) = true := decide_eq_true c2; clear c2; obtain rfl := Option.some.inj H; go_enter Try.func48, Try.ntmps48; go_wp2; go_ret
  exact ⟨by first | rfl | (simp; done) | (simp [*]; done), by repeat (first | exact Drawn0.refl _ | apply Drawn0.step)⟩
 ·rw [if_neg c2] at H; have c2b0 : decide (1 ≤ a0) = false := decide_eq_false c2; clear c2; obtain rfl := Option.some.inj H; go_enter Try.func48, Try.ntmps48; go_wp2; go_ret
  exact ⟨by first | rfl | (simp; done) | (simp [*]; done), by repeat (first | exact Drawn0.refl _ | apply Drawn0.step)⟩

/-! ### tallboyref29_Reply: function 26 -/
mutual
def tallboyref29_Reply.j0 : Nat → Int → Int → Bool → Bool → Bool → Bool → Int → Int → Int → Int → ByteArray → ByteArray → ByteArray → Int → List (S97) → Int → Option (Bool × Int × Int × Int × Int × ByteArray × ByteArray × ByteArray × Bool)
 | 0, _, _, _, _, _, _, _, _, _, _, _, _, _, _, _, _ => none
 | k + 1, x2, x8, x9, x10, x11, x249000, x249001, x249002, x249003, x249004, x249005, x249006, x249007, x250000, x250001, x250002 => if x9 = true then (if x10 = true then (if x250000 = 1 then (if (x250001.length : Int) = 0 then (tallboyref29_Reply.j1 k x2 x8 x11 true x249000 x249001 x249002 x249003 x249004 x249005 x249006 x249007 x250000 x250001 x250002) else (tallboyref29_Reply.j1 k x2 x8 x11 false x249000 x249001 x249002 x249003 x249004 x249005 x249006 x249007 x250000 x250001 x250002)) else (tallboyref29_Reply.j1 k x2 x8 x11 false x249000 x249001 x249002 x249003 x249004 x249005 x249006 x249007 x250000 x250001 x250002)) else (tallboyref29_Reply.j1 k x2 x8 x11 x11 x249000 x249001 x249002 x249003 x249004 x249005 x249006 x249007 x250000 x250001 x250002)) else (tallboyref29_Reply.j1 k x2 x8 x11 false x249000 x249001 x249002 x249003 x249004 x249005 x249006 x249007 x250000 x250001 x250002)
def tallboyref29_Reply.j1 : Nat → Int → Int → Bool → Bool → Bool → Int → Int → Int → Int → ByteArray → ByteArray → ByteArray → Int → List (S97) → Int → Option (Bool × Int × Int × Int × Int × ByteArray × ByteArray × ByteArray × Bool)
 | 0, _, _, _, _, _, _, _, _, _, _, _, _, _, _, _ => none
 | k + 1, x2, x8, x11, x65, x249000, x249001, x249002, x249003, x249004, x249005, x249006, x249007, x250000, x250001, x250002 => if x65 = true then (some (false, 0, 0, 0, 0, (⟨#[]⟩ : ByteArray), (⟨#[]⟩ : ByteArray), (⟨#[]⟩ : ByteArray), false)) else (if x250000 = 1 then (tallboyref29_Reply.j2 k x2 x8 x11 (decide ((x250001.length : Int) > 0)) x249000 x249001 x249002 x249003 x249004 x249005 x249006 x249007 x250000 x250001 x250002 true x249001 0 x249003 0 (⟨#[]⟩ : ByteArray) (⟨#[]⟩ : ByteArray) (⟨#[]⟩ : ByteArray)) else (tallboyref29_Reply.j2 k x2 x8 x11 false x249000 x249001 x249002 x249003 x249004 x249005 x249006 x249007 x250000 x250001 x250002 true x249001 0 x249003 0 (⟨#[]⟩ : ByteArray) (⟨#[]⟩ : ByteArray) (⟨#[]⟩ : ByteArray)))
def tallboyref29_Reply.j2 : Nat → Int → Int → Bool → Bool → Bool → Int → Int → Int → Int → ByteArray → ByteArray → ByteArray → Int → List (S97) → Int → Bool → Int → Int → Int → Int → ByteArray → ByteArray → ByteArray → Option (Bool × Int × Int × Int × Int × ByteArray × ByteArray × ByteArray × Bool)
 | 0, _, _, _, _, _, _, _, _, _, _, _, _, _, _, _, _, _, _, _, _, _, _, _ => none
 | k + 1, x2, x8, x11, x73, x249000, x249001, x249002, x249003, x249004, x249005, x249006, x249007, x250000, x250001, x250002, x255000, x255001, x255002, x255003, x255004, x255005, x255006, x255007 => if x73 = true then (if 0 < (x250001.length : Int) then ((tallboyref29_Put.f k (IntKind.u64.wrap ((rd_T97 x250001 0).f1)) 4).bind fun t257 => (if x8 = 2 then (some (x255000, x255001, x255002, x255003, (rd_T97 x250001 0).f3, t257, (rd_T97 x250001 0).f0, (rd_T97 x250001 0).f2, true)) else (some (x255000, x255001, x255002, x255003, (rd_T97 x250001 0).f3, t257, x255006, (rd_T97 x250001 0).f2, true)))) else (none)) else (if x250000 = 1 then (tallboyref29_Reply.j3 k x2 x8 x11 true x249000 x249001 x249002 x249003 x249004 x249005 x249006 x249007 x250000 x250001 x250002 x255000 x255001 x255002 x255003 x255004 x255005 x255006 x255007) else (tallboyref29_Reply.j3 k x2 x8 x11 (x250000 == 5) x249000 x249001 x249002 x249003 x249004 x249005 x249006 x249007 x250000 x250001 x250002 x255000 x255001 x255002 x255003 x255004 x255005 x255006 x255007))
def tallboyref29_Reply.j3 : Nat → Int → Int → Bool → Bool → Bool → Int → Int → Int → Int → ByteArray → ByteArray → ByteArray → Int → List (S97) → Int → Bool → Int → Int → Int → Int → ByteArray → ByteArray → ByteArray → Option (Bool × Int × Int × Int × Int × ByteArray × ByteArray × ByteArray × Bool)
 | 0, _, _, _, _, _, _, _, _, _, _, _, _, _, _, _, _, _, _, _, _, _, _, _ => none
 | k + 1, x2, x8, x11, x111, x249000, x249001, x249002, x249003, x249004, x249005, x249006, x249007, x250000, x250001, x250002, x255000, x255001, x255002, x255003, x255004, x255005, x255006, x255007 => if x111 = true then (if x8 = 2 then (some (x255000, x255001, 1, x255003, x255004, x255005, x249006, x255007, true)) else (some (x255000, x255001, 1, x255003, x255004, x255005, x255006, x255007, true))) else (if x250000 = 7 then ((tallboyref29_Put.f k x250002 8).bind fun t260 => (some (x255000, x255001, x255002, x255003, x2, x255005, x255006, t260, true))) else (if x250000 = 2 then (some (x255000, x255001, x255002, x255003, x2, x255005, x255006, x255007, true)) else (if x11 = true then (some (x255000, x255001, x255002, x255003, x255004, x255005, x255006, x255007, true)) else (if x250000 = 3 then (some (x255000, x255001, 5, x255003, x255004, x255005, x255006, x255007, true)) else (if x250000 = 4 then (some (x255000, x255001, 2, x255003, x255004, x255005, x255006, x255007, true)) else (if x250000 = 8 then (some (x255000, x255001, 6, x255003, x255004, x255005, x255006, x255007, true)) else (if x250000 = 11 then (some (x255000, x255001, 130, x255003, x255004, x255005, x255006, x255007, true)) else (if x250000 = 12 then (some (x255000, x255001, 3, x255003, x255004, x255005, x255006, x255007, true)) else (some (x255000, x255001, 4, x255003, x255004, x255005, x255006, x255007, true))))))))))
end
def tallboyref29_Reply.f (k : Nat) (a0_0 : Bool) (a0_1 : Int) (a0_2 : Int) (a0_3 : Int) (a0_4 : Int) (a0_5 : ByteArray) (a0_6 : ByteArray) (a0_7 : ByteArray) (a1_0 : Int) (l1_1 : List (S97)) (a1_2 : Int) (a2 : Int) : Option (Bool × Int × Int × Int × Int × ByteArray × ByteArray × ByteArray × Bool) := (tallboyref29_op.f k a0_1).bind fun bt251 => ((tallboyref15_Reads.f bt251.1).bind fun t253 => (if a1_0 = 2 then (tallboyref29_Reply.j0 k a2 bt251.1 bt251.2 t253 true a0_0 a0_1 a0_2 a0_3 a0_4 a0_5 a0_6 a0_7 a1_0 l1_1 a1_2) else (if a1_0 = 6 then (tallboyref29_Reply.j0 k a2 bt251.1 bt251.2 t253 true a0_0 a0_1 a0_2 a0_3 a0_4 a0_5 a0_6 a0_7 a1_0 l1_1 a1_2) else (if a1_0 = 7 then (tallboyref29_Reply.j0 k a2 bt251.1 bt251.2 t253 true a0_0 a0_1 a0_2 a0_3 a0_4 a0_5 a0_6 a0_7 a1_0 l1_1 a1_2) else (if a1_0 = 9 then (tallboyref29_Reply.j0 k a2 bt251.1 bt251.2 t253 true a0_0 a0_1 a0_2 a0_3 a0_4 a0_5 a0_6 a0_7 a1_0 l1_1 a1_2) else (tallboyref29_Reply.j0 k a2 bt251.1 bt251.2 t253 (a1_0 == 10) a0_0 a0_1 a0_2 a0_3 a0_4 a0_5 a0_6 a0_7 a1_0 l1_1 a1_2))))))
theorem tallboyref29_Reply.mono_l : ∀ k, (∀ y0 y1 y2 y3 y4 y5 y6 y7 y8 y9 y10 y11 y12 y13 y14 y15, LeO (tallboyref29_Reply.j0 k y0 y1 y2 y3 y4 y5 y6 y7 y8 y9 y10 y11 y12 y13 y14 y15) (tallboyref29_Reply.j0 (k + 1) y0 y1 y2 y3 y4 y5 y6 y7 y8 y9 y10 y11 y12 y13 y14 y15)) ∧ (∀ y0 y1 y2 y3 y4 y5 y6 y7 y8 y9 y10 y11 y12 y13 y14, LeO (tallboyref29_Reply.j1 k y0 y1 y2 y3 y4 y5 y6 y7 y8 y9 y10 y11 y12 y13 y14) (tallboyref29_Reply.j1 (k + 1) y0 y1 y2 y3 y4 y5 y6 y7 y8 y9 y10 y11 y12 y13 y14)) ∧ (∀ y0 y1 y2 y3 y4 y5 y6 y7 y8 y9 y10 y11 y12 y13 y14 y15 y16 y17 y18 y19 y20 y21 y22, LeO (tallboyref29_Reply.j2 k y0 y1 y2 y3 y4 y5 y6 y7 y8 y9 y10 y11 y12 y13 y14 y15 y16 y17 y18 y19 y20 y21 y22) (tallboyref29_Reply.j2 (k + 1) y0 y1 y2 y3 y4 y5 y6 y7 y8 y9 y10 y11 y12 y13 y14 y15 y16 y17 y18 y19 y20 y21 y22)) ∧ (∀ y0 y1 y2 y3 y4 y5 y6 y7 y8 y9 y10 y11 y12 y13 y14 y15 y16 y17 y18 y19 y20 y21 y22, LeO (tallboyref29_Reply.j3 k y0 y1 y2 y3 y4 y5 y6 y7 y8 y9 y10 y11 y12 y13 y14 y15 y16 y17 y18 y19 y20 y21 y22) (tallboyref29_Reply.j3 (k + 1) y0 y1 y2 y3 y4 y5 y6 y7 y8 y9 y10 y11 y12 y13 y14 y15 y16 y17 y18 y19 y20 y21 y22))
 | 0 => ⟨fun _ _ _ _ _ _ _ _ _ _ _ _ _ _ _ _ r h => by simp [tallboyref29_Reply.j0] at h, fun _ _ _ _ _ _ _ _ _ _ _ _ _ _ _ r h => by simp [tallboyref29_Reply.j1] at h, fun _ _ _ _ _ _ _ _ _ _ _ _ _ _ _ _ _ _ _ _ _ _ _ r h => by simp [tallboyref29_Reply.j2] at h, fun _ _ _ _ _ _ _ _ _ _ _ _ _ _ _ _ _ _ _ _ _ _ _ r h => by simp [tallboyref29_Reply.j3] at h⟩
 | k + 1 => by
  obtain ⟨ih0, ih1, ih2, ih3⟩ := tallboyref29_Reply.mono_l k; refine ⟨?_, ?_, ?_, ?_⟩
  ·intro y0 y1 y2 y3 y4 y5 y6 y7 y8 y9 y10 y11 y12 y13 y14 y15
   unfold tallboyref29_Reply.j0
   repeat' first
   | (with_reducible exact ih0 _ _ _ _ _ _ _ _ _ _ _ _ _ _ _ _)
   | (with_reducible exact ih1 _ _ _ _ _ _ _ _ _ _ _ _ _ _ _)
   | (with_reducible exact ih2 _ _ _ _ _ _ _ _ _ _ _ _ _ _ _ _ _ _ _ _ _ _ _)
   | (with_reducible exact ih3 _ _ _ _ _ _ _ _ _ _ _ _ _ _ _ _ _ _ _ _ _ _ _)
   | (with_reducible exact tallboyref29_Put.mono _ _ _)
   | (with_reducible exact tallboyref29_op.mono _ _)
   | (with_reducible exact LeO.refl _)
   | (with_reducible exact LeO.none _)
   | (with_reducible refine LeO.ite ?_ ?_)
   | (with_reducible refine LeO.bind ?_ (fun _ => ?_))
   | exact ih0 _ _ _ _ _ _ _ _ _ _ _ _ _ _ _ _
   | exact ih1 _ _ _ _ _ _ _ _ _ _ _ _ _ _ _
   | exact ih2 _ _ _ _ _ _ _ _ _ _ _ _ _ _ _ _ _ _ _ _ _ _ _
   | exact ih3 _ _ _ _ _ _ _ _ _ _ _ _ _ _ _ _ _ _ _ _ _ _ _
   | exact tallboyref29_Put.mono _ _ _
   | exact tallboyref29_op.mono _ _
   | exact LeO.none _
   | refine LeO.ite ?_ ?_
   | refine LeO.bind ?_ (fun _ => ?_)
  ·intro y0 y1 y2 y3 y4 y5 y6 y7 y8 y9 y10 y11 y12 y13 y14
   unfold tallboyref29_Reply.j1
   repeat' first
   | (with_reducible exact ih0 _ _ _ _ _ _ _ _ _ _ _ _ _ _ _ _)
   | (with_reducible exact ih1 _ _ _ _ _ _ _ _ _ _ _ _ _ _ _)
   | (with_reducible exact ih2 _ _ _ _ _ _ _ _ _ _ _ _ _ _ _ _ _ _ _ _ _ _ _)
   | (with_reducible exact ih3 _ _ _ _ _ _ _ _ _ _ _ _ _ _ _ _ _ _ _ _ _ _ _)
   | (with_reducible exact tallboyref29_Put.mono _ _ _)
   | (with_reducible exact tallboyref29_op.mono _ _)
   | (with_reducible exact LeO.refl _)
   | (with_reducible exact LeO.none _)
   | (with_reducible refine LeO.ite ?_ ?_)
   | (with_reducible refine LeO.bind ?_ (fun _ => ?_))
   | exact ih0 _ _ _ _ _ _ _ _ _ _ _ _ _ _ _ _
   | exact ih1 _ _ _ _ _ _ _ _ _ _ _ _ _ _ _
   | exact ih2 _ _ _ _ _ _ _ _ _ _ _ _ _ _ _ _ _ _ _ _ _ _ _
   | exact ih3 _ _ _ _ _ _ _ _ _ _ _ _ _ _ _ _ _ _ _ _ _ _ _
   | exact tallboyref29_Put.mono _ _ _
   | exact tallboyref29_op.mono _ _
   | exact LeO.none _
   | refine LeO.ite ?_ ?_
   | refine LeO.bind ?_ (fun _ => ?_)
  ·intro y0 y1 y2 y3 y4 y5 y6 y7 y8 y9 y10 y11 y12 y13 y14 y15 y16 y17 y18 y19 y20 y21 y22
   unfold tallboyref29_Reply.j2
   repeat' first
   | (with_reducible exact ih0 _ _ _ _ _ _ _ _ _ _ _ _ _ _ _ _)
   | (with_reducible exact ih1 _ _ _ _ _ _ _ _ _ _ _ _ _ _ _)
   | (with_reducible exact ih2 _ _ _ _ _ _ _ _ _ _ _ _ _ _ _ _ _ _ _ _ _ _ _)
   | (with_reducible exact ih3 _ _ _ _ _ _ _ _ _ _ _ _ _ _ _ _ _ _ _ _ _ _ _)
   | (with_reducible exact tallboyref29_Put.mono _ _ _)
   | (with_reducible exact tallboyref29_op.mono _ _)
   | (with_reducible exact LeO.refl _)
   | (with_reducible exact LeO.none _)
   | (with_reducible refine LeO.ite ?_ ?_)
   | (with_reducible refine LeO.bind ?_ (fun _ => ?_))
   | exact ih0 _ _ _ _ _ _ _ _ _ _ _ _ _ _ _ _
   | exact ih1 _ _ _ _ _ _ _ _ _ _ _ _ _ _ _
   | exact ih2 _ _ _ _ _ _ _ _ _ _ _ _ _ _ _ _ _ _ _ _ _ _ _
   | exact ih3 _ _ _ _ _ _ _ _ _ _ _ _ _ _ _ _ _ _ _ _ _ _ _
   | exact tallboyref29_Put.mono _ _ _
   | exact tallboyref29_op.mono _ _
   | exact LeO.none _
   | refine LeO.ite ?_ ?_
   | refine LeO.bind ?_ (fun _ => ?_)
  ·intro y0 y1 y2 y3 y4 y5 y6 y7 y8 y9 y10 y11 y12 y13 y14 y15 y16 y17 y18 y19 y20 y21 y22
   unfold tallboyref29_Reply.j3
   repeat' first
   | (with_reducible exact ih0 _ _ _ _ _ _ _ _ _ _ _ _ _ _ _ _)
   | (with_reducible exact ih1 _ _ _ _ _ _ _ _ _ _ _ _ _ _ _)
   | (with_reducible exact ih2 _ _ _ _ _ _ _ _ _ _ _ _ _ _ _ _ _ _ _ _ _ _ _)
   | (with_reducible exact ih3 _ _ _ _ _ _ _ _ _ _ _ _ _ _ _ _ _ _ _ _ _ _ _)
   | (with_reducible exact tallboyref29_Put.mono _ _ _)
   | (with_reducible exact tallboyref29_op.mono _ _)
   | (with_reducible exact LeO.refl _)
   | (with_reducible exact LeO.none _)
   | (with_reducible refine LeO.ite ?_ ?_)
   | (with_reducible refine LeO.bind ?_ (fun _ => ?_))
   | exact ih0 _ _ _ _ _ _ _ _ _ _ _ _ _ _ _ _
   | exact ih1 _ _ _ _ _ _ _ _ _ _ _ _ _ _ _
   | exact ih2 _ _ _ _ _ _ _ _ _ _ _ _ _ _ _ _ _ _ _ _ _ _ _
   | exact ih3 _ _ _ _ _ _ _ _ _ _ _ _ _ _ _ _ _ _ _ _ _ _ _
   | exact tallboyref29_Put.mono _ _ _
   | exact tallboyref29_op.mono _ _
   | exact LeO.none _
   | refine LeO.ite ?_ ?_
   | refine LeO.bind ?_ (fun _ => ?_)
theorem tallboyref29_Reply.mono : ∀ a0 a1 a2 a3 a4 a5 a6 a7 a8 a9 a10 a11 k, LeO (tallboyref29_Reply.f k a0 a1 a2 a3 a4 a5 a6 a7 a8 a9 a10 a11) (tallboyref29_Reply.f (k + 1) a0 a1 a2 a3 a4 a5 a6 a7 a8 a9 a10 a11) := by
 intro a0 a1 a2 a3 a4 a5 a6 a7 a8 a9 a10 a11 k
 obtain ⟨ih0, ih1, ih2, ih3⟩ := tallboyref29_Reply.mono_l k; unfold tallboyref29_Reply.f
 repeat' first
   | (with_reducible exact ih0 _ _ _ _ _ _ _ _ _ _ _ _ _ _ _ _)
   | (with_reducible exact ih1 _ _ _ _ _ _ _ _ _ _ _ _ _ _ _)
   | (with_reducible exact ih2 _ _ _ _ _ _ _ _ _ _ _ _ _ _ _ _ _ _ _ _ _ _ _)
   | (with_reducible exact ih3 _ _ _ _ _ _ _ _ _ _ _ _ _ _ _ _ _ _ _ _ _ _ _)
   | (with_reducible exact tallboyref29_Put.mono _ _ _)
   | (with_reducible exact tallboyref29_op.mono _ _)
   | (with_reducible exact LeO.refl _)
   | (with_reducible exact LeO.none _)
   | (with_reducible refine LeO.ite ?_ ?_)
   | (with_reducible refine LeO.bind ?_ (fun _ => ?_))
   | exact ih0 _ _ _ _ _ _ _ _ _ _ _ _ _ _ _ _
   | exact ih1 _ _ _ _ _ _ _ _ _ _ _ _ _ _ _
   | exact ih2 _ _ _ _ _ _ _ _ _ _ _ _ _ _ _ _ _ _ _ _ _ _ _
   | exact ih3 _ _ _ _ _ _ _ _ _ _ _ _ _ _ _ _ _ _ _ _ _ _ _
   | exact tallboyref29_Put.mono _ _ _
   | exact tallboyref29_op.mono _ _
   | exact LeO.none _
   | refine LeO.ite ?_ ?_
   | refine LeO.bind ?_ (fun _ => ?_)

end Go.Proofs.Ytdepkgikdmlgiaa.P
