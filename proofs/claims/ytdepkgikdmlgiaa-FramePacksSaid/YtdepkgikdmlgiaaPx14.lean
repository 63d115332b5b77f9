/- Lean functions for the Go functions that the laws of this seat use, and the proofs that the Go code computes them; conditions: the readings that each theorem names. Written by a program. -/
import Derived.Test.YtdepkgikdmlgiaaPx0
import Derived.Test.YtdepkgikdmlgiaaPx13
import Derived.Test.YtdepkgikdmlgiaaShort
namespace Go.Proofs.Ytdepkgikdmlgiaa.P
open Go.RowKit Go.Proofs.YtdepkgikdmlgiaaW.PrintWords Go.Proofs.YtdepkgikdmlgiaaW.PrintLast Go.Proofs.YtdepkgikdmlgiaaW.PrintMore
set_option linter.unusedVariables false
set_option linter.unusedSimpArgs false

/-! ### frame_Reply: function 24 -/
mutual
def frame_Reply.j0 : Nat → Int → Int → Bool → Bool → Bool → Int → Int → Int → Int → ByteArray → ByteArray → ByteArray → Int → List (S102) → Int → Bool → Int → Int → Int → Int → ByteArray → ByteArray → ByteArray → Option (Bool × Int × Int × Int × Int × ByteArray × ByteArray × ByteArray × Bool)
 | 0, _, _, _, _, _, _, _, _, _, _, _, _, _, _, _, _, _, _, _, _, _, _, _ => none
 | k + 1, x2, x8, x9, x11, x227000, x227001, x227002, x227003, x227004, x227005, x227006, x227007, x228000, x228001, x228002, x233000, x233001, x233002, x233003, x233004, x233005, x233006, x233007 => if x9 = true then (if x228000 = 1 then (frame_Reply.j1 k x2 x8 x11 (!x11) x227000 x227001 x227002 x227003 x227004 x227005 x227006 x227007 x228000 x228001 x228002 x233000 x233001 x233002 x233003 x233004 x233005 x233006 x233007) else (frame_Reply.j1 k x2 x8 x11 false x227000 x227001 x227002 x227003 x227004 x227005 x227006 x227007 x228000 x228001 x228002 x233000 x233001 x233002 x233003 x233004 x233005 x233006 x233007)) else (frame_Reply.j3 k x2 x8 x11 x227000 x227001 x227002 x227003 x227004 x227005 x227006 x227007 x228000 x228001 x228002 x233000 x233001 x233002 x233003 x233004 x233005 x233006 x233007)
def frame_Reply.j3 : Nat → Int → Int → Bool → Bool → Int → Int → Int → Int → ByteArray → ByteArray → ByteArray → Int → List (S102) → Int → Bool → Int → Int → Int → Int → ByteArray → ByteArray → ByteArray → Option (Bool × Int × Int × Int × Int × ByteArray × ByteArray × ByteArray × Bool)
 | 0, _, _, _, _, _, _, _, _, _, _, _, _, _, _, _, _, _, _, _, _, _, _ => none
 | k + 1, x2, x8, x11, x227000, x227001, x227002, x227003, x227004, x227005, x227006, x227007, x228000, x228001, x228002, x233000, x233001, x233002, x233003, x233004, x233005, x233006, x233007 => if x11 = true then (if 0 < (x228001.length : Int) then ((frame_number.f k (IntKind.u64.wrap ((rd_T102 x228001 0).f1)) 4).bind fun t238 => (frame_Reply.j4 k x8 x233000 x233001 0 x233003 ((rd_T102 x228001 0).f3) t238 ((rd_T102 x228001 0).f0) ((rd_T102 x228001 0).f2))) else (none)) else (if x233002 = 1 then (frame_Reply.j4 k x8 x233000 x233001 x233002 x233003 x233004 x233005 x227006 x233007) else (if x228000 = 7 then ((frame_number.f k x228002 8).bind fun t239 => (frame_Reply.j4 k x8 x233000 x233001 x233002 x233003 x2 x233005 x233006 t239)) else (if x228000 = 2 then (frame_Reply.j4 k x8 x233000 x233001 x233002 x233003 x2 x233005 x233006 x233007) else (frame_Reply.j4 k x8 x233000 x233001 x233002 x233003 x233004 x233005 x233006 x233007))))
def frame_Reply.j4 : Nat → Int → Bool → Int → Int → Int → Int → ByteArray → ByteArray → ByteArray → Option (Bool × Int × Int × Int × Int × ByteArray × ByteArray × ByteArray × Bool)
 | 0, _, _, _, _, _, _, _, _, _ => none
 | k + 1, x8, x233000, x233001, x233002, x233003, x233004, x233005, x233006, x233007 => if x8 = 2 then (some (x233000, x233001, x233002, x233003, x233004, x233005, x233006, x233007, true)) else (some (x233000, x233001, x233002, x233003, x233004, x233005, (⟨#[]⟩ : ByteArray), x233007, true))
def frame_Reply.j1 : Nat → Int → Int → Bool → Bool → Bool → Int → Int → Int → Int → ByteArray → ByteArray → ByteArray → Int → List (S102) → Int → Bool → Int → Int → Int → Int → ByteArray → ByteArray → ByteArray → Option (Bool × Int × Int × Int × Int × ByteArray × ByteArray × ByteArray × Bool)
 | 0, _, _, _, _, _, _, _, _, _, _, _, _, _, _, _, _, _, _, _, _, _, _, _ => none
 | k + 1, x2, x8, x11, x12, x227000, x227001, x227002, x227003, x227004, x227005, x227006, x227007, x228000, x228001, x228002, x233000, x233001, x233002, x233003, x233004, x233005, x233006, x233007 => (frame_reads.f x8).bind fun t233 => (if t233 = true then (if x12 = true then (frame_Reply.j2 k x2 x8 x11 true x227000 x227001 x227002 x227003 x227004 x227005 x227006 x227007 x228000 x228001 x228002 x233000 x233001 x233002 x233003 x233004 x233005 x233006 x233007) else ((frame_reads.f x8).bind fun t234 => (if t234 = true then (frame_Reply.j2 k x2 x8 x11 false x227000 x227001 x227002 x227003 x227004 x227005 x227006 x227007 x228000 x228001 x228002 x233000 x233001 x233002 x233003 x233004 x233005 x233006 x233007) else (frame_Reply.j2 k x2 x8 x11 (x233002 == 0) x227000 x227001 x227002 x227003 x227004 x227005 x227006 x227007 x228000 x228001 x228002 x233000 x233001 x233002 x233003 x233004 x233005 x233006 x233007)))) else ((frame_reads.f x8).bind fun t235 => (if t235 = true then (frame_Reply.j2 k x2 x8 x11 false x227000 x227001 x227002 x227003 x227004 x227005 x227006 x227007 x228000 x228001 x228002 x233000 x233001 x233002 x233003 x233004 x233005 x233006 x233007) else (frame_Reply.j2 k x2 x8 x11 (x233002 == 0) x227000 x227001 x227002 x227003 x227004 x227005 x227006 x227007 x228000 x228001 x228002 x233000 x233001 x233002 x233003 x233004 x233005 x233006 x233007))))
def frame_Reply.j2 : Nat → Int → Int → Bool → Bool → Bool → Int → Int → Int → Int → ByteArray → ByteArray → ByteArray → Int → List (S102) → Int → Bool → Int → Int → Int → Int → ByteArray → ByteArray → ByteArray → Option (Bool × Int × Int × Int × Int × ByteArray × ByteArray × ByteArray × Bool)
 | 0, _, _, _, _, _, _, _, _, _, _, _, _, _, _, _, _, _, _, _, _, _, _, _ => none
 | k + 1, x2, x8, x11, x59, x227000, x227001, x227002, x227003, x227004, x227005, x227006, x227007, x228000, x228001, x228002, x233000, x233001, x233002, x233003, x233004, x233005, x233006, x233007 => if x59 = true then (some (false, 0, 0, 0, 0, (⟨#[]⟩ : ByteArray), (⟨#[]⟩ : ByteArray), (⟨#[]⟩ : ByteArray), false)) else (frame_Reply.j3 k x2 x8 x11 x227000 x227001 x227002 x227003 x227004 x227005 x227006 x227007 x228000 x228001 x228002 x233000 x233001 x233002 x233003 x233004 x233005 x233006 x233007)
end
def frame_Reply.f (k : Nat) (a0_0 : Bool) (a0_1 : Int) (a0_2 : Int) (a0_3 : Int) (a0_4 : Int) (a0_5 : ByteArray) (a0_6 : ByteArray) (a0_7 : ByteArray) (a1_0 : Int) (l1_1 : List (S102)) (a1_2 : Int) (a2 : Int) : Option (Bool × Int × Int × Int × Int × ByteArray × ByteArray × ByteArray × Bool) := (frame_find.f k a0_1).bind fun bt229 => ((frame_status.f k a1_0).bind fun t231 => (if a1_0 = 1 then (frame_Reply.j0 k a2 bt229.1 bt229.2 (decide ((l1_1.length : Int) > 0)) a0_0 a0_1 a0_2 a0_3 a0_4 a0_5 a0_6 a0_7 a1_0 l1_1 a1_2 true a0_1 t231 a0_3 0 (⟨#[]⟩ : ByteArray) (⟨#[]⟩ : ByteArray) (⟨#[]⟩ : ByteArray)) else (frame_Reply.j0 k a2 bt229.1 bt229.2 false a0_0 a0_1 a0_2 a0_3 a0_4 a0_5 a0_6 a0_7 a1_0 l1_1 a1_2 true a0_1 t231 a0_3 0 (⟨#[]⟩ : ByteArray) (⟨#[]⟩ : ByteArray) (⟨#[]⟩ : ByteArray))))
theorem frame_Reply.mono_l : ∀ k, (∀ y0 y1 y2 y3 y4 y5 y6 y7 y8 y9 y10 y11 y12 y13 y14 y15 y16 y17 y18 y19 y20 y21 y22, LeO (frame_Reply.j0 k y0 y1 y2 y3 y4 y5 y6 y7 y8 y9 y10 y11 y12 y13 y14 y15 y16 y17 y18 y19 y20 y21 y22) (frame_Reply.j0 (k + 1) y0 y1 y2 y3 y4 y5 y6 y7 y8 y9 y10 y11 y12 y13 y14 y15 y16 y17 y18 y19 y20 y21 y22)) ∧ (∀ y0 y1 y2 y3 y4 y5 y6 y7 y8 y9 y10 y11 y12 y13 y14 y15 y16 y17 y18 y19 y20 y21, LeO (frame_Reply.j3 k y0 y1 y2 y3 y4 y5 y6 y7 y8 y9 y10 y11 y12 y13 y14 y15 y16 y17 y18 y19 y20 y21) (frame_Reply.j3 (k + 1) y0 y1 y2 y3 y4 y5 y6 y7 y8 y9 y10 y11 y12 y13 y14 y15 y16 y17 y18 y19 y20 y21)) ∧ (∀ y0 y1 y2 y3 y4 y5 y6 y7 y8, LeO (frame_Reply.j4 k y0 y1 y2 y3 y4 y5 y6 y7 y8) (frame_Reply.j4 (k + 1) y0 y1 y2 y3 y4 y5 y6 y7 y8)) ∧ (∀ y0 y1 y2 y3 y4 y5 y6 y7 y8 y9 y10 y11 y12 y13 y14 y15 y16 y17 y18 y19 y20 y21 y22, LeO (frame_Reply.j1 k y0 y1 y2 y3 y4 y5 y6 y7 y8 y9 y10 y11 y12 y13 y14 y15 y16 y17 y18 y19 y20 y21 y22) (frame_Reply.j1 (k + 1) y0 y1 y2 y3 y4 y5 y6 y7 y8 y9 y10 y11 y12 y13 y14 y15 y16 y17 y18 y19 y20 y21 y22)) ∧ (∀ y0 y1 y2 y3 y4 y5 y6 y7 y8 y9 y10 y11 y12 y13 y14 y15 y16 y17 y18 y19 y20 y21 y22, LeO (frame_Reply.j2 k y0 y1 y2 y3 y4 y5 y6 y7 y8 y9 y10 y11 y12 y13 y14 y15 y16 y17 y18 y19 y20 y21 y22) (frame_Reply.j2 (k + 1) y0 y1 y2 y3 y4 y5 y6 y7 y8 y9 y10 y11 y12 y13 y14 y15 y16 y17 y18 y19 y20 y21 y22))
 | 0 => ⟨fun _ _ _ _ _ _ _ _ _ _ _ _ _ _ _ _ _ _ _ _ _ _ _ r h => by simp [frame_Reply.j0] at h, fun _ _ _ _ _ _ _ _ _ _ _ _ _ _ _ _ _ _ _ _ _ _ r h => by simp [frame_Reply.j3] at h, fun _ _ _ _ _ _ _ _ _ r h => by simp [frame_Reply.j4] at h, fun _ _ _ _ _ _ _ _ _ _ _ _ _ _ _ _ _ _ _ _ _ _ _ r h => by simp [frame_Reply.j1] at h, fun _ _ _ _ _ _ _ _ _ _ _ _ _ _ _ _ _ _ _ _ _ _ _ r h => by simp [frame_Reply.j2] at h⟩
 | k + 1 => by
  obtain ⟨ih0, ih1, ih2, ih3, ih4⟩ := frame_Reply.mono_l k; refine ⟨?_, ?_, ?_, ?_, ?_⟩
  ·intro y0 y1 y2 y3 y4 y5 y6 y7 y8 y9 y10 y11 y12 y13 y14 y15 y16 y17 y18 y19 y20 y21 y22
   unfold frame_Reply.j0
   repeat' first
   | (with_reducible exact ih0 _ _ _ _ _ _ _ _ _ _ _ _ _ _ _ _ _ _ _ _ _ _ _)
   | (with_reducible exact ih1 _ _ _ _ _ _ _ _ _ _ _ _ _ _ _ _ _ _ _ _ _ _)
   | (with_reducible exact ih2 _ _ _ _ _ _ _ _ _)
   | (with_reducible exact ih3 _ _ _ _ _ _ _ _ _ _ _ _ _ _ _ _ _ _ _ _ _ _ _)
   | (with_reducible exact ih4 _ _ _ _ _ _ _ _ _ _ _ _ _ _ _ _ _ _ _ _ _ _ _)
   | (with_reducible exact frame_find.mono _ _)
   | (with_reducible exact frame_number.mono _ _ _)
   | (with_reducible exact frame_status.mono _ _)
   | (with_reducible exact LeO.refl _)
   | (with_reducible exact LeO.none _)
   | (with_reducible refine LeO.ite ?_ ?_)
   | (with_reducible refine LeO.bind ?_ (fun _ => ?_))
   | exact ih0 _ _ _ _ _ _ _ _ _ _ _ _ _ _ _ _ _ _ _ _ _ _ _
   | exact ih1 _ _ _ _ _ _ _ _ _ _ _ _ _ _ _ _ _ _ _ _ _ _
   | exact ih2 _ _ _ _ _ _ _ _ _
   | exact ih3 _ _ _ _ _ _ _ _ _ _ _ _ _ _ _ _ _ _ _ _ _ _ _
   | exact ih4 _ _ _ _ _ _ _ _ _ _ _ _ _ _ _ _ _ _ _ _ _ _ _
   | exact frame_find.mono _ _
   | exact frame_number.mono _ _ _
   | exact frame_status.mono _ _
   | exact LeO.none _
   | refine LeO.ite ?_ ?_
   | refine LeO.bind ?_ (fun _ => ?_)
  ·intro y0 y1 y2 y3 y4 y5 y6 y7 y8 y9 y10 y11 y12 y13 y14 y15 y16 y17 y18 y19 y20 y21
   unfold frame_Reply.j3
   repeat' first
   | (with_reducible exact ih0 _ _ _ _ _ _ _ _ _ _ _ _ _ _ _ _ _ _ _ _ _ _ _)
   | (with_reducible exact ih1 _ _ _ _ _ _ _ _ _ _ _ _ _ _ _ _ _ _ _ _ _ _)
   | (with_reducible exact ih2 _ _ _ _ _ _ _ _ _)
   | (with_reducible exact ih3 _ _ _ _ _ _ _ _ _ _ _ _ _ _ _ _ _ _ _ _ _ _ _)
   | (with_reducible exact ih4 _ _ _ _ _ _ _ _ _ _ _ _ _ _ _ _ _ _ _ _ _ _ _)
   | (with_reducible exact frame_find.mono _ _)
   | (with_reducible exact frame_number.mono _ _ _)
   | (with_reducible exact frame_status.mono _ _)
   | (with_reducible exact LeO.refl _)
   | (with_reducible exact LeO.none _)
   | (with_reducible refine LeO.ite ?_ ?_)
   | (with_reducible refine LeO.bind ?_ (fun _ => ?_))
   | exact ih0 _ _ _ _ _ _ _ _ _ _ _ _ _ _ _ _ _ _ _ _ _ _ _
   | exact ih1 _ _ _ _ _ _ _ _ _ _ _ _ _ _ _ _ _ _ _ _ _ _
   | exact ih2 _ _ _ _ _ _ _ _ _
   | exact ih3 _ _ _ _ _ _ _ _ _ _ _ _ _ _ _ _ _ _ _ _ _ _ _
   | exact ih4 _ _ _ _ _ _ _ _ _ _ _ _ _ _ _ _ _ _ _ _ _ _ _
   | exact frame_find.mono _ _
   | exact frame_number.mono _ _ _
   | exact frame_status.mono _ _
   | exact LeO.none _
   | refine LeO.ite ?_ ?_
   | refine LeO.bind ?_ (fun _ => ?_)
  ·intro y0 y1 y2 y3 y4 y5 y6 y7 y8
   unfold frame_Reply.j4
   repeat' first
   | (with_reducible exact ih0 _ _ _ _ _ _ _ _ _ _ _ _ _ _ _ _ _ _ _ _ _ _ _)
   | (with_reducible exact ih1 _ _ _ _ _ _ _ _ _ _ _ _ _ _ _ _ _ _ _ _ _ _)
   | (with_reducible exact ih2 _ _ _ _ _ _ _ _ _)
   | (with_reducible exact ih3 _ _ _ _ _ _ _ _ _ _ _ _ _ _ _ _ _ _ _ _ _ _ _)
   | (with_reducible exact ih4 _ _ _ _ _ _ _ _ _ _ _ _ _ _ _ _ _ _ _ _ _ _ _)
   | (with_reducible exact frame_find.mono _ _)
   | (with_reducible exact frame_number.mono _ _ _)
   | (with_reducible exact frame_status.mono _ _)
   | (with_reducible exact LeO.refl _)
   | (with_reducible exact LeO.none _)
   | (with_reducible refine LeO.ite ?_ ?_)
   | (with_reducible refine LeO.bind ?_ (fun _ => ?_))
   | exact ih0 _ _ _ _ _ _ _ _ _ _ _ _ _ _ _ _ _ _ _ _ _ _ _
   | exact ih1 _ _ _ _ _ _ _ _ _ _ _ _ _ _ _ _ _ _ _ _ _ _
   | exact ih2 _ _ _ _ _ _ _ _ _
   | exact ih3 _ _ _ _ _ _ _ _ _ _ _ _ _ _ _ _ _ _ _ _ _ _ _
   | exact ih4 _ _ _ _ _ _ _ _ _ _ _ _ _ _ _ _ _ _ _ _ _ _ _
   | exact frame_find.mono _ _
   | exact frame_number.mono _ _ _
   | exact frame_status.mono _ _
   | exact LeO.none _
   | refine LeO.ite ?_ ?_
   | refine LeO.bind ?_ (fun _ => ?_)
  ·intro y0 y1 y2 y3 y4 y5 y6 y7 y8 y9 y10 y11 y12 y13 y14 y15 y16 y17 y18 y19 y20 y21 y22
   unfold frame_Reply.j1
   repeat' first
   | (with_reducible exact ih0 _ _ _ _ _ _ _ _ _ _ _ _ _ _ _ _ _ _ _ _ _ _ _)
   | (with_reducible exact ih1 _ _ _ _ _ _ _ _ _ _ _ _ _ _ _ _ _ _ _ _ _ _)
   | (with_reducible exact ih2 _ _ _ _ _ _ _ _ _)
   | (with_reducible exact ih3 _ _ _ _ _ _ _ _ _ _ _ _ _ _ _ _ _ _ _ _ _ _ _)
   | (with_reducible exact ih4 _ _ _ _ _ _ _ _ _ _ _ _ _ _ _ _ _ _ _ _ _ _ _)
   | (with_reducible exact frame_find.mono _ _)
   | (with_reducible exact frame_number.mono _ _ _)
   | (with_reducible exact frame_status.mono _ _)
   | (with_reducible exact LeO.refl _)
   | (with_reducible exact LeO.none _)
   | (with_reducible refine LeO.ite ?_ ?_)
   | (with_reducible refine LeO.bind ?_ (fun _ => ?_))
   | exact ih0 _ _ _ _ _ _ _ _ _ _ _ _ _ _ _ _ _ _ _ _ _ _ _
   | exact ih1 _ _ _ _ _ _ _ _ _ _ _ _ _ _ _ _ _ _ _ _ _ _
   | exact ih2 _ _ _ _ _ _ _ _ _
   | exact ih3 _ _ _ _ _ _ _ _ _ _ _ _ _ _ _ _ _ _ _ _ _ _ _
   | exact ih4 _ _ _ _ _ _ _ _ _ _ _ _ _ _ _ _ _ _ _ _ _ _ _
   | exact frame_find.mono _ _
   | exact frame_number.mono _ _ _
   | exact frame_status.mono _ _
   | exact LeO.none _
   | refine LeO.ite ?_ ?_
   | refine LeO.bind ?_ (fun _ => ?_)
  ·intro y0 y1 y2 y3 y4 y5 y6 y7 y8 y9 y10 y11 y12 y13 y14 y15 y16 y17 y18 y19 y20 y21 y22
   unfold frame_Reply.j2
   repeat' first
   | (with_reducible exact ih0 _ _ _ _ _ _ _ _ _ _ _ _ _ _ _ _ _ _ _ _ _ _ _)
   | (with_reducible exact ih1 _ _ _ _ _ _ _ _ _ _ _ _ _ _ _ _ _ _ _ _ _ _)
   | (with_reducible exact ih2 _ _ _ _ _ _ _ _ _)
   | (with_reducible exact ih3 _ _ _ _ _ _ _ _ _ _ _ _ _ _ _ _ _ _ _ _ _ _ _)
   | (with_reducible exact ih4 _ _ _ _ _ _ _ _ _ _ _ _ _ _ _ _ _ _ _ _ _ _ _)
   | (with_reducible exact frame_find.mono _ _)
   | (with_reducible exact frame_number.mono _ _ _)
   | (with_reducible exact frame_status.mono _ _)
   | (with_reducible exact LeO.refl _)
   | (with_reducible exact LeO.none _)
   | (with_reducible refine LeO.ite ?_ ?_)
   | (with_reducible refine LeO.bind ?_ (fun _ => ?_))
   | exact ih0 _ _ _ _ _ _ _ _ _ _ _ _ _ _ _ _ _ _ _ _ _ _ _
   | exact ih1 _ _ _ _ _ _ _ _ _ _ _ _ _ _ _ _ _ _ _ _ _ _
   | exact ih2 _ _ _ _ _ _ _ _ _
   | exact ih3 _ _ _ _ _ _ _ _ _ _ _ _ _ _ _ _ _ _ _ _ _ _ _
   | exact ih4 _ _ _ _ _ _ _ _ _ _ _ _ _ _ _ _ _ _ _ _ _ _ _
   | exact frame_find.mono _ _
   | exact frame_number.mono _ _ _
   | exact frame_status.mono _ _
   | exact LeO.none _
   | refine LeO.ite ?_ ?_
   | refine LeO.bind ?_ (fun _ => ?_)
theorem frame_Reply.mono : ∀ a0 a1 a2 a3 a4 a5 a6 a7 a8 a9 a10 a11 k, LeO (frame_Reply.f k a0 a1 a2 a3 a4 a5 a6 a7 a8 a9 a10 a11) (frame_Reply.f (k + 1) a0 a1 a2 a3 a4 a5 a6 a7 a8 a9 a10 a11) := by
 intro a0 a1 a2 a3 a4 a5 a6 a7 a8 a9 a10 a11 k
 obtain ⟨ih0, ih1, ih2, ih3, ih4⟩ := frame_Reply.mono_l k; unfold frame_Reply.f
 repeat' first
   | (with_reducible exact ih0 _ _ _ _ _ _ _ _ _ _ _ _ _ _ _ _ _ _ _ _ _ _ _)
   | (with_reducible exact ih1 _ _ _ _ _ _ _ _ _ _ _ _ _ _ _ _ _ _ _ _ _ _)
   | (with_reducible exact ih2 _ _ _ _ _ _ _ _ _)
   | (with_reducible exact ih3 _ _ _ _ _ _ _ _ _ _ _ _ _ _ _ _ _ _ _ _ _ _ _)
   | (with_reducible exact ih4 _ _ _ _ _ _ _ _ _ _ _ _ _ _ _ _ _ _ _ _ _ _ _)
   | (with_reducible exact frame_find.mono _ _)
   | (with_reducible exact frame_number.mono _ _ _)
   | (with_reducible exact frame_status.mono _ _)
   | (with_reducible exact LeO.refl _)
   | (with_reducible exact LeO.none _)
   | (with_reducible refine LeO.ite ?_ ?_)
   | (with_reducible refine LeO.bind ?_ (fun _ => ?_))
   | exact ih0 _ _ _ _ _ _ _ _ _ _ _ _ _ _ _ _ _ _ _ _ _ _ _
   | exact ih1 _ _ _ _ _ _ _ _ _ _ _ _ _ _ _ _ _ _ _ _ _ _
   | exact ih2 _ _ _ _ _ _ _ _ _
   | exact ih3 _ _ _ _ _ _ _ _ _ _ _ _ _ _ _ _ _ _ _ _ _ _ _
   | exact ih4 _ _ _ _ _ _ _ _ _ _ _ _ _ _ _ _ _ _ _ _ _ _ _
   | exact frame_find.mono _ _
   | exact frame_number.mono _ _ _
   | exact frame_status.mono _ _
   | exact LeO.none _
   | refine LeO.ite ?_ ?_
   | refine LeO.bind ?_ (fun _ => ?_)
end Go.Proofs.Ytdepkgikdmlgiaa.P
