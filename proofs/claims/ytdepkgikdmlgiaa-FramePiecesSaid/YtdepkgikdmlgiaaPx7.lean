/- Lean functions for the Go functions that the laws of this seat use, and the proofs that the Go code computes them; conditions: the readings that each theorem names. Written by a program. -/
import Derived.Test.YtdepkgikdmlgiaaPx0
import Derived.Test.YtdepkgikdmlgiaaPx3
import Derived.Test.YtdepkgikdmlgiaaShort
namespace Go.Proofs.Ytdepkgikdmlgiaa.P
open Go.RowKit Go.Proofs.YtdepkgikdmlgiaaW.PrintWords Go.Proofs.YtdepkgikdmlgiaaW.PrintLast Go.Proofs.YtdepkgikdmlgiaaW.PrintMore
set_option linter.unusedVariables false
set_option linter.unusedSimpArgs false

/-! ### frame_take: function 41 -/
def frame_take.l0 : Nat → ByteArray → Int → Int → Int → Option (Int)
 | 0, _, _, _, _ => none
 | k + 1, x0, x2, x5, x6 => if x6 < x5 then (if 0 ≤ x6 then (if x6 < (x0.size : Int) then (frame_take.l0 k x0 (Go.bits .or .u64 (IntKind.u64.wrap (x2 * 256)) (IntKind.u64.wrap (bt x0 x6))) x5 (wrap64 (x6 + 1))) else (none)) else (none)) else (some x2)
def frame_take.f (k : Nat) (a0 : ByteArray) : Option (Int) := frame_take.l0 k a0 0 (a0.size : Int) 0
theorem frame_take.mono_l : ∀ k, (∀ y0 y1 y2 y3, LeO (frame_take.l0 k y0 y1 y2 y3) (frame_take.l0 (k + 1) y0 y1 y2 y3))
 | 0 => fun _ _ _ _ r h => by simp [frame_take.l0] at h
 | k + 1 => by
  have ih0 := frame_take.mono_l k
  ·intro y0 y1 y2 y3
   unfold frame_take.l0
   repeat' first | (with_reducible first | apply ih0 | exact LeO.refl _ | exact LeO.none _ | refine LeO.ite ?_ ?_ | refine LeO.bind ?_ (fun _ => ?_)) | apply ih0 | exact LeO.none _ | refine LeO.ite ?_ ?_ | refine LeO.bind ?_ (fun _ => ?_)
theorem frame_take.mono : ∀ a0 k, LeO (frame_take.f k a0) (frame_take.f (k + 1) a0) := by
 intro a0 k
 have ih0 := frame_take.mono_l k; unfold frame_take.f
 repeat' first | (with_reducible first | apply ih0 | exact LeO.refl _ | exact LeO.none _ | refine LeO.ite ?_ ?_ | refine LeO.bind ?_ (fun _ => ?_)) | apply ih0 | exact LeO.none _ | refine LeO.ite ?_ ?_ | refine LeO.bind ?_ (fun _ => ?_)
set_option maxHeartbeats 8000000 in
set_option maxRecDepth 100000 in
theorem frame_take.calls (k : Nat) (a0 : ByteArray) (r : Int) (w : World) (h : frame_take.f k a0 = some r) :
  Calls Try.prog 41 #[.string a0] w fun e w' => e = .returned (.int .u64 r) ∧ Drawn0 w w' := by
 have H : (frame_take.l0 k a0 0 (a0.size : Int) 0) = some r := h; clear h; have H' := Aside0.mk H; clear H; go_enter Try.func41, Try.ntmps41; go_wp2
 go_loopg [2, 6] k (fun kq v2 v6 w' => ∃ (x2_1 : Int) (x6_1 : Int), v2 = .int .u64 x2_1 ∧ v6 = .int .i64 x6_1 ∧ Aside0 (frame_take.l0 kq a0 x2_1 (a0.size : Int) x6_1 = some r) ∧ Aside0 (kq ≤ k) ∧ Drawn0 w w')
 case atStart => exact ⟨(0), (0), (by first | rfl | (simp; done) | (simp [*]; done)), (by first | rfl | (simp; done) | (simp [*]; done)), H', ⟨Nat.le_refl _⟩, by repeat (first | exact Drawn0.refl _ | apply Drawn0.step)⟩
 case round =>
  clear H'; obtain ⟨x2_1, x6_1, rfl, rfl, HA, HK1, ⟨m1, rfl⟩⟩ := hrel; cases gk with
  | zero => exact absurd HA.out (by simp [frame_take.l0])
  | succ k1 =>
   have H := HA.out; clear HA; simp only [frame_take.l0] at H
   by_cases c2 : x6_1 < (a0.size : Int)
   ·rw [if_pos c2] at H; have c2b0 : decide (x6_1 < (a0.size : Int)) = true := decide_eq_true c2; clear c2
    by_cases c3 : 0 ≤ x6_1
    ·rw [if_pos c3] at H; have c3b0 : decide (0 ≤ x6_1) = true := decide_eq_true c3; clear c3
     by_cases c4 : x6_1 < (a0.size : Int)
     ·rw [if_pos c4] at H; have c4b0 : decide (x6_1 < (a0.size : Int)) = true := decide_eq_true c4; clear c4; have H' := Aside0.mk H; clear H; have p5 : 0 ≤ (x6_1 : Int) := of_decide_eq_true (by first | (with_reducible assumption) | assumption); have q5 : x6_1 < (a0.size : Int) := of_decide_eq_true (by first | (with_reducible assumption) | assumption)
      have hx5 := bt_at a0 x6_1; replace p5 := eq_true p5; replace q5 := eq_true q5; go_wp2
      go_roundg k1
      case measure => have := HK1.out; omega
      case rel => exact ⟨(Go.bits .or .u64 (IntKind.u64.wrap (x2_1 * 256)) (IntKind.u64.wrap (bt a0 x6_1))), (wrap64 (x6_1 + 1)), (by first | rfl | (simp; done) | (simp [*]; done)), (by first | rfl | (simp; done) | (simp [*]; done)), H', ⟨by have := HK1.out; omega⟩, by repeat (first | exact Drawn0.refl _ | apply Drawn0.step)⟩
     ·rw [if_neg c4] at H; exact absurd H (by simp)
    ·rw [if_neg c3] at H; exact absurd H (by simp)
   ·rw [if_neg c2] at H; have c2b0 : decide (x6_1 < (a0.size : Int)) = false := decide_eq_false c2; clear c2; obtain rfl := Option.some.inj H; go_wp2; go_ret
    exact ⟨by first | rfl | (simp; done) | (simp [*]; done), by repeat (first | exact Drawn0.refl _ | apply Drawn0.step)⟩

/-! ### frame_Unpack: function 15 -/
mutual
def frame_Unpack.j0 : Nat → ByteArray → Bool → Option (Bool × Int × Int × Int × Int × ByteArray × ByteArray × ByteArray × Int × Int)
 | 0, _, _ => none
 | k + 1, x0, x22 => if x22 = true then (some (false, 0, 0, 0, 0, (⟨#[]⟩ : ByteArray), (⟨#[]⟩ : ByteArray), (⟨#[]⟩ : ByteArray), 0, 6)) else (if (x0.size : Int) < 24 then (some (false, 0, 0, 0, 0, (⟨#[]⟩ : ByteArray), (⟨#[]⟩ : ByteArray), (⟨#[]⟩ : ByteArray), 0, 3)) else (if 0 < (x0.size : Int) then (if 1 < (x0.size : Int) then (if 6 ≤ 8 then (if 8 ≤ (x0.size : Int) then ((frame_take.f k (x0.extract 6 8)).bind fun t122 => (if 12 ≤ 16 then (if 16 ≤ (x0.size : Int) then ((frame_take.f k (x0.extract 12 16)).bind fun t123 => (if 16 ≤ 24 then (if 24 ≤ (x0.size : Int) then ((frame_take.f k (x0.extract 16 24)).bind fun t124 => (if 2 ≤ 4 then (if 4 ≤ (x0.size : Int) then ((frame_take.f k (x0.extract 2 4)).bind fun t126 => (if 4 < (x0.size : Int) then (if 8 ≤ 12 then (if 12 ≤ (x0.size : Int) then ((frame_take.f k (x0.extract 8 12)).bind fun t127 => (if 5 < (x0.size : Int) then (if (bt x0 5) = 0 then (if ((bt x0 0) = 129) then (frame_Unpack.j1 k x0 (wrap64 (t126)) (wrap64 (bt x0 4)) (wrap64 (t127)) (wrap64 ((wrap64 ((wrap64 (t127)) - (wrap64 (t126)))) - (wrap64 (bt x0 4)))) (decide ((wrap64 ((wrap64 ((wrap64 (t127)) - (wrap64 (t126)))) - (wrap64 (bt x0 4)))) < 0)) ((bt x0 0) == 129) (bt x0 1) (IntKind.u16.wrap (t122)) ((t123) % 4294967296) t124 (⟨#[]⟩ : ByteArray) (⟨#[]⟩ : ByteArray) (⟨#[]⟩ : ByteArray)) else (if (IntKind.u16.wrap (t122)) = 0 then (frame_Unpack.j1 k x0 (wrap64 (t126)) (wrap64 (bt x0 4)) (wrap64 (t127)) (wrap64 ((wrap64 ((wrap64 (t127)) - (wrap64 (t126)))) - (wrap64 (bt x0 4)))) (decide ((wrap64 ((wrap64 ((wrap64 (t127)) - (wrap64 (t126)))) - (wrap64 (bt x0 4)))) < 0)) ((bt x0 0) == 129) (bt x0 1) (IntKind.u16.wrap (t122)) ((t123) % 4294967296) t124 (⟨#[]⟩ : ByteArray) (⟨#[]⟩ : ByteArray) (⟨#[]⟩ : ByteArray)) else (frame_Unpack.j1 k x0 (wrap64 (t126)) (wrap64 (bt x0 4)) (wrap64 (t127)) (wrap64 ((wrap64 ((wrap64 (t127)) - (wrap64 (t126)))) - (wrap64 (bt x0 4)))) ((IntKind.u16.wrap (t122)) != 0) ((bt x0 0) == 129) (bt x0 1) (IntKind.u16.wrap (t122)) ((t123) % 4294967296) t124 (⟨#[]⟩ : ByteArray) (⟨#[]⟩ : ByteArray) (⟨#[]⟩ : ByteArray)))) else (frame_Unpack.j1 k x0 (wrap64 (t126)) (wrap64 (bt x0 4)) (wrap64 (t127)) (wrap64 ((wrap64 ((wrap64 (t127)) - (wrap64 (t126)))) - (wrap64 (bt x0 4)))) ((bt x0 5) != 0) ((bt x0 0) == 129) (bt x0 1) (IntKind.u16.wrap (t122)) ((t123) % 4294967296) t124 (⟨#[]⟩ : ByteArray) (⟨#[]⟩ : ByteArray) (⟨#[]⟩ : ByteArray))) else (none))) else (none)) else (none)) else (none))) else (none)) else (none))) else (none)) else (none))) else (none)) else (none))) else (none)) else (none)) else (none)) else (none)))
def frame_Unpack.j1 : Nat → ByteArray → Int → Int → Int → Int → Bool → Bool → Int → Int → Int → Int → ByteArray → ByteArray → ByteArray → Option (Bool × Int × Int × Int × Int × ByteArray × ByteArray × ByteArray × Int × Int)
 | 0, _, _, _, _, _, _, _, _, _, _, _, _, _, _ => none
 | k + 1, x0, x6, x7, x8, x9, x61, x126000, x126001, x126002, x126003, x126004, x126005, x126006, x126007 => if x61 = true then (some (false, 0, 0, 0, 0, (⟨#[]⟩ : ByteArray), (⟨#[]⟩ : ByteArray), (⟨#[]⟩ : ByteArray), 0, 6)) else ((frame_fits.f x6 x7 x9).bind fun t128 => (if t128 = true then (if (x0.size : Int) < (wrap64 (24 + x8)) then (some (false, 0, 0, 0, 0, (⟨#[]⟩ : ByteArray), (⟨#[]⟩ : ByteArray), (⟨#[]⟩ : ByteArray), 0, 3)) else (if 24 ≤ (wrap64 (24 + x8)) then (if (wrap64 (24 + x8)) ≤ (x0.size : Int) then (if 0 ≤ x7 then (if x7 ≤ ((x0.extract 24 ((wrap64 (24 + x8)) : Int).toNat).size : Int) then (if x7 ≤ (wrap64 (x7 + x6)) then (if (wrap64 (x7 + x6)) ≤ ((x0.extract 24 ((wrap64 (24 + x8)) : Int).toNat).size : Int) then (if 0 ≤ (wrap64 (x7 + x6)) then (some (x126000, x126001, x126002, x126003, x126004, (x0.extract 24 ((wrap64 (24 + x8)) : Int).toNat).extract 0 (x7 : Int).toNat, (x0.extract 24 ((wrap64 (24 + x8)) : Int).toNat).extract (x7 : Int).toNat ((wrap64 (x7 + x6)) : Int).toNat, (x0.extract 24 ((wrap64 (24 + x8)) : Int).toNat).extract ((wrap64 (x7 + x6)) : Int).toNat (x0.extract 24 ((wrap64 (24 + x8)) : Int).toNat).size, wrap64 (24 + x8), 0)) else (none)) else (none)) else (none)) else (none)) else (none)) else (none)) else (none))) else (some (false, 0, 0, 0, 0, (⟨#[]⟩ : ByteArray), (⟨#[]⟩ : ByteArray), (⟨#[]⟩ : ByteArray), 0, 7))))
end
def frame_Unpack.f (k : Nat) (a0 : ByteArray) : Option (Bool × Int × Int × Int × Int × ByteArray × ByteArray × ByteArray × Int × Int) := if a0.toList = ([] : List UInt8) then (frame_Unpack.j0 k a0 false) else (if 0 < (a0.size : Int) then (if (bt a0 0) = 128 then (frame_Unpack.j0 k a0 false) else (frame_Unpack.j0 k a0 ((bt a0 0) != 129))) else (none))
theorem frame_Unpack.mono_l : ∀ k, (∀ y0 y1, LeO (frame_Unpack.j0 k y0 y1) (frame_Unpack.j0 (k + 1) y0 y1)) ∧ (∀ y0 y1 y2 y3 y4 y5 y6 y7 y8 y9 y10 y11 y12 y13, LeO (frame_Unpack.j1 k y0 y1 y2 y3 y4 y5 y6 y7 y8 y9 y10 y11 y12 y13) (frame_Unpack.j1 (k + 1) y0 y1 y2 y3 y4 y5 y6 y7 y8 y9 y10 y11 y12 y13))
 | 0 => ⟨fun _ _ r h => by simp [frame_Unpack.j0] at h, fun _ _ _ _ _ _ _ _ _ _ _ _ _ _ r h => by simp [frame_Unpack.j1] at h⟩
 | k + 1 => by
  obtain ⟨ih0, ih1⟩ := frame_Unpack.mono_l k; refine ⟨?_, ?_⟩
  all_goals intros
  all_goals (first | unfold frame_Unpack.j0 | unfold frame_Unpack.j1)
  all_goals repeat' first | (with_reducible first | apply ih0 | apply ih1 | apply frame_take.mono | exact LeO.refl _ | exact LeO.none _ | refine LeO.ite ?_ ?_ | refine LeO.bind ?_ (fun _ => ?_)) | apply ih0 | apply ih1 | apply frame_take.mono | exact LeO.none _ | refine LeO.ite ?_ ?_ | refine LeO.bind ?_ (fun _ => ?_)
theorem frame_Unpack.mono : ∀ a0 k, LeO (frame_Unpack.f k a0) (frame_Unpack.f (k + 1) a0) := by
 intro a0 k
 obtain ⟨ih0, ih1⟩ := frame_Unpack.mono_l k; unfold frame_Unpack.f
 repeat' first | (with_reducible first | apply ih0 | apply ih1 | apply frame_take.mono | exact LeO.refl _ | exact LeO.none _ | refine LeO.ite ?_ ?_ | refine LeO.bind ?_ (fun _ => ?_)) | apply ih0 | apply ih1 | apply frame_take.mono | exact LeO.none _ | refine LeO.ite ?_ ?_ | refine LeO.bind ?_ (fun _ => ?_)
def frame_Unpack.T5 : Bool × List (List Nat × List Nat) := (true, [([], []), ([0], [0]), ([1], [1]), ([], []), ([3], [3]), ([], []), ([5], [5]), ([6], [6]), ([7], [7]), ([], []), ([9], [9]), ([10, 7], [10]), ([11], [11]), ([], []), ([13], [13]), ([14, 11], [14]), ([2, 4, 8, 12, 15], [2, 4, 8, 12, 15]), ([], []), ([17, 16, 15, 0, 1, 2, 3, 4, 5, 6, 7, 8, 9, 10, 11, 12, 13, 14, 15, 16, 17], [16, 17])])
def frame_Unpack.B5 : List Nat := [0, 1, 3, 0, 8, 0, 32, 96, 224, 0, 512, 1760, 3808, 0, 8192, 28384, 65535, 0, 262143]
theorem frame_Unpack.tab5 : rtab .any (opsOf Try.f15 5) = frame_Unpack.T5 := by kernel_rfl
theorem frame_Unpack.bits5 : waitsOk frame_Unpack.T5.2 frame_Unpack.B5 = true := by kernel_rfl
def frame_Unpack.T6 : Bool × List (List Nat × List Nat) := (true, [([], []), ([0], [0]), ([1], [1]), ([2], [2]), ([], []), ([4], [4]), ([5], [5]), ([], []), ([7], [7]), ([8, 2], [8]), ([9], [9]), ([3, 9, 0, 1, 2, 3], [3]), ([6, 11, 0, 1, 2, 3, 4, 5, 6, 11], [6]), ([10, 12, 0, 1, 2, 3, 4, 5, 6, 7, 8, 9, 10, 11, 12], [10])])
def frame_Unpack.B6 : List Nat := [0, 1, 3, 7, 0, 16, 48, 0, 128, 391, 903, 911, 3071, 8191]
theorem frame_Unpack.tab6 : rtab .any (opsOf Try.f15 6) = frame_Unpack.T6 := by kernel_rfl
theorem frame_Unpack.bits6 : waitsOk frame_Unpack.T6.2 frame_Unpack.B6 = true := by kernel_rfl
def frame_Unpack.T17 : Bool × List (List Nat × List Nat) := (true, [([], []), ([], []), ([0, 1], [0, 1]), ([], []), ([], []), ([], []), ([], []), ([5, 6], [5, 6]), ([3, 4, 7], [3, 4, 7]), ([], []), ([], []), ([], []), ([10, 11], [10, 11]), ([9, 12], [9, 12]), ([0, 1, 2], []), ([14, 2, 0, 1, 2], [2, 14]), ([0, 1, 2, 3, 4, 5, 6, 7, 8, 14, 15], []), ([16, 8, 15, 0, 1, 2, 3, 4, 5, 6, 7, 8, 14, 15], [8, 16]), ([0, 1, 2, 3, 4, 5, 6, 7, 8, 9, 10, 11, 12, 13, 14, 15, 16, 17], []), ([18, 13, 17, 0, 1, 2, 3, 4, 5, 6, 7, 8, 9, 10, 11, 12, 13, 14, 15, 16, 17], [13, 18])])
def frame_Unpack.B17 : List Nat := [0, 0, 3, 0, 0, 0, 0, 96, 248, 0, 0, 0, 3072, 7680, 7, 16391, 49663, 115199, 262143, 524287]
theorem frame_Unpack.tab17 : rtab .any (opsOf Try.f15 17) = frame_Unpack.T17 := by kernel_rfl
theorem frame_Unpack.bits17 : waitsOk frame_Unpack.T17.2 frame_Unpack.B17 = true := by kernel_rfl

end Go.Proofs.Ytdepkgikdmlgiaa.P
