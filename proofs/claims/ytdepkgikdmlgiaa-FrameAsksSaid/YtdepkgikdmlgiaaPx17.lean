/- Lean functions for the Go functions that the laws of this seat use, and the proofs that the Go code computes them; conditions: the readings that each theorem names. Written by a program. -/
import Derived.Test.YtdepkgikdmlgiaaPx0
import Derived.Test.YtdepkgikdmlgiaaShort
namespace Go.Proofs.Ytdepkgikdmlgiaa.P
open Go.RowKit Go.Proofs.YtdepkgikdmlgiaaW.PrintWords Go.Proofs.YtdepkgikdmlgiaaW.PrintLast Go.Proofs.YtdepkgikdmlgiaaW.PrintMore
set_option linter.unusedVariables false
set_option linter.unusedSimpArgs false

/-! ### tallboyref29_op: function 47 -/
mutual
def tallboyref29_op.j0 : Nat → Int → Int → Bool → Option (Int × Bool)
 | 0, _, _, _ => none
 | k + 1, x0, x4, x5 => if x5 = true then (some (1, (x0 == 9))) else (if x4 = 12 then (tallboyref29_op.j1 k x0 x4 (x4 == 12)) else (tallboyref29_op.j1 k x0 x4 (x4 == 13)))
def tallboyref29_op.j1 : Nat → Int → Int → Bool → Option (Int × Bool)
 | 0, _, _, _ => none
 | k + 1, x0, x4, x10 => if x10 = true then (some (2, (x0 == 13))) else (if x4 = 1 then (tallboyref29_op.j2 k x0 x4 (x4 == 1)) else (tallboyref29_op.j2 k x0 x4 (x4 == 17)))
def tallboyref29_op.j2 : Nat → Int → Int → Bool → Option (Int × Bool)
 | 0, _, _, _ => none
 | k + 1, x0, x4, x15 => if x15 = true then (some (5, (x0 == 17))) else (if x4 = 2 then (tallboyref29_op.j3 k x0 x4 (x4 == 2)) else (tallboyref29_op.j3 k x0 x4 (x4 == 18)))
def tallboyref29_op.j3 : Nat → Int → Int → Bool → Option (Int × Bool)
 | 0, _, _, _ => none
 | k + 1, x0, x4, x20 => if x20 = true then (some (6, (x0 == 18))) else (if x4 = 3 then (tallboyref29_op.j4 k x0 x4 (x4 == 3)) else (tallboyref29_op.j4 k x0 x4 (x4 == 19)))
def tallboyref29_op.j4 : Nat → Int → Int → Bool → Option (Int × Bool)
 | 0, _, _, _ => none
 | k + 1, x0, x4, x25 => if x25 = true then (some (7, (x0 == 19))) else (if x4 = 4 then (tallboyref29_op.j5 k x0 x4 (x4 == 4)) else (tallboyref29_op.j5 k x0 x4 (x4 == 20)))
def tallboyref29_op.j5 : Nat → Int → Int → Bool → Option (Int × Bool)
 | 0, _, _, _ => none
 | k + 1, x0, x4, x30 => if x30 = true then (some (11, (x0 == 20))) else (if x4 = 5 then (tallboyref29_op.j6 k x0 x4 (x4 == 5)) else (tallboyref29_op.j6 k x0 x4 (x4 == 21)))
def tallboyref29_op.j6 : Nat → Int → Int → Bool → Option (Int × Bool)
 | 0, _, _, _ => none
 | k + 1, x0, x4, x35 => if x35 = true then (some (12, (x0 == 21))) else (if x4 = 6 then (tallboyref29_op.j7 k x0 x4 (x4 == 6)) else (tallboyref29_op.j7 k x0 x4 (x4 == 22)))
def tallboyref29_op.j7 : Nat → Int → Int → Bool → Option (Int × Bool)
 | 0, _, _, _ => none
 | k + 1, x0, x4, x40 => if x40 = true then (some (13, (x0 == 22))) else (if x4 = 8 then (tallboyref29_op.j8 k x0 x4 (x4 == 8)) else (tallboyref29_op.j8 k x0 x4 (x4 == 24)))
def tallboyref29_op.j8 : Nat → Int → Int → Bool → Option (Int × Bool)
 | 0, _, _, _ => none
 | k + 1, x0, x4, x45 => if x45 = true then (some (15, (x0 == 24))) else (if x4 = 14 then (tallboyref29_op.j9 k x0 x4 (x4 == 14)) else (tallboyref29_op.j9 k x0 x4 (x4 == 25)))
def tallboyref29_op.j9 : Nat → Int → Int → Bool → Option (Int × Bool)
 | 0, _, _, _ => none
 | k + 1, x0, x4, x50 => if x50 = true then (some (8, (x0 == 25))) else (if x4 = 15 then (tallboyref29_op.j10 k x0 x4 (x4 == 15)) else (tallboyref29_op.j10 k x0 x4 (x4 == 26)))
def tallboyref29_op.j10 : Nat → Int → Int → Bool → Option (Int × Bool)
 | 0, _, _, _ => none
 | k + 1, x0, x4, x55 => if x55 = true then (some (9, (x0 == 26))) else (if x4 = 28 then (some (14, false)) else (if x4 = 29 then (tallboyref29_op.j11 k x0 (x4 == 29)) else (tallboyref29_op.j11 k x0 (x4 == 30))))
def tallboyref29_op.j11 : Nat → Int → Bool → Option (Int × Bool)
 | 0, _, _ => none
 | k + 1, x0, x62 => if x62 = true then (some (3, (x0 == 30))) else (some (0, false))
end
def tallboyref29_op.f (k : Nat) (a0 : Int) : Option (Int × Bool) := if a0 = 0 then (tallboyref29_op.j0 k a0 a0 (a0 == 0)) else (tallboyref29_op.j0 k a0 a0 (a0 == 9))
theorem tallboyref29_op.mono_l : ∀ k, (∀ y0 y1 y2, LeO (tallboyref29_op.j0 k y0 y1 y2) (tallboyref29_op.j0 (k + 1) y0 y1 y2)) ∧ (∀ y0 y1 y2, LeO (tallboyref29_op.j1 k y0 y1 y2) (tallboyref29_op.j1 (k + 1) y0 y1 y2)) ∧ (∀ y0 y1 y2, LeO (tallboyref29_op.j2 k y0 y1 y2) (tallboyref29_op.j2 (k + 1) y0 y1 y2)) ∧ (∀ y0 y1 y2, LeO (tallboyref29_op.j3 k y0 y1 y2) (tallboyref29_op.j3 (k + 1) y0 y1 y2)) ∧ (∀ y0 y1 y2, LeO (tallboyref29_op.j4 k y0 y1 y2) (tallboyref29_op.j4 (k + 1) y0 y1 y2)) ∧ (∀ y0 y1 y2, LeO (tallboyref29_op.j5 k y0 y1 y2) (tallboyref29_op.j5 (k + 1) y0 y1 y2)) ∧ (∀ y0 y1 y2, LeO (tallboyref29_op.j6 k y0 y1 y2) (tallboyref29_op.j6 (k + 1) y0 y1 y2)) ∧ (∀ y0 y1 y2, LeO (tallboyref29_op.j7 k y0 y1 y2) (tallboyref29_op.j7 (k + 1) y0 y1 y2)) ∧ (∀ y0 y1 y2, LeO (tallboyref29_op.j8 k y0 y1 y2) (tallboyref29_op.j8 (k + 1) y0 y1 y2)) ∧ (∀ y0 y1 y2, LeO (tallboyref29_op.j9 k y0 y1 y2) (tallboyref29_op.j9 (k + 1) y0 y1 y2)) ∧ (∀ y0 y1 y2, LeO (tallboyref29_op.j10 k y0 y1 y2) (tallboyref29_op.j10 (k + 1) y0 y1 y2)) ∧ (∀ y0 y1, LeO (tallboyref29_op.j11 k y0 y1) (tallboyref29_op.j11 (k + 1) y0 y1))
 | 0 => ⟨fun _ _ _ r h => by simp [tallboyref29_op.j0] at h, fun _ _ _ r h => by simp [tallboyref29_op.j1] at h, fun _ _ _ r h => by simp [tallboyref29_op.j2] at h, fun _ _ _ r h => by simp [tallboyref29_op.j3] at h, fun _ _ _ r h => by simp [tallboyref29_op.j4] at h, fun _ _ _ r h => by simp [tallboyref29_op.j5] at h, fun _ _ _ r h => by simp [tallboyref29_op.j6] at h, fun _ _ _ r h => by simp [tallboyref29_op.j7] at h, fun _ _ _ r h => by simp [tallboyref29_op.j8] at h, fun _ _ _ r h => by simp [tallboyref29_op.j9] at h, fun _ _ _ r h => by simp [tallboyref29_op.j10] at h, fun _ _ r h => by simp [tallboyref29_op.j11] at h⟩
 | k + 1 => by
  obtain ⟨ih0, ih1, ih2, ih3, ih4, ih5, ih6, ih7, ih8, ih9, ih10, ih11⟩ := tallboyref29_op.mono_l k; refine ⟨?_, ?_, ?_, ?_, ?_, ?_, ?_, ?_, ?_, ?_, ?_, ?_⟩
  all_goals intros
  all_goals (first | unfold tallboyref29_op.j0 | unfold tallboyref29_op.j1 | unfold tallboyref29_op.j2 | unfold tallboyref29_op.j3 | unfold tallboyref29_op.j4 | unfold tallboyref29_op.j5 | unfold tallboyref29_op.j6 | unfold tallboyref29_op.j7 | unfold tallboyref29_op.j8 | unfold tallboyref29_op.j9 | unfold tallboyref29_op.j10 | unfold tallboyref29_op.j11)
  all_goals repeat' first | (with_reducible first | apply ih0 | apply ih1 | apply ih2 | apply ih3 | apply ih4 | apply ih5 | apply ih6 | apply ih7 | apply ih8 | apply ih9 | apply ih10 | apply ih11 | exact LeO.refl _ | exact LeO.none _ | refine LeO.ite ?_ ?_ | refine LeO.bind ?_ (fun _ => ?_)) | apply ih0 | apply ih1 | apply ih2 | apply ih3 | apply ih4 | apply ih5 | apply ih6 | apply ih7 | apply ih8 | apply ih9 | apply ih10 | apply ih11 | exact LeO.none _ | refine LeO.ite ?_ ?_ | refine LeO.bind ?_ (fun _ => ?_)
theorem tallboyref29_op.mono : ∀ a0 k, LeO (tallboyref29_op.f k a0) (tallboyref29_op.f (k + 1) a0) := by
 intro a0 k
 obtain ⟨ih0, ih1, ih2, ih3, ih4, ih5, ih6, ih7, ih8, ih9, ih10, ih11⟩ := tallboyref29_op.mono_l k; unfold tallboyref29_op.f
 repeat' first | (with_reducible first | apply ih0 | apply ih1 | apply ih2 | apply ih3 | apply ih4 | apply ih5 | apply ih6 | apply ih7 | apply ih8 | apply ih9 | apply ih10 | apply ih11 | exact LeO.refl _ | exact LeO.none _ | refine LeO.ite ?_ ?_ | refine LeO.bind ?_ (fun _ => ?_)) | apply ih0 | apply ih1 | apply ih2 | apply ih3 | apply ih4 | apply ih5 | apply ih6 | apply ih7 | apply ih8 | apply ih9 | apply ih10 | apply ih11 | exact LeO.none _ | refine LeO.ite ?_ ?_ | refine LeO.bind ?_ (fun _ => ?_)
set_option maxHeartbeats 8000000 in
set_option maxRecDepth 100000 in
theorem tallboyref29_op.calls (k : Nat) (a0 : Int) (r1 : Int) (r2 : Bool) (w : World) (h : tallboyref29_op.f k a0 = some (r1, r2)) :
  Calls Try.prog 47 #[.int .u8 a0] w fun e w' => e = .returned (.tuple #[.int .i64 r1, .bool r2]) ∧ Drawn0 w w' := by
 have H : (if a0 = 0 then (tallboyref29_op.j0 k a0 a0 (a0 == 0)) else (tallboyref29_op.j0 k a0 a0 (a0 == 9))) = some (r1, r2) := h; clear h; have HC2 := Aside0.mk H; clear H; go_enter Try.func47, Try.ntmps47
 go_upto_if 5 with (fail)
 go_cut [5] (fun v5 wc => ∃ (kq : Nat) (x5_1 : Bool), v5 = .bool x5_1 ∧ Aside0 (tallboyref29_op.j0 kq a0 a0 x5_1 = some (r1, r2)) ∧ Aside0 (kq ≤ k) ∧ Drawn0 w wc)
 case first =>
  have H := HC2.out; clear HC2
  by_cases c3 : a0 = 0
  ·rw [if_pos c3] at H; have c3b0 : (a0 == 0) = true := beq_iff_eq.mpr c3; have c3b1 : (a0 != 0) = false := bne_eq_false_iff_eq.mpr c3; clear c3
   (first | rw [c3b0] | (simp only [i64_w, i32_w]; rw [c3b0]) | skip)
   have H' := Aside0.mk H; clear H; go_wp2
   go_meet
   case rel => exact ⟨_, ((a0 == 0)), (by first | rfl | (simp; done) | (simp [*]; done)), H', ⟨by first | omega | exact Nat.le_refl _⟩, by repeat (first | exact Drawn0.refl _ | apply Drawn0.step)⟩
  ·rw [if_neg c3] at H; have c3b0 : (a0 == 0) = false := beq_eq_false_iff_ne.mpr c3; have c3b1 : (a0 != 0) = true := bne_iff_ne.mpr c3
   (first | rw [c3b0] | (simp only [i64_w, i32_w]; rw [c3b0]) | skip)
   have H' := Aside0.mk H; clear H; go_wp2
   go_meet
   case rel => exact ⟨_, ((a0 == 9)), (by first | rfl | (simp; done) | (simp [*]; done)), H', ⟨by first | omega | exact Nat.le_refl _⟩, by repeat (first | exact Drawn0.refl _ | apply Drawn0.step)⟩
 case rest =>
  clear HC2; (try clear c3); (try clear c3b0); (try clear c3b1); obtain ⟨kq, x5_1, rfl, HA, HJ1, ⟨mc1, rfl⟩⟩ := hcut; cases kq with
  | zero => exact absurd HA.out (by simp [tallboyref29_op.j0])
  | succ kj1 =>
   have H := HA.out; clear HA; simp only [tallboyref29_op.j0] at H
   by_cases c4 : x5_1 = true
   ·subst c4; rw [if_pos rfl] at H; simp only [Option.some.injEq, Prod.mk.injEq] at H; obtain ⟨rfl, rfl⟩ := H; go_wp2
    go_ret2
    exact ⟨by first | rfl | (simp; done) | (simp [*]; done), by repeat (first | exact Drawn0.refl _ | apply Drawn0.step)⟩
   ·replace c4 := Bool.eq_false_iff.mpr c4; subst c4; rw [if_neg (show ¬ (false = true) by decide)] at H; have HC5 := Aside0.mk H; clear H
    go_upto_if 10 with (fail)
    go_cut [10] (fun v10 wc => ∃ (kq : Nat) (x10_4 : Bool), v10 = .bool x10_4 ∧ Aside0 (tallboyref29_op.j1 kq a0 a0 x10_4 = some (r1, r2)) ∧ Aside0 (kq ≤ kj1) ∧ Drawn0 w wc)
    case first =>
     have H := HC5.out; clear HC5
     by_cases c6 : a0 = 12
     ·rw [if_pos c6] at H; have c6b0 : (a0 == 12) = true := beq_iff_eq.mpr c6; have c6b1 : (a0 != 12) = false := bne_eq_false_iff_eq.mpr c6; clear c6
      (first | rw [c6b0] | (simp only [i64_w, i32_w]; rw [c6b0]) | skip)
      have H' := Aside0.mk H; clear H; go_wp2
      go_meet
      case rel => exact ⟨_, ((a0 == 12)), (by first | rfl | (simp; done) | (simp [*]; done)), H', ⟨by have := HJ1.out; first | omega | exact Nat.le_refl _⟩, by repeat (first | exact Drawn0.refl _ | apply Drawn0.step)⟩
     ·rw [if_neg c6] at H; have c6b0 : (a0 == 12) = false := beq_eq_false_iff_ne.mpr c6; have c6b1 : (a0 != 12) = true := bne_iff_ne.mpr c6
      (first | rw [c6b0] | (simp only [i64_w, i32_w]; rw [c6b0]) | skip)
      have H' := Aside0.mk H; clear H; go_wp2
      go_meet
      case rel => exact ⟨_, ((a0 == 13)), (by first | rfl | (simp; done) | (simp [*]; done)), H', ⟨by have := HJ1.out; first | omega | exact Nat.le_refl _⟩, by repeat (first | exact Drawn0.refl _ | apply Drawn0.step)⟩
    case rest =>
     clear HC5; (try clear c3); (try clear c3b0); (try clear c3b1); (try clear c4); (try clear c6); (try clear c6b0); (try clear c6b1); obtain ⟨kq, x10_4, rfl, HA, HJ4, ⟨mc4, rfl⟩⟩ := hcut; cases kq with
     | zero => exact absurd HA.out (by simp [tallboyref29_op.j1])
     | succ kj4 =>
      have H := HA.out; clear HA; simp only [tallboyref29_op.j1] at H
      by_cases c7 : x10_4 = true
      ·subst c7; rw [if_pos rfl] at H; simp only [Option.some.injEq, Prod.mk.injEq] at H; obtain ⟨rfl, rfl⟩ := H; go_wp2
       go_ret2
       exact ⟨by first | rfl | (simp; done) | (simp [*]; done), by repeat (first | exact Drawn0.refl _ | apply Drawn0.step)⟩
      ·replace c7 := Bool.eq_false_iff.mpr c7; subst c7; rw [if_neg (show ¬ (false = true) by decide)] at H; have HC8 := Aside0.mk H; clear H
       go_upto_if 15 with (fail)
       go_cut [15] (fun v15 wc => ∃ (kq : Nat) (x15_7 : Bool), v15 = .bool x15_7 ∧ Aside0 (tallboyref29_op.j2 kq a0 a0 x15_7 = some (r1, r2)) ∧ Aside0 (kq ≤ kj4) ∧ Drawn0 w wc)
       case first =>
        have H := HC8.out; clear HC8
        by_cases c9 : a0 = 1
        ·rw [if_pos c9] at H; have c9b0 : (a0 == 1) = true := beq_iff_eq.mpr c9; have c9b1 : (a0 != 1) = false := bne_eq_false_iff_eq.mpr c9; clear c9
         (first | rw [c9b0] | (simp only [i64_w, i32_w]; rw [c9b0]) | skip)
         have H' := Aside0.mk H; clear H; go_wp2
         go_meet
         case rel => exact ⟨_, ((a0 == 1)), (by first | rfl | (simp; done) | (simp [*]; done)), H', ⟨by have := HJ1.out; have := HJ4.out; first | omega | exact Nat.le_refl _⟩, by repeat (first | exact Drawn0.refl _ | apply Drawn0.step)⟩
        ·rw [if_neg c9] at H; have c9b0 : (a0 == 1) = false := beq_eq_false_iff_ne.mpr c9; have c9b1 : (a0 != 1) = true := bne_iff_ne.mpr c9
         (first | rw [c9b0] | (simp only [i64_w, i32_w]; rw [c9b0]) | skip)
         have H' := Aside0.mk H; clear H; go_wp2
         go_meet
         case rel => exact ⟨_, ((a0 == 17)), (by first | rfl | (simp; done) | (simp [*]; done)), H', ⟨by have := HJ1.out; have := HJ4.out; first | omega | exact Nat.le_refl _⟩, by repeat (first | exact Drawn0.refl _ | apply Drawn0.step)⟩
       case rest =>
        clear HC8; (try clear c3); (try clear c3b0); (try clear c3b1); (try clear c4); (try clear c6); (try clear c6b0); (try clear c6b1); (try clear c7); (try clear c9); (try clear c9b0); (try clear c9b1); obtain ⟨kq, x15_7, rfl, HA, HJ7, ⟨mc7, rfl⟩⟩ := hcut; cases kq with
        | zero => exact absurd HA.out (by simp [tallboyref29_op.j2])
        | succ kj7 =>
         have H := HA.out; clear HA; simp only [tallboyref29_op.j2] at H
         by_cases c10 : x15_7 = true
         ·subst c10; rw [if_pos rfl] at H; simp only [Option.some.injEq, Prod.mk.injEq] at H; obtain ⟨rfl, rfl⟩ := H; go_wp2
          go_ret2
          exact ⟨by first | rfl | (simp; done) | (simp [*]; done), by repeat (first | exact Drawn0.refl _ | apply Drawn0.step)⟩
         ·replace c10 := Bool.eq_false_iff.mpr c10; subst c10; rw [if_neg (show ¬ (false = true) by decide)] at H; have HC11 := Aside0.mk H; clear H
          go_upto_if 20 with (fail)
          go_cut [20] (fun v20 wc => ∃ (kq : Nat) (x20_10 : Bool), v20 = .bool x20_10 ∧ Aside0 (tallboyref29_op.j3 kq a0 a0 x20_10 = some (r1, r2)) ∧ Aside0 (kq ≤ kj7) ∧ Drawn0 w wc)
          case first =>
           have H := HC11.out; clear HC11
           by_cases c12 : a0 = 2
           ·rw [if_pos c12] at H; have c12b0 : (a0 == 2) = true := beq_iff_eq.mpr c12; have c12b1 : (a0 != 2) = false := bne_eq_false_iff_eq.mpr c12; clear c12
            (first | rw [c12b0] | (simp only [i64_w, i32_w]; rw [c12b0]) | skip)
            have H' := Aside0.mk H; clear H; go_wp2
            go_meet
            case rel => exact ⟨_, ((a0 == 2)), (by first | rfl | (simp; done) | (simp [*]; done)), H', ⟨by have := HJ1.out; have := HJ4.out; have := HJ7.out; first | omega | exact Nat.le_refl _⟩, by repeat (first | exact Drawn0.refl _ | apply Drawn0.step)⟩
           ·rw [if_neg c12] at H; have c12b0 : (a0 == 2) = false := beq_eq_false_iff_ne.mpr c12; have c12b1 : (a0 != 2) = true := bne_iff_ne.mpr c12
            (first | rw [c12b0] | (simp only [i64_w, i32_w]; rw [c12b0]) | skip)
            have H' := Aside0.mk H; clear H; go_wp2
            go_meet
            case rel => exact ⟨_, ((a0 == 18)), (by first | rfl | (simp; done) | (simp [*]; done)), H', ⟨by have := HJ1.out; have := HJ4.out; have := HJ7.out; first | omega | exact Nat.le_refl _⟩, by repeat (first | exact Drawn0.refl _ | apply Drawn0.step)⟩
          case rest =>
           clear HC11; (try clear c3); (try clear c3b0); (try clear c3b1); (try clear c4); (try clear c6); (try clear c6b0); (try clear c6b1); (try clear c7); (try clear c9); (try clear c9b0); (try clear c9b1); (try clear c10); (try clear c12); (try clear c12b0); (try clear c12b1); obtain ⟨kq, x20_10, rfl, HA, HJ10, ⟨mc10, rfl⟩⟩ := hcut; cases kq with
           | zero => exact absurd HA.out (by simp [tallboyref29_op.j3])
           | succ kj10 =>
            have H := HA.out; clear HA; simp only [tallboyref29_op.j3] at H
            by_cases c13 : x20_10 = true
            ·subst c13; rw [if_pos rfl] at H; simp only [Option.some.injEq, Prod.mk.injEq] at H; obtain ⟨rfl, rfl⟩ := H; go_wp2
             go_ret2
             exact ⟨by first | rfl | (simp; done) | (simp [*]; done), by repeat (first | exact Drawn0.refl _ | apply Drawn0.step)⟩
            ·replace c13 := Bool.eq_false_iff.mpr c13; subst c13; rw [if_neg (show ¬ (false = true) by decide)] at H; have HC14 := Aside0.mk H; clear H
             go_upto_if 25 with (fail)
             go_cut [25] (fun v25 wc => ∃ (kq : Nat) (x25_13 : Bool), v25 = .bool x25_13 ∧ Aside0 (tallboyref29_op.j4 kq a0 a0 x25_13 = some (r1, r2)) ∧ Aside0 (kq ≤ kj10) ∧ Drawn0 w wc)
             case first =>
              have H := HC14.out; clear HC14
              by_cases c15 : a0 = 3
              ·rw [if_pos c15] at H; have c15b0 : (a0 == 3) = true := beq_iff_eq.mpr c15; have c15b1 : (a0 != 3) = false := bne_eq_false_iff_eq.mpr c15; clear c15
               (first | rw [c15b0] | (simp only [i64_w, i32_w]; rw [c15b0]) | skip)
               have H' := Aside0.mk H; clear H; go_wp2
               go_meet
               case rel => exact ⟨_, ((a0 == 3)), (by first | rfl | (simp; done) | (simp [*]; done)), H', ⟨by have := HJ1.out; have := HJ4.out; have := HJ7.out; have := HJ10.out; first | omega | exact Nat.le_refl _⟩, by repeat (first | exact Drawn0.refl _ | apply Drawn0.step)⟩
              ·rw [if_neg c15] at H; have c15b0 : (a0 == 3) = false := beq_eq_false_iff_ne.mpr c15; have c15b1 : (a0 != 3) = true := bne_iff_ne.mpr c15
               (first | rw [c15b0] | (simp only [i64_w, i32_w]; rw [c15b0]) | skip)
               have H' := Aside0.mk H; clear H; go_wp2
               go_meet
               case rel => exact ⟨_, ((a0 == 19)), (by first | rfl | (simp; done) | (simp [*]; done)), H', ⟨by have := HJ1.out; have := HJ4.out; have := HJ7.out; have := HJ10.out; first | omega | exact Nat.le_refl _⟩, by repeat (first | exact Drawn0.refl _ | apply Drawn0.step)⟩
             case rest =>
              clear HC14; (try clear c3); (try clear c3b0); (try clear c3b1); (try clear c4); (try clear c6); (try clear c6b0); (try clear c6b1); (try clear c7); (try clear c9); (try clear c9b0); (try clear c9b1); (try clear c10); (try clear c12); (try clear c12b0); (try clear c12b1); (try clear c13); (try clear c15); (try clear c15b0); (try clear c15b1); obtain ⟨kq, x25_13, rfl, HA, HJ13, ⟨mc13, rfl⟩⟩ := hcut; cases kq with
              | zero => exact absurd HA.out (by simp [tallboyref29_op.j4])
              | succ kj13 =>
               have H := HA.out; clear HA; simp only [tallboyref29_op.j4] at H
               by_cases c16 : x25_13 = true
               ·subst c16; rw [if_pos rfl] at H; simp only [Option.some.injEq, Prod.mk.injEq] at H; obtain ⟨rfl, rfl⟩ := H; go_wp2
                go_ret2
                exact ⟨by first | rfl | (simp; done) | (simp [*]; done), by repeat (first | exact Drawn0.refl _ | apply Drawn0.step)⟩
               ·replace c16 := Bool.eq_false_iff.mpr c16; subst c16; rw [if_neg (show ¬ (false = true) by decide)] at H; have HC17 := Aside0.mk H; clear H
                go_upto_if 30 with (fail)
                go_cut [30] (fun v30 wc => ∃ (kq : Nat) (x30_16 : Bool), v30 = .bool x30_16 ∧ Aside0 (tallboyref29_op.j5 kq a0 a0 x30_16 = some (r1, r2)) ∧ Aside0 (kq ≤ kj13) ∧ Drawn0 w wc)
                case first =>
                 have H := HC17.out; clear HC17
                 by_cases c18 : a0 = 4
                 ·rw [if_pos c18] at H; have c18b0 : (a0 == 4) = true := beq_iff_eq.mpr c18; have c18b1 : (a0 != 4) = false := bne_eq_false_iff_eq.mpr c18; clear c18
                  (first | rw [c18b0] | (simp only [i64_w, i32_w]; rw [c18b0]) | skip)
                  have H' := Aside0.mk H; clear H; go_wp2
                  go_meet
                  case rel => exact ⟨_, ((a0 == 4)), (by first | rfl | (simp; done) | (simp [*]; done)), H', ⟨by have := HJ1.out; have := HJ4.out; have := HJ7.out; have := HJ10.out; have := HJ13.out; first | omega | exact Nat.le_refl _⟩, by repeat (first | exact Drawn0.refl _ | apply Drawn0.step)⟩
                 ·rw [if_neg c18] at H; have c18b0 : (a0 == 4) = false := beq_eq_false_iff_ne.mpr c18; have c18b1 : (a0 != 4) = true := bne_iff_ne.mpr c18
                  (first | rw [c18b0] | (simp only [i64_w, i32_w]; rw [c18b0]) | skip)
                  have H' := Aside0.mk H; clear H; go_wp2
                  go_meet
                  case rel => exact ⟨_, ((a0 == 20)), (by first | rfl | (simp; done) | (simp [*]; done)), H', ⟨by have := HJ1.out; have := HJ4.out; have := HJ7.out; have := HJ10.out; have := HJ13.out; first | omega | exact Nat.le_refl _⟩, by repeat (first | exact Drawn0.refl _ | apply Drawn0.step)⟩
                case rest =>
                 clear HC17; (try clear c3); (try clear c3b0); (try clear c3b1); (try clear c4); (try clear c6); (try clear c6b0); (try clear c6b1); (try clear c7); (try clear c9); (try clear c9b0); (try clear c9b1); (try clear c10); (try clear c12); (try clear c12b0); (try clear c12b1); (try clear c13); (try clear c15); (try clear c15b0); (try clear c15b1); (try clear c16); (try clear c18); (try clear c18b0); (try clear c18b1); obtain ⟨kq, x30_16, rfl, HA, HJ16, ⟨mc16, rfl⟩⟩ := hcut; cases kq with
                 | zero => exact absurd HA.out (by simp [tallboyref29_op.j5])
                 | succ kj16 =>
                  have H := HA.out; clear HA; simp only [tallboyref29_op.j5] at H
                  by_cases c19 : x30_16 = true
                  ·subst c19; rw [if_pos rfl] at H; simp only [Option.some.injEq, Prod.mk.injEq] at H; obtain ⟨rfl, rfl⟩ := H; go_wp2
                   go_ret2
                   exact ⟨by first | rfl | (simp; done) | (simp [*]; done), by repeat (first | exact Drawn0.refl _ | apply Drawn0.step)⟩
                  ·replace c19 := Bool.eq_false_iff.mpr c19; subst c19; rw [if_neg (show ¬ (false = true) by decide)] at H; have HC20 := Aside0.mk H; clear H
                   go_upto_if 35 with (fail)
                   go_cut [35] (fun v35 wc => ∃ (kq : Nat) (x35_19 : Bool), v35 = .bool x35_19 ∧ Aside0 (tallboyref29_op.j6 kq a0 a0 x35_19 = some (r1, r2)) ∧ Aside0 (kq ≤ kj16) ∧ Drawn0 w wc)
                   case first =>
                    have H := HC20.out; clear HC20
                    by_cases c21 : a0 = 5
                    ·rw [if_pos c21] at H; have c21b0 : (a0 == 5) = true := beq_iff_eq.mpr c21; have c21b1 : (a0 != 5) = false := bne_eq_false_iff_eq.mpr c21; clear c21
                     (first | rw [c21b0] | (simp only [i64_w, i32_w]; rw [c21b0]) | skip)
                     have H' := Aside0.mk H; clear H; go_wp2
                     go_meet
                     case rel => exact ⟨_, ((a0 == 5)), (by first | rfl | (simp; done) | (simp [*]; done)), H', ⟨by have := HJ1.out; have := HJ4.out; have := HJ7.out; have := HJ10.out; have := HJ13.out; have := HJ16.out; first | omega | exact Nat.le_refl _⟩, by repeat (first | exact Drawn0.refl _ | apply Drawn0.step)⟩
                    ·rw [if_neg c21] at H; have c21b0 : (a0 == 5) = false := beq_eq_false_iff_ne.mpr c21; have c21b1 : (a0 != 5) = true := bne_iff_ne.mpr c21
                     (first | rw [c21b0] | (simp only [i64_w, i32_w]; rw [c21b0]) | skip)
                     have H' := Aside0.mk H; clear H; go_wp2
                     go_meet
                     case rel => exact ⟨_, ((a0 == 21)), (by first | rfl | (simp; done) | (simp [*]; done)), H', ⟨by have := HJ1.out; have := HJ4.out; have := HJ7.out; have := HJ10.out; have := HJ13.out; have := HJ16.out; first | omega | exact Nat.le_refl _⟩, by repeat (first | exact Drawn0.refl _ | apply Drawn0.step)⟩
                   case rest =>
                    clear HC20; (try clear c3); (try clear c3b0); (try clear c3b1); (try clear c4); (try clear c6); (try clear c6b0); (try clear c6b1); (try clear c7); (try clear c9); (try clear c9b0); (try clear c9b1); (try clear c10); (try clear c12); (try clear c12b0); (try clear c12b1); (try clear c13); (try clear c15); (try clear c15b0); (try clear c15b1); (try clear c16); (try clear c18); (try clear c18b0); (try clear c18b1); (try clear c19); (try clear c21); (try clear c21b0); (try clear c21b1); obtain ⟨kq, x35_19, rfl, HA, HJ19, ⟨mc19, rfl⟩⟩ := hcut; cases kq with
                    | zero => exact absurd HA.out (by simp [tallboyref29_op.j6])
                    | succ kj19 =>
                     have H := HA.out; clear HA; simp only [tallboyref29_op.j6] at H
                     by_cases c22 : x35_19 = true
                     ·subst c22; rw [if_pos rfl] at H; simp only [Option.some.injEq, Prod.mk.injEq] at H; obtain ⟨rfl, rfl⟩ := H; go_wp2
                      go_ret2
                      exact ⟨by first | rfl | (simp; done) | (simp [*]; done), by repeat (first | exact Drawn0.refl _ | apply Drawn0.step)⟩
                     ·replace c22 := Bool.eq_false_iff.mpr c22; subst c22; rw [if_neg (show ¬ (false = true) by decide)] at H; have HC23 := Aside0.mk H; clear H
                      go_upto_if 40 with (fail)
                      go_cut [40] (fun v40 wc => ∃ (kq : Nat) (x40_22 : Bool), v40 = .bool x40_22 ∧ Aside0 (tallboyref29_op.j7 kq a0 a0 x40_22 = some (r1, r2)) ∧ Aside0 (kq ≤ kj19) ∧ Drawn0 w wc)
                      case first =>
                       have H := HC23.out; clear HC23
                       by_cases c24 : a0 = 6
                       ·rw [if_pos c24] at H; have c24b0 : (a0 == 6) = true := beq_iff_eq.mpr c24; have c24b1 : (a0 != 6) = false := bne_eq_false_iff_eq.mpr c24; clear c24
                        (first | rw [c24b0] | (simp only [i64_w, i32_w]; rw [c24b0]) | skip)
                        have H' := Aside0.mk H; clear H; go_wp2
                        go_meet
                        case rel => exact ⟨_, ((a0 == 6)), (by first | rfl | (simp; done) | (simp [*]; done)), H', ⟨by have := HJ1.out; have := HJ4.out; have := HJ7.out; have := HJ10.out; have := HJ13.out; have := HJ16.out; have := HJ19.out; first | omega | exact Nat.le_refl _⟩, by repeat (first | exact Drawn0.refl _ | apply Drawn0.step)⟩
                       ·rw [if_neg c24] at H; have c24b0 : (a0 == 6) = false := beq_eq_false_iff_ne.mpr c24; have c24b1 : (a0 != 6) = true := bne_iff_ne.mpr c24
                        (first | rw [c24b0] | (simp only [i64_w, i32_w]; rw [c24b0]) | skip)
                        have H' := Aside0.mk H; clear H; go_wp2
                        go_meet
                        case rel => exact ⟨_, ((a0 == 22)), (by first | rfl | (simp; done) | (simp [*]; done)), H', ⟨by have := HJ1.out; have := HJ4.out; have := HJ7.out; have := HJ10.out; have := HJ13.out; have := HJ16.out; have := HJ19.out; first | omega | exact Nat.le_refl _⟩, by repeat (first | exact Drawn0.refl _ | apply Drawn0.step)⟩
                      case rest =>
                       clear HC23; (try clear c3); (try clear c3b0); (try clear c3b1); (try clear c4); (try clear c6); (try clear c6b0); (try clear c6b1); (try clear c7); (try clear c9); (try clear c9b0); (try clear c9b1); (try clear c10); (try clear c12); (try clear c12b0); (try clear c12b1); (try clear c13); (try clear c15); (try clear c15b0); (try clear c15b1); (try clear c16); (try clear c18); (try clear c18b0); (try clear c18b1); (try clear c19); (try clear c21); (try clear c21b0); (try clear c21b1); (try clear c22); (try clear c24); (try clear c24b0); (try clear c24b1); obtain ⟨kq, x40_22, rfl, HA, HJ22, ⟨mc22, rfl⟩⟩ := hcut; cases kq with
                       | zero => exact absurd HA.out (by simp [tallboyref29_op.j7])
                       | succ kj22 =>
                        have H := HA.out; clear HA; simp only [tallboyref29_op.j7] at H
                        by_cases c25 : x40_22 = true
                        ·subst c25; rw [if_pos rfl] at H; simp only [Option.some.injEq, Prod.mk.injEq] at H; obtain ⟨rfl, rfl⟩ := H; go_wp2
                         go_ret2
                         exact ⟨by first | rfl | (simp; done) | (simp [*]; done), by repeat (first | exact Drawn0.refl _ | apply Drawn0.step)⟩
                        ·replace c25 := Bool.eq_false_iff.mpr c25; subst c25; rw [if_neg (show ¬ (false = true) by decide)] at H; have HC26 := Aside0.mk H; clear H
                         go_upto_if 45 with (fail)
                         go_cut [45] (fun v45 wc => ∃ (kq : Nat) (x45_25 : Bool), v45 = .bool x45_25 ∧ Aside0 (tallboyref29_op.j8 kq a0 a0 x45_25 = some (r1, r2)) ∧ Aside0 (kq ≤ kj22) ∧ Drawn0 w wc)
                         case first =>
                          have H := HC26.out; clear HC26
                          by_cases c27 : a0 = 8
                          ·rw [if_pos c27] at H; have c27b0 : (a0 == 8) = true := beq_iff_eq.mpr c27; have c27b1 : (a0 != 8) = false := bne_eq_false_iff_eq.mpr c27; clear c27
                           (first | rw [c27b0] | (simp only [i64_w, i32_w]; rw [c27b0]) | skip)
                           have H' := Aside0.mk H; clear H; go_wp2
                           go_meet
                           case rel => exact ⟨_, ((a0 == 8)), (by first | rfl | (simp; done) | (simp [*]; done)), H', ⟨by have := HJ1.out; have := HJ4.out; have := HJ7.out; have := HJ10.out; have := HJ13.out; have := HJ16.out; have := HJ19.out; have := HJ22.out; first | omega | exact Nat.le_refl _⟩, by repeat (first | exact Drawn0.refl _ | apply Drawn0.step)⟩
                          ·rw [if_neg c27] at H; have c27b0 : (a0 == 8) = false := beq_eq_false_iff_ne.mpr c27; have c27b1 : (a0 != 8) = true := bne_iff_ne.mpr c27
                           (first | rw [c27b0] | (simp only [i64_w, i32_w]; rw [c27b0]) | skip)
                           have H' := Aside0.mk H; clear H; go_wp2
                           go_meet
                           case rel => exact ⟨_, ((a0 == 24)), (by first | rfl | (simp; done) | (simp [*]; done)), H', ⟨by have := HJ1.out; have := HJ4.out; have := HJ7.out; have := HJ10.out; have := HJ13.out; have := HJ16.out; have := HJ19.out; have := HJ22.out; first | omega | exact Nat.le_refl _⟩, by repeat (first | exact Drawn0.refl _ | apply Drawn0.step)⟩
                         case rest =>
                          clear HC26; (try clear c3); (try clear c3b0); (try clear c3b1); (try clear c4); (try clear c6); (try clear c6b0); (try clear c6b1); (try clear c7); (try clear c9); (try clear c9b0); (try clear c9b1); (try clear c10); (try clear c12); (try clear c12b0); (try clear c12b1); (try clear c13); (try clear c15); (try clear c15b0); (try clear c15b1); (try clear c16); (try clear c18); (try clear c18b0); (try clear c18b1); (try clear c19); (try clear c21); (try clear c21b0); (try clear c21b1); (try clear c22); (try clear c24); (try clear c24b0); (try clear c24b1); (try clear c25); (try clear c27); (try clear c27b0); (try clear c27b1); obtain ⟨kq, x45_25, rfl, HA, HJ25, ⟨mc25, rfl⟩⟩ := hcut; cases kq with
                          | zero => exact absurd HA.out (by simp [tallboyref29_op.j8])
                          | succ kj25 =>
                           have H := HA.out; clear HA; simp only [tallboyref29_op.j8] at H
                           by_cases c28 : x45_25 = true
                           ·subst c28; rw [if_pos rfl] at H; simp only [Option.some.injEq, Prod.mk.injEq] at H; obtain ⟨rfl, rfl⟩ := H; go_wp2
                            go_ret2
                            exact ⟨by first | rfl | (simp; done) | (simp [*]; done), by repeat (first | exact Drawn0.refl _ | apply Drawn0.step)⟩
                           ·replace c28 := Bool.eq_false_iff.mpr c28; subst c28; rw [if_neg (show ¬ (false = true) by decide)] at H; have HC29 := Aside0.mk H; clear H
                            go_upto_if 50 with (fail)
                            go_cut [50] (fun v50 wc => ∃ (kq : Nat) (x50_28 : Bool), v50 = .bool x50_28 ∧ Aside0 (tallboyref29_op.j9 kq a0 a0 x50_28 = some (r1, r2)) ∧ Aside0 (kq ≤ kj25) ∧ Drawn0 w wc)
                            case first =>
                             have H := HC29.out; clear HC29
                             by_cases c30 : a0 = 14
                             ·rw [if_pos c30] at H; have c30b0 : (a0 == 14) = true := beq_iff_eq.mpr c30; have c30b1 : (a0 != 14) = false := bne_eq_false_iff_eq.mpr c30; clear c30
                              (first | rw [c30b0] | (simp only [i64_w, i32_w]; rw [c30b0]) | skip)
                              have H' := Aside0.mk H; clear H; go_wp2
                              go_meet
                              case rel => exact ⟨_, ((a0 == 14)), (by first | rfl | (simp; done) | (simp [*]; done)), H', ⟨by have := HJ1.out; have := HJ4.out; have := HJ7.out; have := HJ10.out; have := HJ13.out; have := HJ16.out; have := HJ19.out; have := HJ22.out; have := HJ25.out; first | omega | exact Nat.le_refl _⟩, by repeat (first | exact Drawn0.refl _ | apply Drawn0.step)⟩
                             ·rw [if_neg c30] at H; have c30b0 : (a0 == 14) = false := beq_eq_false_iff_ne.mpr c30; have c30b1 : (a0 != 14) = true := bne_iff_ne.mpr c30
                              (first | rw [c30b0] | (simp only [i64_w, i32_w]; rw [c30b0]) | skip)
                              have H' := Aside0.mk H; clear H; go_wp2
                              go_meet
                              case rel => exact ⟨_, ((a0 == 25)), (by first | rfl | (simp; done) | (simp [*]; done)), H', ⟨by have := HJ1.out; have := HJ4.out; have := HJ7.out; have := HJ10.out; have := HJ13.out; have := HJ16.out; have := HJ19.out; have := HJ22.out; have := HJ25.out; first | omega | exact Nat.le_refl _⟩, by repeat (first | exact Drawn0.refl _ | apply Drawn0.step)⟩
                            case rest =>
                             clear HC29; (try clear c3); (try clear c3b0); (try clear c3b1); (try clear c4); (try clear c6); (try clear c6b0); (try clear c6b1); (try clear c7); (try clear c9); (try clear c9b0); (try clear c9b1); (try clear c10); (try clear c12); (try clear c12b0); (try clear c12b1); (try clear c13); (try clear c15); (try clear c15b0); (try clear c15b1); (try clear c16); (try clear c18); (try clear c18b0); (try clear c18b1); (try clear c19); (try clear c21); (try clear c21b0); (try clear c21b1); (try clear c22); (try clear c24); (try clear c24b0); (try clear c24b1); (try clear c25); (try clear c27); (try clear c27b0); (try clear c27b1); (try clear c28); (try clear c30); (try clear c30b0); (try clear c30b1); obtain ⟨kq, x50_28, rfl, HA, HJ28, ⟨mc28, rfl⟩⟩ := hcut; cases kq with
                             | zero => exact absurd HA.out (by simp [tallboyref29_op.j9])
                             | succ kj28 =>
                              have H := HA.out; clear HA; simp only [tallboyref29_op.j9] at H
                              by_cases c31 : x50_28 = true
                              ·subst c31; rw [if_pos rfl] at H; simp only [Option.some.injEq, Prod.mk.injEq] at H; obtain ⟨rfl, rfl⟩ := H; go_wp2
                               go_ret2
                               exact ⟨by first | rfl | (simp; done) | (simp [*]; done), by repeat (first | exact Drawn0.refl _ | apply Drawn0.step)⟩
                              ·replace c31 := Bool.eq_false_iff.mpr c31; subst c31; rw [if_neg (show ¬ (false = true) by decide)] at H; have HC32 := Aside0.mk H; clear H
                               go_upto_if 55 with (fail)
                               go_cut [55] (fun v55 wc => ∃ (kq : Nat) (x55_31 : Bool), v55 = .bool x55_31 ∧ Aside0 (tallboyref29_op.j10 kq a0 a0 x55_31 = some (r1, r2)) ∧ Aside0 (kq ≤ kj28) ∧ Drawn0 w wc)
                               case first =>
                                have H := HC32.out; clear HC32
                                by_cases c33 : a0 = 15
                                ·rw [if_pos c33] at H; have c33b0 : (a0 == 15) = true := beq_iff_eq.mpr c33; have c33b1 : (a0 != 15) = false := bne_eq_false_iff_eq.mpr c33; clear c33
                                 (first | rw [c33b0] | (simp only [i64_w, i32_w]; rw [c33b0]) | skip)
                                 have H' := Aside0.mk H; clear H; go_wp2
                                 go_meet
                                 case rel => exact ⟨_, ((a0 == 15)), (by first | rfl | (simp; done) | (simp [*]; done)), H', ⟨by have := HJ1.out; have := HJ4.out; have := HJ7.out; have := HJ10.out; have := HJ13.out; have := HJ16.out; have := HJ19.out; have := HJ22.out; have := HJ25.out; have := HJ28.out; first | omega | exact Nat.le_refl _⟩, by repeat (first | exact Drawn0.refl _ | apply Drawn0.step)⟩
                                ·rw [if_neg c33] at H; have c33b0 : (a0 == 15) = false := beq_eq_false_iff_ne.mpr c33; have c33b1 : (a0 != 15) = true := bne_iff_ne.mpr c33
                                 (first | rw [c33b0] | (simp only [i64_w, i32_w]; rw [c33b0]) | skip)
                                 have H' := Aside0.mk H; clear H; go_wp2
                                 go_meet
                                 case rel => exact ⟨_, ((a0 == 26)), (by first | rfl | (simp; done) | (simp [*]; done)), H', ⟨by have := HJ1.out; have := HJ4.out; have := HJ7.out; have := HJ10.out; have := HJ13.out; have := HJ16.out; have := HJ19.out; have := HJ22.out; have := HJ25.out; have := HJ28.out; first | omega | exact Nat.le_refl _⟩, by repeat (first | exact Drawn0.refl _ | apply Drawn0.step)⟩
                               case rest =>
                                clear HC32; (try clear c3); (try clear c3b0); (try clear c3b1); (try clear c4); (try clear c6); (try clear c6b0); (try clear c6b1); (try clear c7); (try clear c9); (try clear c9b0); (try clear c9b1); (try clear c10); (try clear c12); (try clear c12b0); (try clear c12b1); (try clear c13); (try clear c15); (try clear c15b0); (try clear c15b1); (try clear c16); (try clear c18); (try clear c18b0); (try clear c18b1); (try clear c19); (try clear c21); (try clear c21b0); (try clear c21b1); (try clear c22); (try clear c24); (try clear c24b0); (try clear c24b1); (try clear c25); (try clear c27); (try clear c27b0); (try clear c27b1); (try clear c28); (try clear c30); (try clear c30b0); (try clear c30b1); (try clear c31); (try clear c33); (try clear c33b0); (try clear c33b1); obtain ⟨kq, x55_31, rfl, HA, HJ31, ⟨mc31, rfl⟩⟩ := hcut; cases kq with
                                | zero => exact absurd HA.out (by simp [tallboyref29_op.j10])
                                | succ kj31 =>
                                 have H := HA.out; clear HA; simp only [tallboyref29_op.j10] at H
                                 by_cases c34 : x55_31 = true
                                 ·subst c34; rw [if_pos rfl] at H; simp only [Option.some.injEq, Prod.mk.injEq] at H; obtain ⟨rfl, rfl⟩ := H; go_wp2
                                  go_ret2
                                  exact ⟨by first | rfl | (simp; done) | (simp [*]; done), by repeat (first | exact Drawn0.refl _ | apply Drawn0.step)⟩
                                 ·replace c34 := Bool.eq_false_iff.mpr c34; subst c34; rw [if_neg (show ¬ (false = true) by decide)] at H
                                  by_cases c35 : a0 = 28
                                  ·rw [if_pos c35] at H; have c35b0 : (a0 == 28) = true := beq_iff_eq.mpr c35; have c35b1 : (a0 != 28) = false := bne_eq_false_iff_eq.mpr c35; clear c35; simp only [Option.some.injEq, Prod.mk.injEq] at H; obtain ⟨rfl, rfl⟩ := H; go_wp2
                                   go_ret2
                                   exact ⟨by first | rfl | (simp; done) | (simp [*]; done), by repeat (first | exact Drawn0.refl _ | apply Drawn0.step)⟩
                                  ·rw [if_neg c35] at H; have c35b0 : (a0 == 28) = false := beq_eq_false_iff_ne.mpr c35; have c35b1 : (a0 != 28) = true := bne_iff_ne.mpr c35; have HC36 := Aside0.mk H; clear H
                                   go_upto_if 62 with (fail)
                                   go_cut [62] (fun v62 wc => ∃ (kq : Nat) (x62_35 : Bool), v62 = .bool x62_35 ∧ Aside0 (tallboyref29_op.j11 kq a0 x62_35 = some (r1, r2)) ∧ Aside0 (kq ≤ kj31) ∧ Drawn0 w wc)
                                   case first =>
                                    have H := HC36.out; clear HC36
                                    by_cases c37 : a0 = 29
                                    ·rw [if_pos c37] at H; have c37b0 : (a0 == 29) = true := beq_iff_eq.mpr c37; have c37b1 : (a0 != 29) = false := bne_eq_false_iff_eq.mpr c37; clear c37
                                     (first | rw [c37b0] | (simp only [i64_w, i32_w]; rw [c37b0]) | skip)
                                     have H' := Aside0.mk H; clear H; go_wp2
                                     go_meet
                                     case rel => exact ⟨_, ((a0 == 29)), (by first | rfl | (simp; done) | (simp [*]; done)), H', ⟨by have := HJ1.out; have := HJ4.out; have := HJ7.out; have := HJ10.out; have := HJ13.out; have := HJ16.out; have := HJ19.out; have := HJ22.out; have := HJ25.out; have := HJ28.out; have := HJ31.out; first | omega | exact Nat.le_refl _⟩, by repeat (first | exact Drawn0.refl _ | apply Drawn0.step)⟩
                                    ·rw [if_neg c37] at H; have c37b0 : (a0 == 29) = false := beq_eq_false_iff_ne.mpr c37; have c37b1 : (a0 != 29) = true := bne_iff_ne.mpr c37
                                     (first | rw [c37b0] | (simp only [i64_w, i32_w]; rw [c37b0]) | skip)
                                     have H' := Aside0.mk H; clear H; go_wp2
                                     go_meet
                                     case rel => exact ⟨_, ((a0 == 30)), (by first | rfl | (simp; done) | (simp [*]; done)), H', ⟨by have := HJ1.out; have := HJ4.out; have := HJ7.out; have := HJ10.out; have := HJ13.out; have := HJ16.out; have := HJ19.out; have := HJ22.out; have := HJ25.out; have := HJ28.out; have := HJ31.out; first | omega | exact Nat.le_refl _⟩, by repeat (first | exact Drawn0.refl _ | apply Drawn0.step)⟩
                                   case rest =>
                                    clear HC36; (try clear c3); (try clear c3b0); (try clear c3b1); (try clear c4); (try clear c6); (try clear c6b0); (try clear c6b1); (try clear c7); (try clear c9); (try clear c9b0); (try clear c9b1); (try clear c10); (try clear c12); (try clear c12b0); (try clear c12b1); (try clear c13); (try clear c15); (try clear c15b0); (try clear c15b1); (try clear c16); (try clear c18); (try clear c18b0); (try clear c18b1); (try clear c19); (try clear c21); (try clear c21b0); (try clear c21b1); (try clear c22); (try clear c24); (try clear c24b0); (try clear c24b1); (try clear c25); (try clear c27); (try clear c27b0); (try clear c27b1); (try clear c28); (try clear c30); (try clear c30b0); (try clear c30b1); (try clear c31); (try clear c33); (try clear c33b0); (try clear c33b1); (try clear c34); (try clear c35); (try clear c35b0); (try clear c35b1); (try clear c37); (try clear c37b0); (try clear c37b1); obtain ⟨kq, x62_35, rfl, HA, HJ35, ⟨mc35, rfl⟩⟩ := hcut; cases kq with
                                    | zero => exact absurd HA.out (by simp [tallboyref29_op.j11])
                                    | succ kj35 =>
                                     have H := HA.out; clear HA; simp only [tallboyref29_op.j11] at H
                                     by_cases c38 : x62_35 = true
                                     ·subst c38; rw [if_pos rfl] at H; simp only [Option.some.injEq, Prod.mk.injEq] at H; obtain ⟨rfl, rfl⟩ := H; go_wp2
                                      go_ret2
                                      exact ⟨by first | rfl | (simp; done) | (simp [*]; done), by repeat (first | exact Drawn0.refl _ | apply Drawn0.step)⟩
                                     ·replace c38 := Bool.eq_false_iff.mpr c38; subst c38; rw [if_neg (show ¬ (false = true) by decide)] at H; simp only [Option.some.injEq, Prod.mk.injEq] at H; obtain ⟨rfl, rfl⟩ := H; go_wp2
                                      go_ret2
                                      exact ⟨by first | rfl | (simp; done) | (simp [*]; done), by repeat (first | exact Drawn0.refl _ | apply Drawn0.step)⟩

end Go.Proofs.Ytdepkgikdmlgiaa.P
