/- Lean functions for the Go functions that the laws of this seat use, and the proofs that the Go code computes them; conditions: the readings that each theorem names. Written by a program. -/
import Derived.Test.YtginfaencjmhgaaDoorPx0
import Derived.Test.YtginfaencjmhgaaDoorShort
namespace Go.Proofs.YtginfaencjmhgaaDoor.P
open Go.RowKit Go.Proofs.YtginfaencjmhgaaDoorW.PrintWords Go.Proofs.YtginfaencjmhgaaDoorW.PrintLast Go.Proofs.YtginfaencjmhgaaDoorW.PrintMore
attribute [local go_sem] min2_int min_two
set_option linter.unusedVariables false
set_option linter.unusedSimpArgs false

-- NOT PRINTED: function 14 (conn_Conn_Left)

/-! ### tallboyref15_Reads: function 25 -/
def tallboyref15_Reads.f (a0 : Int) : Option (Bool) := if a0 ≥ 1 then (some (decide (a0 ≤ 4))) else (some false)
set_option maxHeartbeats 8000000 in
set_option maxRecDepth 100000 in
theorem tallboyref15_Reads.calls (a0 : Int) (r : Bool) (w : World) (h : tallboyref15_Reads.f a0 = some r) :
  Calls Tryd.prog 25 #[.int .i64 a0] w fun e w' => e = .returned (.bool r) ∧ Drawn0 w w' := by
 have H : (if a0 ≥ 1 then (some (decide (a0 ≤ 4))) else (some false)) = some r := h; clear h
 by_cases c2 : a0 ≥ 1
 ·rw [if_pos c2] at H; have c2b0 : decide (1 ≤ a0) = true := decide_eq_true c2; clear c2; obtain rfl := Option.some.inj H; go_enter Tryd.func25, Tryd.ntmps25; go_wp2; go_ret
  exact ⟨by first | rfl | (simp; done) | (simp [*]; done), by repeat (first | exact Drawn0.refl _ | apply Drawn0.step)⟩
 ·rw [if_neg c2] at H; have c2b0 : decide (1 ≤ a0) = false := decide_eq_false c2; clear c2; obtain rfl := Option.some.inj H; go_enter Tryd.func25, Tryd.ntmps25; go_wp2; go_ret
  exact ⟨by first | rfl | (simp; done) | (simp [*]; done), by repeat (first | exact Drawn0.refl _ | apply Drawn0.step)⟩

/-! ### tallboyref04_Key: function 26 -/
mutual
def tallboyref04_Key.j0 : Nat → ByteArray → Bool → Option (Bool)
 | 0, _, _ => none
 | k + 1, x0, x3 => tallboyref04_Key.l0 k x0 x3 0
def tallboyref04_Key.l0 : Nat → ByteArray → Bool → Int → Option (Bool)
 | 0, _, _, _ => none
 | k + 1, x0, x3, x4 => if x4 < (x0.size : Int) then (if x3 = true then (if 0 ≤ x4 then (if (bt x0 x4) ≥ 33 then (tallboyref04_Key.l0 k x0 (decide ((bt x0 x4) ≤ 126)) (wrap64 (x4 + 1))) else (tallboyref04_Key.l0 k x0 false (wrap64 (x4 + 1)))) else (none)) else (some x3)) else (some x3)
end
def tallboyref04_Key.f (k : Nat) (a0 : ByteArray) : Option (Bool) := if (a0.size : Int) ≥ 1 then (tallboyref04_Key.j0 k a0 (decide ((a0.size : Int) ≤ 32))) else (tallboyref04_Key.j0 k a0 false)
theorem tallboyref04_Key.mono_l : ∀ k, (∀ y0 y1, LeO (tallboyref04_Key.j0 k y0 y1) (tallboyref04_Key.j0 (k + 1) y0 y1)) ∧ (∀ y0 y1 y2, LeO (tallboyref04_Key.l0 k y0 y1 y2) (tallboyref04_Key.l0 (k + 1) y0 y1 y2))
 | 0 => ⟨fun _ _ r h => by simp [tallboyref04_Key.j0] at h, fun _ _ _ r h => by simp [tallboyref04_Key.l0] at h⟩
 | k + 1 => by
  obtain ⟨ih0, ih1⟩ := tallboyref04_Key.mono_l k; refine ⟨?_, ?_⟩
  all_goals intros
  all_goals (first | unfold tallboyref04_Key.j0 | unfold tallboyref04_Key.l0)
  all_goals repeat' first | (with_reducible first | apply ih0 | apply ih1 | exact LeO.refl _ | exact LeO.none _ | refine LeO.ite ?_ ?_ | refine LeO.bind ?_ (fun _ => ?_)) | apply ih0 | apply ih1 | exact LeO.none _ | refine LeO.ite ?_ ?_ | refine LeO.bind ?_ (fun _ => ?_)
theorem tallboyref04_Key.mono : ∀ a0 k, LeO (tallboyref04_Key.f k a0) (tallboyref04_Key.f (k + 1) a0) := by
 intro a0 k
 obtain ⟨ih0, ih1⟩ := tallboyref04_Key.mono_l k; unfold tallboyref04_Key.f
 repeat' first | (with_reducible first | apply ih0 | apply ih1 | exact LeO.refl _ | exact LeO.none _ | refine LeO.ite ?_ ?_ | refine LeO.bind ?_ (fun _ => ?_)) | apply ih0 | apply ih1 | exact LeO.none _ | refine LeO.ite ?_ ?_ | refine LeO.bind ?_ (fun _ => ?_)
set_option maxHeartbeats 8000000 in
set_option maxRecDepth 100000 in
theorem tallboyref04_Key.calls (k : Nat) (a0 : ByteArray) (r : Bool) (w : World) (h : tallboyref04_Key.f k a0 = some r) :
  Calls Tryd.prog 26 #[.string a0] w fun e w' => e = .returned (.bool r) ∧ Drawn0 w w' := by
 have H : (if (a0.size : Int) ≥ 1 then (tallboyref04_Key.j0 k a0 (decide ((a0.size : Int) ≤ 32))) else (tallboyref04_Key.j0 k a0 false)) = some r := h; clear h; have HC2 := Aside0.mk H; clear H; go_enter Tryd.func26, Tryd.ntmps26
 go_upto_region 1 with (fail)
 go_cut [3] (fun v3 wc => ∃ (kq : Nat) (x3_1 : Bool), v3 = .bool x3_1 ∧ Aside0 (tallboyref04_Key.j0 kq a0 x3_1 = some r) ∧ Aside0 (kq ≤ k) ∧ Drawn0 w wc)
 case first =>
  have H := HC2.out; clear HC2
  by_cases c3 : (a0.size : Int) ≥ 1
  ·rw [if_pos c3] at H; have c3b0 : decide (1 ≤ (a0.size : Int)) = true := decide_eq_true c3; have c3b1 : decide (1 ≤ a0.size) = true := decide_eq_true (by omega); clear c3
   (first | rw [c3b0] | (simp only [i64_w, i32_w]; rw [c3b0]) | skip)
   have H' := Aside0.mk H; clear H; go_wp2
   go_meet
   case rel => exact ⟨_, (decide ((a0.size : Int) ≤ 32)), (by first | rfl | (simp; done) | (simp [*]; done)), H', ⟨by first | omega | exact Nat.le_refl _⟩, by repeat (first | exact Drawn0.refl _ | apply Drawn0.step)⟩
  ·rw [if_neg c3] at H; have c3b0 : decide (1 ≤ (a0.size : Int)) = false := decide_eq_false c3; have c3b1 : decide (1 ≤ a0.size) = false := decide_eq_false (by omega); clear c3
   (first | rw [c3b0] | (simp only [i64_w, i32_w]; rw [c3b0]) | skip)
   have H' := Aside0.mk H; clear H; go_wp2
   go_meet
   case rel => exact ⟨_, (false), (by first | rfl | (simp; done) | (simp [*]; done)), H', ⟨by first | omega | exact Nat.le_refl _⟩, by repeat (first | exact Drawn0.refl _ | apply Drawn0.step)⟩
 case rest =>
  clear HC2; (try clear c3b0); (try clear c3b1); obtain ⟨kq, x3_1, rfl, HA, HJ1, ⟨mc1, rfl⟩⟩ := hcut; cases kq with
  | zero => exact absurd HA.out (by simp [tallboyref04_Key.j0])
  | succ kj1 =>
   have H := HA.out; clear HA; simp only [tallboyref04_Key.j0] at H; have H' := Aside0.mk H; clear H; go_wp2
   go_loopg [3, 4] kj1 (fun kq v3 v4 w' => ∃ (x3_2 : Bool) (x4_2 : Int), v3 = .bool x3_2 ∧ v4 = .int .i64 x4_2 ∧ Aside0 (tallboyref04_Key.l0 kq a0 x3_2 x4_2 = some r) ∧ Aside0 (kq ≤ kj1) ∧ Drawn0 w w')
   case atStart => exact ⟨(x3_1), (0), (by first | rfl | (simp; done) | (simp [*]; done)), (by first | rfl | (simp; done) | (simp [*]; done)), H', ⟨Nat.le_refl _⟩, by repeat (first | exact Drawn0.refl _ | apply Drawn0.step)⟩
   case round =>
    clear H'; (try clear c3b0); (try clear c3b1); obtain ⟨x3_2, x4_2, rfl, rfl, HA, HK2, ⟨m2, rfl⟩⟩ := hrel; cases gk with
    | zero => exact absurd HA.out (by simp [tallboyref04_Key.l0])
    | succ k2 =>
     have H := HA.out; clear HA; simp only [tallboyref04_Key.l0] at H
     by_cases c4 : x4_2 < (a0.size : Int)
     ·rw [if_pos c4] at H; have c4b0 : decide (x4_2 < (a0.size : Int)) = true := decide_eq_true c4; clear c4
      by_cases c5 : x3_2 = true
      ·subst c5; rw [if_pos rfl] at H
       by_cases c6 : 0 ≤ x4_2
       ·rw [if_pos c6] at H; have c6b0 : decide (0 ≤ x4_2) = true := decide_eq_true c6; clear c6
        by_cases c8 : (bt a0 x4_2) ≥ 33
        ·rw [if_pos c8] at H; have c8b0 : decide (33 ≤ (bt a0 x4_2)) = true := decide_eq_true c8; clear c8; have H' := Aside0.mk H; clear H; have p7 : 0 ≤ (x4_2 : Int) := of_decide_eq_true (by first | (with_reducible assumption) | assumption); have q7 : x4_2 < (a0.size : Int) := of_decide_eq_true (by first | (with_reducible assumption) | assumption)
         have hx7 := bt_at a0 x4_2; replace p7 := eq_true p7; replace q7 := eq_true q7; have p9 : 0 ≤ (x4_2 : Int) := of_decide_eq_true (by first | (with_reducible assumption) | assumption); have q9 : x4_2 < (a0.size : Int) := of_decide_eq_true (by first | (with_reducible assumption) | assumption)
         have hx9 := bt_at a0 x4_2; replace p9 := eq_true p9; replace q9 := eq_true q9; go_wp2
         go_roundg k2
         case measure => have := HJ1.out; have := HK2.out; omega
         case rel => exact ⟨(decide ((bt a0 x4_2) ≤ 126)), (wrap64 (x4_2 + 1)), (by first | rfl | (simp; done) | (simp [*]; done)), (by first | rfl | (simp; done) | (simp [*]; done)), H', ⟨by have := HJ1.out; have := HK2.out; omega⟩, by repeat (first | exact Drawn0.refl _ | apply Drawn0.step)⟩
        ·rw [if_neg c8] at H; have c8b0 : decide (33 ≤ (bt a0 x4_2)) = false := decide_eq_false c8; clear c8; have H' := Aside0.mk H; clear H; have p7 : 0 ≤ (x4_2 : Int) := of_decide_eq_true (by first | (with_reducible assumption) | assumption); have q7 : x4_2 < (a0.size : Int) := of_decide_eq_true (by first | (with_reducible assumption) | assumption)
         have hx7 := bt_at a0 x4_2; replace p7 := eq_true p7; replace q7 := eq_true q7; go_wp2
         go_roundg k2
         case measure => have := HJ1.out; have := HK2.out; omega
         case rel => exact ⟨(false), (wrap64 (x4_2 + 1)), (by first | rfl | (simp; done) | (simp [*]; done)), (by first | rfl | (simp; done) | (simp [*]; done)), H', ⟨by have := HJ1.out; have := HK2.out; omega⟩, by repeat (first | exact Drawn0.refl _ | apply Drawn0.step)⟩
       ·rw [if_neg c6] at H; exact absurd H (by simp)
      ·replace c5 := Bool.eq_false_iff.mpr c5; subst c5; rw [if_neg (show ¬ (false = true) by decide)] at H; obtain rfl := Option.some.inj H; go_wp2; go_ret
       exact ⟨by first | rfl | (simp; done) | (simp [*]; done), by repeat (first | exact Drawn0.refl _ | apply Drawn0.step)⟩
     ·rw [if_neg c4] at H; have c4b0 : decide (x4_2 < (a0.size : Int)) = false := decide_eq_false c4; clear c4; obtain rfl := Option.some.inj H; go_wp2; go_ret
      exact ⟨by first | rfl | (simp; done) | (simp [*]; done), by repeat (first | exact Drawn0.refl _ | apply Drawn0.step)⟩

/-! ### tallboyref15_Stores: function 27 -/
def tallboyref15_Stores.f (a0 : Int) : Option (Bool) := if a0 ≥ 5 then (some (decide (a0 ≤ 10))) else (some false)
set_option maxHeartbeats 8000000 in
set_option maxRecDepth 100000 in
theorem tallboyref15_Stores.calls (a0 : Int) (r : Bool) (w : World) (h : tallboyref15_Stores.f a0 = some r) :
  Calls Tryd.prog 27 #[.int .i64 a0] w fun e w' => e = .returned (.bool r) ∧ Drawn0 w w' := by
 have H : (if a0 ≥ 5 then (some (decide (a0 ≤ 10))) else (some false)) = some r := h; clear h
 by_cases c2 : a0 ≥ 5
 ·rw [if_pos c2] at H; have c2b0 : decide (5 ≤ a0) = true := decide_eq_true c2; clear c2; obtain rfl := Option.some.inj H; go_enter Tryd.func27, Tryd.ntmps27; go_wp2; go_ret
  exact ⟨by first | rfl | (simp; done) | (simp [*]; done), by repeat (first | exact Drawn0.refl _ | apply Drawn0.step)⟩
 ·rw [if_neg c2] at H; have c2b0 : decide (5 ≤ a0) = false := decide_eq_false c2; clear c2; obtain rfl := Option.some.inj H; go_enter Tryd.func27, Tryd.ntmps27; go_wp2; go_ret
  exact ⟨by first | rfl | (simp; done) | (simp [*]; done), by repeat (first | exact Drawn0.refl _ | apply Drawn0.step)⟩

/-! ### tallboyref15_Check: function 15 -/
mutual
def tallboyref15_Check.j0 : Nat → Int → Bool → Int → List ByteArray → Int → Int → ByteArray → Int → Int → Bool → Option (Int)
 | 0, _, _, _, _, _, _, _, _, _, _ => none
 | k + 1, x3, x16, z7, z0, z2, z3, z1, z4, z5, z6 => if x16 = true then (some 70) else ((tallboyref15_Reads.f x3).bind fun t134 => (if t134 = true then (if (z0.length : Int) ≥ 1 then (tallboyref15_Check.j1 k x3 (z0.length : Int) (decide ((z0.length : Int) ≤ 8)) z7 z0 z2 z3 z1 z4 z5 z6) else (tallboyref15_Check.j1 k x3 (z0.length : Int) false z7 z0 z2 z3 z1 z4 z5 z6)) else (tallboyref15_Check.j1 k x3 (z0.length : Int) ((z0.length : Int) == 1) z7 z0 z2 z3 z1 z4 z5 z6)))
def tallboyref15_Check.j1 : Nat → Int → Int → Bool → Int → List ByteArray → Int → Int → ByteArray → Int → Int → Bool → Option (Int)
 | 0, _, _, _, _, _, _, _, _, _, _, _ => none
 | k + 1, x3, x4, x5, z7, z0, z2, z3, z1, z4, z5, z6 => if x3 = 15 then (tallboyref15_Check.j2 k x3 x4 (x4 == 0) z7 z0 z2 z3 z1 z4 z5 z6) else (tallboyref15_Check.j2 k x3 x4 x5 z7 z0 z2 z3 z1 z4 z5 z6)
def tallboyref15_Check.j2 : Nat → Int → Int → Bool → Int → List ByteArray → Int → Int → ByteArray → Int → Int → Bool → Option (Int)
 | 0, _, _, _, _, _, _, _, _, _, _, _ => none
 | k + 1, x3, x4, x5, z7, z0, z2, z3, z1, z4, z5, z6 => tallboyref15_Check.l0 k x3 x4 x5 0 z7 z0 z2 z3 z1 z4 z5 z6
def tallboyref15_Check.j4 : Nat → Int → Bool → Int → List ByteArray → Int → Int → ByteArray → Int → Int → Bool → Option (Int)
 | 0, _, _, _, _, _, _, _, _, _, _ => none
 | k + 1, x3, x5, z7, z0, z2, z3, z1, z4, z5, z6 => (tallboyref15_Stores.f x3).bind fun t137 => (if t137 = true then (tallboyref15_Check.j5 k x3 x5 z7 z0 z2 z3 z1 z4 z5 z6) else (if x5 = true then (tallboyref15_Check.j5 k x3 (z1.toList == ([] : List UInt8)) z7 z0 z2 z3 z1 z4 z5 z6) else (tallboyref15_Check.j5 k x3 false z7 z0 z2 z3 z1 z4 z5 z6)))
def tallboyref15_Check.j5 : Nat → Int → Bool → Int → List ByteArray → Int → Int → ByteArray → Int → Int → Bool → Option (Int)
 | 0, _, _, _, _, _, _, _, _, _, _ => none
 | k + 1, x3, x5, z7, z0, z2, z3, z1, z4, z5, z6 => (tallboyref15_Stores.f x3).bind fun t138 => (if t138 = true then (if x3 = 8 then (tallboyref15_Check.j6 k x3 x5 false z7 z0 z2 z3 z1 z4 z5 z6) else (tallboyref15_Check.j6 k x3 x5 (x3 != 9) z7 z0 z2 z3 z1 z4 z5 z6)) else (tallboyref15_Check.j6 k x3 x5 false z7 z0 z2 z3 z1 z4 z5 z6))
def tallboyref15_Check.j6 : Nat → Int → Bool → Bool → Int → List ByteArray → Int → Int → ByteArray → Int → Int → Bool → Option (Int)
 | 0, _, _, _, _, _, _, _, _, _, _, _ => none
 | k + 1, x3, x5, x7, z7, z0, z2, z3, z1, z4, z5, z6 => if x7 = true then (tallboyref15_Check.j7 k x3 x5 x7 z7 z0 z2 z3 z1 z4 z5 z6) else (if x5 = true then (tallboyref15_Check.j7 k x3 (z2 == 0) x7 z7 z0 z2 z3 z1 z4 z5 z6) else (tallboyref15_Check.j7 k x3 false x7 z7 z0 z2 z3 z1 z4 z5 z6))
def tallboyref15_Check.j7 : Nat → Int → Bool → Bool → Int → List ByteArray → Int → Int → ByteArray → Int → Int → Bool → Option (Int)
 | 0, _, _, _, _, _, _, _, _, _, _, _ => none
 | k + 1, x3, x5, x7, z7, z0, z2, z3, z1, z4, z5, z6 => if x7 = true then (tallboyref15_Check.j8 k x3 x5 true z7 z0 z2 z3 z1 z4 z5 z6) else (if x3 = 3 then (tallboyref15_Check.j8 k x3 x5 true z7 z0 z2 z3 z1 z4 z5 z6) else (if x3 = 4 then (tallboyref15_Check.j8 k x3 x5 true z7 z0 z2 z3 z1 z4 z5 z6) else (tallboyref15_Check.j8 k x3 x5 (x3 == 14) z7 z0 z2 z3 z1 z4 z5 z6)))
def tallboyref15_Check.j8 : Nat → Int → Bool → Bool → Int → List ByteArray → Int → Int → ByteArray → Int → Int → Bool → Option (Int)
 | 0, _, _, _, _, _, _, _, _, _, _, _ => none
 | k + 1, x3, x5, x8, z7, z0, z2, z3, z1, z4, z5, z6 => if x8 = true then (tallboyref15_Check.j9 k x3 x5 z7 z0 z2 z3 z1 z4 z5 z6) else (if x5 = true then (tallboyref15_Check.j9 k x3 (z3 == 0) z7 z0 z2 z3 z1 z4 z5 z6) else (tallboyref15_Check.j9 k x3 false z7 z0 z2 z3 z1 z4 z5 z6))
def tallboyref15_Check.j9 : Nat → Int → Bool → Int → List ByteArray → Int → Int → ByteArray → Int → Int → Bool → Option (Int)
 | 0, _, _, _, _, _, _, _, _, _, _ => none
 | k + 1, x3, x5, z7, z0, z2, z3, z1, z4, z5, z6 => if x3 = 10 then (tallboyref15_Check.j10 k x3 x5 z7 z0 z2 z3 z1 z4 z5 z6) else (if x5 = true then (tallboyref15_Check.j10 k x3 (z4 == 0) z7 z0 z2 z3 z1 z4 z5 z6) else (tallboyref15_Check.j10 k x3 false z7 z0 z2 z3 z1 z4 z5 z6))
def tallboyref15_Check.j10 : Nat → Int → Bool → Int → List ByteArray → Int → Int → ByteArray → Int → Int → Bool → Option (Int)
 | 0, _, _, _, _, _, _, _, _, _, _ => none
 | k + 1, x3, x5, z7, z0, z2, z3, z1, z4, z5, z6 => if x3 = 12 then (tallboyref15_Check.j11 k x3 x5 false z7 z0 z2 z3 z1 z4 z5 z6) else (tallboyref15_Check.j11 k x3 x5 (x3 != 13) z7 z0 z2 z3 z1 z4 z5 z6)
def tallboyref15_Check.j11 : Nat → Int → Bool → Bool → Int → List ByteArray → Int → Int → ByteArray → Int → Int → Bool → Option (Int)
 | 0, _, _, _, _, _, _, _, _, _, _, _ => none
 | k + 1, x3, x5, x109, z7, z0, z2, z3, z1, z4, z5, z6 => if x109 = true then (if x5 = true then (tallboyref15_Check.j12 k x3 (z5 == 0) z7 z0 z2 z3 z1 z4 z5 z6) else (tallboyref15_Check.j12 k x3 false z7 z0 z2 z3 z1 z4 z5 z6)) else (tallboyref15_Check.j12 k x3 x5 z7 z0 z2 z3 z1 z4 z5 z6)
def tallboyref15_Check.j12 : Nat → Int → Bool → Int → List ByteArray → Int → Int → ByteArray → Int → Int → Bool → Option (Int)
 | 0, _, _, _, _, _, _, _, _, _, _ => none
 | k + 1, x3, x5, z7, z0, z2, z3, z1, z4, z5, z6 => (tallboyref15_Reads.f x3).bind fun t139 => (if t139 = true then (if x5 = true then (tallboyref15_Check.j13 k (!z6) z7 z0 z2 z3 z1 z4 z5 z6) else (tallboyref15_Check.j13 k false z7 z0 z2 z3 z1 z4 z5 z6)) else (tallboyref15_Check.j13 k x5 z7 z0 z2 z3 z1 z4 z5 z6))
def tallboyref15_Check.j13 : Nat → Bool → Int → List ByteArray → Int → Int → ByteArray → Int → Int → Bool → Option (Int)
 | 0, _, _, _, _, _, _, _, _, _ => none
 | k + 1, x5, z7, z0, z2, z3, z1, z4, z5, z6 => if x5 = true then (if (z1.size : Int) > 2000 then (some 7) else (some 0)) else (some 6)
def tallboyref15_Check.l0 : Nat → Int → Int → Bool → Int → Int → List ByteArray → Int → Int → ByteArray → Int → Int → Bool → Option (Int)
 | 0, _, _, _, _, _, _, _, _, _, _, _, _ => none
 | k + 1, x3, x4, x5, x6, z7, z0, z2, z3, z1, z4, z5, z6 => if x6 < x4 then (if x5 = true then (if 0 ≤ x6 then (if x6 < (z0.length : Int) then ((tallboyref04_Key.f k (rdOf ByteArray.empty z0 x6)).bind fun t136 => (tallboyref15_Check.l0 k x3 x4 t136 (wrap64 (x6 + 1)) z7 z0 z2 z3 z1 z4 z5 z6)) else (none)) else (none)) else (tallboyref15_Check.j4 k x3 x5 z7 z0 z2 z3 z1 z4 z5 z6)) else (tallboyref15_Check.j4 k x3 x5 z7 z0 z2 z3 z1 z4 z5 z6)
end
def tallboyref15_Check.f (k : Nat) (a0_0 : Int) (l0_1 : List ByteArray) (a0_2 : Int) (a0_3 : Int) (a0_4 : ByteArray) (a0_5 : Int) (a0_6 : Int) (a0_7 : Bool) : Option (Int) := if a0_0 < 1 then (tallboyref15_Check.j0 k a0_0 true a0_0 l0_1 a0_2 a0_3 a0_4 a0_5 a0_6 a0_7) else (tallboyref15_Check.j0 k a0_0 (decide (a0_0 > 15)) a0_0 l0_1 a0_2 a0_3 a0_4 a0_5 a0_6 a0_7)
theorem tallboyref15_Check.mono_l : ∀ k, (∀ y0 y1 y2 y3 y4 y5 y6 y7 y8 y9, LeO (tallboyref15_Check.j0 k y0 y1 y2 y3 y4 y5 y6 y7 y8 y9) (tallboyref15_Check.j0 (k + 1) y0 y1 y2 y3 y4 y5 y6 y7 y8 y9)) ∧ (∀ y0 y1 y2 y3 y4 y5 y6 y7 y8 y9 y10, LeO (tallboyref15_Check.j1 k y0 y1 y2 y3 y4 y5 y6 y7 y8 y9 y10) (tallboyref15_Check.j1 (k + 1) y0 y1 y2 y3 y4 y5 y6 y7 y8 y9 y10)) ∧ (∀ y0 y1 y2 y3 y4 y5 y6 y7 y8 y9 y10, LeO (tallboyref15_Check.j2 k y0 y1 y2 y3 y4 y5 y6 y7 y8 y9 y10) (tallboyref15_Check.j2 (k + 1) y0 y1 y2 y3 y4 y5 y6 y7 y8 y9 y10)) ∧ (∀ y0 y1 y2 y3 y4 y5 y6 y7 y8 y9, LeO (tallboyref15_Check.j4 k y0 y1 y2 y3 y4 y5 y6 y7 y8 y9) (tallboyref15_Check.j4 (k + 1) y0 y1 y2 y3 y4 y5 y6 y7 y8 y9)) ∧ (∀ y0 y1 y2 y3 y4 y5 y6 y7 y8 y9, LeO (tallboyref15_Check.j5 k y0 y1 y2 y3 y4 y5 y6 y7 y8 y9) (tallboyref15_Check.j5 (k + 1) y0 y1 y2 y3 y4 y5 y6 y7 y8 y9)) ∧ (∀ y0 y1 y2 y3 y4 y5 y6 y7 y8 y9 y10, LeO (tallboyref15_Check.j6 k y0 y1 y2 y3 y4 y5 y6 y7 y8 y9 y10) (tallboyref15_Check.j6 (k + 1) y0 y1 y2 y3 y4 y5 y6 y7 y8 y9 y10)) ∧ (∀ y0 y1 y2 y3 y4 y5 y6 y7 y8 y9 y10, LeO (tallboyref15_Check.j7 k y0 y1 y2 y3 y4 y5 y6 y7 y8 y9 y10) (tallboyref15_Check.j7 (k + 1) y0 y1 y2 y3 y4 y5 y6 y7 y8 y9 y10)) ∧ (∀ y0 y1 y2 y3 y4 y5 y6 y7 y8 y9 y10, LeO (tallboyref15_Check.j8 k y0 y1 y2 y3 y4 y5 y6 y7 y8 y9 y10) (tallboyref15_Check.j8 (k + 1) y0 y1 y2 y3 y4 y5 y6 y7 y8 y9 y10)) ∧ (∀ y0 y1 y2 y3 y4 y5 y6 y7 y8 y9, LeO (tallboyref15_Check.j9 k y0 y1 y2 y3 y4 y5 y6 y7 y8 y9) (tallboyref15_Check.j9 (k + 1) y0 y1 y2 y3 y4 y5 y6 y7 y8 y9)) ∧ (∀ y0 y1 y2 y3 y4 y5 y6 y7 y8 y9, LeO (tallboyref15_Check.j10 k y0 y1 y2 y3 y4 y5 y6 y7 y8 y9) (tallboyref15_Check.j10 (k + 1) y0 y1 y2 y3 y4 y5 y6 y7 y8 y9)) ∧ (∀ y0 y1 y2 y3 y4 y5 y6 y7 y8 y9 y10, LeO (tallboyref15_Check.j11 k y0 y1 y2 y3 y4 y5 y6 y7 y8 y9 y10) (tallboyref15_Check.j11 (k + 1) y0 y1 y2 y3 y4 y5 y6 y7 y8 y9 y10)) ∧ (∀ y0 y1 y2 y3 y4 y5 y6 y7 y8 y9, LeO (tallboyref15_Check.j12 k y0 y1 y2 y3 y4 y5 y6 y7 y8 y9) (tallboyref15_Check.j12 (k + 1) y0 y1 y2 y3 y4 y5 y6 y7 y8 y9)) ∧ (∀ y0 y1 y2 y3 y4 y5 y6 y7 y8, LeO (tallboyref15_Check.j13 k y0 y1 y2 y3 y4 y5 y6 y7 y8) (tallboyref15_Check.j13 (k + 1) y0 y1 y2 y3 y4 y5 y6 y7 y8)) ∧ (∀ y0 y1 y2 y3 y4 y5 y6 y7 y8 y9 y10 y11, LeO (tallboyref15_Check.l0 k y0 y1 y2 y3 y4 y5 y6 y7 y8 y9 y10 y11) (tallboyref15_Check.l0 (k + 1) y0 y1 y2 y3 y4 y5 y6 y7 y8 y9 y10 y11))
 | 0 => ⟨fun _ _ _ _ _ _ _ _ _ _ r h => by simp [tallboyref15_Check.j0] at h, fun _ _ _ _ _ _ _ _ _ _ _ r h => by simp [tallboyref15_Check.j1] at h, fun _ _ _ _ _ _ _ _ _ _ _ r h => by simp [tallboyref15_Check.j2] at h, fun _ _ _ _ _ _ _ _ _ _ r h => by simp [tallboyref15_Check.j4] at h, fun _ _ _ _ _ _ _ _ _ _ r h => by simp [tallboyref15_Check.j5] at h, fun _ _ _ _ _ _ _ _ _ _ _ r h => by simp [tallboyref15_Check.j6] at h, fun _ _ _ _ _ _ _ _ _ _ _ r h => by simp [tallboyref15_Check.j7] at h, fun _ _ _ _ _ _ _ _ _ _ _ r h => by simp [tallboyref15_Check.j8] at h, fun _ _ _ _ _ _ _ _ _ _ r h => by simp [tallboyref15_Check.j9] at h, fun _ _ _ _ _ _ _ _ _ _ r h => by simp [tallboyref15_Check.j10] at h, fun _ _ _ _ _ _ _ _ _ _ _ r h => by simp [tallboyref15_Check.j11] at h, fun _ _ _ _ _ _ _ _ _ _ r h => by simp [tallboyref15_Check.j12] at h, fun _ _ _ _ _ _ _ _ _ r h => by simp [tallboyref15_Check.j13] at h, fun _ _ _ _ _ _ _ _ _ _ _ _ r h => by simp [tallboyref15_Check.l0] at h⟩
 | k + 1 => by
  obtain ⟨ih0, ih1, ih2, ih3, ih4, ih5, ih6, ih7, ih8, ih9, ih10, ih11, ih12, ih13⟩ := tallboyref15_Check.mono_l k; refine ⟨?_, ?_, ?_, ?_, ?_, ?_, ?_, ?_, ?_, ?_, ?_, ?_, ?_, ?_⟩
  all_goals intros
  all_goals (first | unfold tallboyref15_Check.j0 | unfold tallboyref15_Check.j1 | unfold tallboyref15_Check.j2 | unfold tallboyref15_Check.j4 | unfold tallboyref15_Check.j5 | unfold tallboyref15_Check.j6 | unfold tallboyref15_Check.j7 | unfold tallboyref15_Check.j8 | unfold tallboyref15_Check.j9 | unfold tallboyref15_Check.j10 | unfold tallboyref15_Check.j11 | unfold tallboyref15_Check.j12 | unfold tallboyref15_Check.j13 | unfold tallboyref15_Check.l0)
  all_goals repeat' first | (with_reducible first | apply ih0 | apply ih1 | apply ih2 | apply ih3 | apply ih4 | apply ih5 | apply ih6 | apply ih7 | apply ih8 | apply ih9 | apply ih10 | apply ih11 | apply ih12 | apply ih13 | apply tallboyref04_Key.mono | exact LeO.refl _ | exact LeO.none _ | refine LeO.ite ?_ ?_ | refine LeO.bind ?_ (fun _ => ?_)) | apply ih0 | apply ih1 | apply ih2 | apply ih3 | apply ih4 | apply ih5 | apply ih6 | apply ih7 | apply ih8 | apply ih9 | apply ih10 | apply ih11 | apply ih12 | apply ih13 | apply tallboyref04_Key.mono | exact LeO.none _ | refine LeO.ite ?_ ?_ | refine LeO.bind ?_ (fun _ => ?_)
theorem tallboyref15_Check.mono : ∀ a0 a1 a2 a3 a4 a5 a6 a7 k, LeO (tallboyref15_Check.f k a0 a1 a2 a3 a4 a5 a6 a7) (tallboyref15_Check.f (k + 1) a0 a1 a2 a3 a4 a5 a6 a7) := by
 intro a0 a1 a2 a3 a4 a5 a6 a7 k
 obtain ⟨ih0, ih1, ih2, ih3, ih4, ih5, ih6, ih7, ih8, ih9, ih10, ih11, ih12, ih13⟩ := tallboyref15_Check.mono_l k; unfold tallboyref15_Check.f
 repeat' first | (with_reducible first | apply ih0 | apply ih1 | apply ih2 | apply ih3 | apply ih4 | apply ih5 | apply ih6 | apply ih7 | apply ih8 | apply ih9 | apply ih10 | apply ih11 | apply ih12 | apply ih13 | apply tallboyref04_Key.mono | exact LeO.refl _ | exact LeO.none _ | refine LeO.ite ?_ ?_ | refine LeO.bind ?_ (fun _ => ?_)) | apply ih0 | apply ih1 | apply ih2 | apply ih3 | apply ih4 | apply ih5 | apply ih6 | apply ih7 | apply ih8 | apply ih9 | apply ih10 | apply ih11 | apply ih12 | apply ih13 | apply tallboyref04_Key.mono | exact LeO.none _ | refine LeO.ite ?_ ?_ | refine LeO.bind ?_ (fun _ => ?_)

end Go.Proofs.YtginfaencjmhgaaDoor.P
