/- Lean functions for the Go functions that the laws of this seat use, and the proofs that the Go code computes them; conditions: the readings that each theorem names. Written by a program. -/
import Derived.Test.YtdepkgikdmlgiaaPx0
import Derived.Test.YtdepkgikdmlgiaaShort
namespace Go.Proofs.Ytdepkgikdmlgiaa.P
open Go.RowKit Go.Proofs.YtdepkgikdmlgiaaW.PrintWords Go.Proofs.YtdepkgikdmlgiaaW.PrintLast Go.Proofs.YtdepkgikdmlgiaaW.PrintMore
set_option linter.unusedVariables false
set_option linter.unusedSimpArgs false

/-! ### tallboyref29_Take: function 42 -/
def tallboyref29_Take.l0 : Nat → ByteArray → Int → Int → Option (Int)
 | 0, _, _, _ => none
 | k + 1, x0, x3, x4 => if x4 < (x0.size : Int) then (if 0 ≤ x4 then (tallboyref29_Take.l0 k x0 (IntKind.u64.wrap ((IntKind.u64.wrap (x3 * 256)) + (IntKind.u64.wrap (bt x0 x4)))) (wrap64 (x4 + 1))) else (none)) else (some x3)
def tallboyref29_Take.f (k : Nat) (a0 : ByteArray) : Option (Int) := tallboyref29_Take.l0 k a0 0 0
set_option maxHeartbeats 8000000 in
set_option maxRecDepth 100000 in
theorem tallboyref29_Take.calls (k : Nat) (a0 : ByteArray) (r : Int) (w : World) (h : tallboyref29_Take.f k a0 = some r) :
  Calls Try.prog 42 #[.string a0] w fun e w' => e = .returned (.int .u64 r) ∧ Drawn0 w w' := by
 have H : (tallboyref29_Take.l0 k a0 0 0) = some r := h; clear h; have H' := Aside0.mk H; clear H; go_enter Try.func42, Try.ntmps42; go_wp2
 go_loopg [3, 4] k (fun kq v3 v4 w' => ∃ (x3_1 : Int) (x4_1 : Int), v3 = .int .u64 x3_1 ∧ v4 = .int .i64 x4_1 ∧ Aside0 (tallboyref29_Take.l0 kq a0 x3_1 x4_1 = some r) ∧ Aside0 (kq ≤ k) ∧ Drawn0 w w')
 case atStart => exact ⟨(0), (0), (by first | rfl | (simp; done) | (simp [*]; done)), (by first | rfl | (simp; done) | (simp [*]; done)), H', ⟨Nat.le_refl _⟩, by repeat (first | exact Drawn0.refl _ | apply Drawn0.step)⟩
 case round =>
  clear H'; obtain ⟨x3_1, x4_1, rfl, rfl, HA, HK1, ⟨m1, rfl⟩⟩ := hrel; cases gk with
  | zero => exact absurd HA.out (by simp [tallboyref29_Take.l0])
  | succ k1 =>
   have H := HA.out; clear HA; simp only [tallboyref29_Take.l0] at H
   by_cases c2 : x4_1 < (a0.size : Int)
   ·rw [if_pos c2] at H; have c2b0 : decide (x4_1 < (a0.size : Int)) = true := decide_eq_true c2; clear c2
    by_cases c3 : 0 ≤ x4_1
    ·rw [if_pos c3] at H; have c3b0 : decide (0 ≤ x4_1) = true := decide_eq_true c3; clear c3; have H' := Aside0.mk H; clear H; have p4 : 0 ≤ (x4_1 : Int) := of_decide_eq_true (by first | (with_reducible assumption) | assumption); have q4 : x4_1 < (a0.size : Int) := of_decide_eq_true (by first | (with_reducible assumption) | assumption)
     have hx4 := bt_at a0 x4_1; replace p4 := eq_true p4; replace q4 := eq_true q4; go_wp2
     go_roundg k1
     case measure => have := HK1.out; omega
     case rel => exact ⟨(IntKind.u64.wrap ((IntKind.u64.wrap (x3_1 * 256)) + (IntKind.u64.wrap (bt a0 x4_1)))), (wrap64 (x4_1 + 1)), (by first | rfl | (simp; done) | (simp [*]; done)), (by first | rfl | (simp; done) | (simp [*]; done)), H', ⟨by have := HK1.out; omega⟩, by repeat (first | exact Drawn0.refl _ | apply Drawn0.step)⟩
    ·rw [if_neg c3] at H; exact absurd H (by simp)
   ·rw [if_neg c2] at H; have c2b0 : decide (x4_1 < (a0.size : Int)) = false := decide_eq_false c2; clear c2; obtain rfl := Option.some.inj H; go_wp2; go_ret
    exact ⟨by first | rfl | (simp; done) | (simp [*]; done), by repeat (first | exact Drawn0.refl _ | apply Drawn0.step)⟩

/-! ### tallboyref29_Unpack: function 16 -/
mutual
def tallboyref29_Unpack.j0 : Nat → ByteArray → Bool → Option (Bool × Int × Int × Int × Int × ByteArray × ByteArray × ByteArray × Int × Int)
 | 0, _, _ => none
 | k + 1, x0, x21 => if x21 = true then (some (false, 0, 0, 0, 0, (⟨#[]⟩ : ByteArray), (⟨#[]⟩ : ByteArray), (⟨#[]⟩ : ByteArray), 0, 6)) else (if (x0.size : Int) < 24 then (some (false, 0, 0, 0, 0, (⟨#[]⟩ : ByteArray), (⟨#[]⟩ : ByteArray), (⟨#[]⟩ : ByteArray), 0, 3)) else (if 2 ≤ 4 then (if 4 ≤ (x0.size : Int) then ((tallboyref29_Take.f k (x0.extract 2 4)).bind fun t130 => (if 4 < (x0.size : Int) then (if 8 ≤ 12 then (if 12 ≤ (x0.size : Int) then ((tallboyref29_Take.f k (x0.extract 8 12)).bind fun t131 => (if 0 < (x0.size : Int) then (if 1 < (x0.size : Int) then (if 6 ≤ 8 then (if 8 ≤ (x0.size : Int) then ((tallboyref29_Take.f k (x0.extract 6 8)).bind fun t132 => (if 12 ≤ 16 then (if 16 ≤ (x0.size : Int) then ((tallboyref29_Take.f k (x0.extract 12 16)).bind fun t133 => (if 16 ≤ 24 then (if 24 ≤ (x0.size : Int) then ((tallboyref29_Take.f k (x0.extract 16 24)).bind fun t134 => (if 5 < (x0.size : Int) then (if (bt x0 5) = 0 then (if ((bt x0 0) = 129) then (tallboyref29_Unpack.j1 k x0 (wrap64 (t130)) (wrap64 (bt x0 4)) (wrap64 (t131)) (decide ((wrap64 ((wrap64 (t130)) + (wrap64 (bt x0 4)))) > (wrap64 (t131)))) ((bt x0 0) == 129) (bt x0 1) (IntKind.u16.wrap (t132)) ((t133) % 4294967296) t134 (⟨#[]⟩ : ByteArray) (⟨#[]⟩ : ByteArray) (⟨#[]⟩ : ByteArray)) else (if (IntKind.u16.wrap (t132)) = 0 then (tallboyref29_Unpack.j1 k x0 (wrap64 (t130)) (wrap64 (bt x0 4)) (wrap64 (t131)) (decide ((wrap64 ((wrap64 (t130)) + (wrap64 (bt x0 4)))) > (wrap64 (t131)))) ((bt x0 0) == 129) (bt x0 1) (IntKind.u16.wrap (t132)) ((t133) % 4294967296) t134 (⟨#[]⟩ : ByteArray) (⟨#[]⟩ : ByteArray) (⟨#[]⟩ : ByteArray)) else (tallboyref29_Unpack.j1 k x0 (wrap64 (t130)) (wrap64 (bt x0 4)) (wrap64 (t131)) true ((bt x0 0) == 129) (bt x0 1) (IntKind.u16.wrap (t132)) ((t133) % 4294967296) t134 (⟨#[]⟩ : ByteArray) (⟨#[]⟩ : ByteArray) (⟨#[]⟩ : ByteArray)))) else (tallboyref29_Unpack.j1 k x0 (wrap64 (t130)) (wrap64 (bt x0 4)) (wrap64 (t131)) true ((bt x0 0) == 129) (bt x0 1) (IntKind.u16.wrap (t132)) ((t133) % 4294967296) t134 (⟨#[]⟩ : ByteArray) (⟨#[]⟩ : ByteArray) (⟨#[]⟩ : ByteArray))) else (none))) else (none)) else (none))) else (none)) else (none))) else (none)) else (none)) else (none)) else (none))) else (none)) else (none)) else (none))) else (none)) else (none)))
def tallboyref29_Unpack.j1 : Nat → ByteArray → Int → Int → Int → Bool → Bool → Int → Int → Int → Int → ByteArray → ByteArray → ByteArray → Option (Bool × Int × Int × Int × Int × ByteArray × ByteArray × ByteArray × Int × Int)
 | 0, _, _, _, _, _, _, _, _, _, _, _, _, _ => none
 | k + 1, x0, x5, x6, x7, x55, z0, z1, z2, z3, z4, z5, z6, z7 => if x55 = true then (some (false, 0, 0, 0, 0, (⟨#[]⟩ : ByteArray), (⟨#[]⟩ : ByteArray), (⟨#[]⟩ : ByteArray), 0, 6)) else (if x5 > 250 then (tallboyref29_Unpack.j2 k x0 x5 x6 x7 true z0 z1 z2 z3 z4 z5 z6 z7) else (if x6 > 20 then (tallboyref29_Unpack.j2 k x0 x5 x6 x7 true z0 z1 z2 z3 z4 z5 z6 z7) else (tallboyref29_Unpack.j2 k x0 x5 x6 x7 (decide ((wrap64 ((wrap64 (x7 - x5)) - x6)) > 1048576)) z0 z1 z2 z3 z4 z5 z6 z7)))
def tallboyref29_Unpack.j2 : Nat → ByteArray → Int → Int → Int → Bool → Bool → Int → Int → Int → Int → ByteArray → ByteArray → ByteArray → Option (Bool × Int × Int × Int × Int × ByteArray × ByteArray × ByteArray × Int × Int)
 | 0, _, _, _, _, _, _, _, _, _, _, _, _, _ => none
 | k + 1, x0, x5, x6, x7, x77, z0, z1, z2, z3, z4, z5, z6, z7 => if x77 = true then (some (false, 0, 0, 0, 0, (⟨#[]⟩ : ByteArray), (⟨#[]⟩ : ByteArray), (⟨#[]⟩ : ByteArray), 0, 7)) else (if (wrap64 ((x0.size : Int) - 24)) < x7 then (some (false, 0, 0, 0, 0, (⟨#[]⟩ : ByteArray), (⟨#[]⟩ : ByteArray), (⟨#[]⟩ : ByteArray), 0, 3)) else (if 24 ≤ (wrap64 (24 + x6)) then (if (wrap64 (24 + x6)) ≤ (x0.size : Int) then (if 0 ≤ (wrap64 (24 + x6)) then (if (wrap64 (24 + x6)) ≤ (wrap64 ((wrap64 (24 + x6)) + x5)) then (if (wrap64 ((wrap64 (24 + x6)) + x5)) ≤ (x0.size : Int) then (if 0 ≤ (wrap64 ((wrap64 (24 + x6)) + x5)) then (if (wrap64 ((wrap64 (24 + x6)) + x5)) ≤ (wrap64 (24 + x7)) then (if (wrap64 (24 + x7)) ≤ (x0.size : Int) then (some (z0, z1, z2, z3, z4, x0.extract 24 ((wrap64 (24 + x6)) : Int).toNat, x0.extract ((wrap64 (24 + x6)) : Int).toNat ((wrap64 ((wrap64 (24 + x6)) + x5)) : Int).toNat, x0.extract ((wrap64 ((wrap64 (24 + x6)) + x5)) : Int).toNat ((wrap64 (24 + x7)) : Int).toNat, wrap64 (24 + x7), 0)) else (none)) else (none)) else (none)) else (none)) else (none)) else (none)) else (none)) else (none)))
end
def tallboyref29_Unpack.f (k : Nat) (a0 : ByteArray) : Option (Bool × Int × Int × Int × Int × ByteArray × ByteArray × ByteArray × Int × Int) := if (a0.size : Int) > 0 then (if 0 < (a0.size : Int) then (if (bt a0 0) = 128 then (tallboyref29_Unpack.j0 k a0 false) else (tallboyref29_Unpack.j0 k a0 ((bt a0 0) != 129))) else (none)) else (tallboyref29_Unpack.j0 k a0 false)
def tallboyref29_Unpack.T5 : Bool × List (List Nat × List Nat) := (true, [([], []), ([0], [0]), ([1], [1]), ([2], [2]), ([], []), ([4], [4]), ([5], [5]), ([], []), ([7], [7]), ([8, 2], [8]), ([9], [9]), ([3, 9, 0, 1, 2, 3], [3]), ([6, 11, 0, 1, 2, 3, 4, 5, 6, 11], [6]), ([10, 12, 0, 1, 2, 3, 4, 5, 6, 7, 8, 9, 10, 11, 12], [10])])
def tallboyref29_Unpack.B5 : List Nat := [0, 1, 3, 7, 0, 16, 48, 0, 128, 391, 903, 911, 3071, 8191]
theorem tallboyref29_Unpack.tab5 : rtab .any (opsOf Try.f16 5) = tallboyref29_Unpack.T5 := by kernel_rfl
theorem tallboyref29_Unpack.bits5 : waitsOk tallboyref29_Unpack.T5.2 tallboyref29_Unpack.B5 = true := by kernel_rfl
def tallboyref29_Unpack.T6 : Bool × List (List Nat × List Nat) := (true, [([], []), ([0], [0]), ([1], [1]), ([], []), ([3], [3]), ([], []), ([5], [5]), ([6], [6]), ([7], [7]), ([], []), ([9], [9]), ([10, 7], [10]), ([11], [11]), ([], []), ([13], [13]), ([14, 11], [14]), ([2, 4, 8, 12, 15], [2, 4, 8, 12, 15]), ([], []), ([17, 16, 15, 0, 1, 2, 3, 4, 5, 6, 7, 8, 9, 10, 11, 12, 13, 14, 15, 16, 17], [16, 17])])
def tallboyref29_Unpack.B6 : List Nat := [0, 1, 3, 0, 8, 0, 32, 96, 224, 0, 512, 1760, 3808, 0, 8192, 28384, 65535, 0, 262143]
theorem tallboyref29_Unpack.tab6 : rtab .any (opsOf Try.f16 6) = tallboyref29_Unpack.T6 := by kernel_rfl
theorem tallboyref29_Unpack.bits6 : waitsOk tallboyref29_Unpack.T6.2 tallboyref29_Unpack.B6 = true := by kernel_rfl

end Go.Proofs.Ytdepkgikdmlgiaa.P
