/- Lean functions for the Go functions that the laws of this seat use, and the proofs that the Go code computes them; conditions: the readings that each theorem names. Written by a program. -/
import Derived.Test.YtdgpagocccabdaaDoorPx0
import Derived.Test.YtdgpagocccabdaaDoorShort
namespace Go.Proofs.YtdgpagocccabdaaDoor.P
open Go.RowKit Go.Proofs.YtdgpagocccabdaaDoorW.PrintWords Go.Proofs.YtdgpagocccabdaaDoorW.PrintLast Go.Proofs.YtdgpagocccabdaaDoorW.PrintMore
set_option linter.unusedVariables false
set_option linter.unusedSimpArgs false

/-! ### reply_Complaint: function 12 -/
def reply_Complaint.f (a0 : Int) : Option (ByteArray) := if a0 = 3 then (some (⟨#[69, 82, 82, 79, 82, 13, 10]⟩ : ByteArray)) else (if a0 = 8 then (some (⟨#[83, 69, 82, 86, 69, 82, 95, 69, 82, 82, 79, 82, 32, 111, 98, 106, 101, 99, 116, 32, 116, 111, 111, 32, 108, 97, 114, 103, 101, 32, 102, 111, 114, 32, 99, 97, 99, 104, 101, 13, 10]⟩ : ByteArray)) else (if a0 = 4 then (if 13 + 23 ≤ 9223372036854775807 then (if 35 + 2 ≤ 9223372036854775807 then (some (((⟨#[67, 76, 73, 69, 78, 84, 95, 69, 82, 82, 79, 82, 32]⟩ : ByteArray) ++ (⟨#[98, 97, 100, 32, 99, 111, 109, 109, 97, 110, 100, 32, 108, 105, 110, 101, 32, 102, 111, 114, 109, 97, 116]⟩ : ByteArray)) ++ (⟨#[13, 10]⟩ : ByteArray))) else (none)) else (none)) else (if a0 = 5 then (if 13 + 14 ≤ 9223372036854775807 then (if 26 + 2 ≤ 9223372036854775807 then (some (((⟨#[67, 76, 73, 69, 78, 84, 95, 69, 82, 82, 79, 82, 32]⟩ : ByteArray) ++ (⟨#[98, 97, 100, 32, 100, 97, 116, 97, 32, 99, 104, 117, 110, 107]⟩ : ByteArray)) ++ (⟨#[13, 10]⟩ : ByteArray))) else (none)) else (none)) else (if a0 = 6 then (if 13 + 30 ≤ 9223372036854775807 then (if 42 + 2 ≤ 9223372036854775807 then (some (((⟨#[67, 76, 73, 69, 78, 84, 95, 69, 82, 82, 79, 82, 32]⟩ : ByteArray) ++ (⟨#[105, 110, 118, 97, 108, 105, 100, 32, 110, 117, 109, 101, 114, 105, 99, 32, 100, 101, 108, 116, 97, 32, 97, 114, 103, 117, 109, 101, 110, 116]⟩ : ByteArray)) ++ (⟨#[13, 10]⟩ : ByteArray))) else (none)) else (none)) else (if a0 = 7 then (if 13 + 24 ≤ 9223372036854775807 then (if 36 + 2 ≤ 9223372036854775807 then (some (((⟨#[67, 76, 73, 69, 78, 84, 95, 69, 82, 82, 79, 82, 32]⟩ : ByteArray) ++ (⟨#[105, 110, 118, 97, 108, 105, 100, 32, 101, 120, 112, 116, 105, 109, 101, 32, 97, 114, 103, 117, 109, 101, 110, 116]⟩ : ByteArray)) ++ (⟨#[13, 10]⟩ : ByteArray))) else (none)) else (none)) else (if a0 = 9 then (if 13 + 13 ≤ 9223372036854775807 then (if 25 + 2 ≤ 9223372036854775807 then (some (((⟨#[67, 76, 73, 69, 78, 84, 95, 69, 82, 82, 79, 82, 32]⟩ : ByteArray) ++ (⟨#[108, 105, 110, 101, 32, 116, 111, 111, 32, 108, 111, 110, 103]⟩ : ByteArray)) ++ (⟨#[13, 10]⟩ : ByteArray))) else (none)) else (none)) else (some (⟨#[]⟩ : ByteArray))))))))
set_option maxHeartbeats 8000000 in
set_option maxRecDepth 100000 in
theorem reply_Complaint.calls (a0 : Int) (r : ByteArray) (w : World) (h : reply_Complaint.f a0 = some r) :
  Calls Tryd.prog 12 #[.int .i64 a0] w fun e w' => e = .returned (.string r) ∧ Drawn0 w w' := by
 have H : (if a0 = 3 then (some (⟨#[69, 82, 82, 79, 82, 13, 10]⟩ : ByteArray)) else (if a0 = 8 then (some (⟨#[83, 69, 82, 86, 69, 82, 95, 69, 82, 82, 79, 82, 32, 111, 98, 106, 101, 99, 116, 32, 116, 111, 111, 32, 108, 97, 114, 103, 101, 32, 102, 111, 114, 32, 99, 97, 99, 104, 101, 13, 10]⟩ : ByteArray)) else (if a0 = 4 then (if 13 + 23 ≤ 9223372036854775807 then (if 35 + 2 ≤ 9223372036854775807 then (some (((⟨#[67, 76, 73, 69, 78, 84, 95, 69, 82, 82, 79, 82, 32]⟩ : ByteArray) ++ (⟨#[98, 97, 100, 32, 99, 111, 109, 109, 97, 110, 100, 32, 108, 105, 110, 101, 32, 102, 111, 114, 109, 97, 116]⟩ : ByteArray)) ++ (⟨#[13, 10]⟩ : ByteArray))) else (none)) else (none)) else (if a0 = 5 then (if 13 + 14 ≤ 9223372036854775807 then (if 26 + 2 ≤ 9223372036854775807 then (some (((⟨#[67, 76, 73, 69, 78, 84, 95, 69, 82, 82, 79, 82, 32]⟩ : ByteArray) ++ (⟨#[98, 97, 100, 32, 100, 97, 116, 97, 32, 99, 104, 117, 110, 107]⟩ : ByteArray)) ++ (⟨#[13, 10]⟩ : ByteArray))) else (none)) else (none)) else (if a0 = 6 then (if 13 + 30 ≤ 9223372036854775807 then (if 42 + 2 ≤ 9223372036854775807 then (some (((⟨#[67, 76, 73, 69, 78, 84, 95, 69, 82, 82, 79, 82, 32]⟩ : ByteArray) ++ (⟨#[105, 110, 118, 97, 108, 105, 100, 32, 110, 117, 109, 101, 114, 105, 99, 32, 100, 101, 108, 116, 97, 32, 97, 114, 103, 117, 109, 101, 110, 116]⟩ : ByteArray)) ++ (⟨#[13, 10]⟩ : ByteArray))) else (none)) else (none)) else (if a0 = 7 then (if 13 + 24 ≤ 9223372036854775807 then (if 36 + 2 ≤ 9223372036854775807 then (some (((⟨#[67, 76, 73, 69, 78, 84, 95, 69, 82, 82, 79, 82, 32]⟩ : ByteArray) ++ (⟨#[105, 110, 118, 97, 108, 105, 100, 32, 101, 120, 112, 116, 105, 109, 101, 32, 97, 114, 103, 117, 109, 101, 110, 116]⟩ : ByteArray)) ++ (⟨#[13, 10]⟩ : ByteArray))) else (none)) else (none)) else (if a0 = 9 then (if 13 + 13 ≤ 9223372036854775807 then (if 25 + 2 ≤ 9223372036854775807 then (some (((⟨#[67, 76, 73, 69, 78, 84, 95, 69, 82, 82, 79, 82, 32]⟩ : ByteArray) ++ (⟨#[108, 105, 110, 101, 32, 116, 111, 111, 32, 108, 111, 110, 103]⟩ : ByteArray)) ++ (⟨#[13, 10]⟩ : ByteArray))) else (none)) else (none)) else (some (⟨#[]⟩ : ByteArray))))))))) = some r := h; clear h
 by_cases c2 : a0 = 3
 ·rw [if_pos c2] at H; have c2b0 : (a0 == 3) = true := beq_iff_eq.mpr c2; have c2b1 : (a0 != 3) = false := bne_eq_false_iff_eq.mpr c2; clear c2; obtain rfl := Option.some.inj H; go_enter Tryd.func12, Tryd.ntmps12; go_wp2; go_ret
  exact ⟨by first | rfl | (simp; done) | (simp [*]; done), by repeat (first | exact Drawn0.refl _ | apply Drawn0.step)⟩
 ·rw [if_neg c2] at H; have c2b0 : (a0 == 3) = false := beq_eq_false_iff_ne.mpr c2; have c2b1 : (a0 != 3) = true := bne_iff_ne.mpr c2
  by_cases c3 : a0 = 8
  ·rw [if_pos c3] at H; have c3b0 : (a0 == 8) = true := beq_iff_eq.mpr c3; have c3b1 : (a0 != 8) = false := bne_eq_false_iff_eq.mpr c3; clear c3; obtain rfl := Option.some.inj H; go_enter Tryd.func12, Tryd.ntmps12; go_wp2; go_ret
   exact ⟨by first | rfl | (simp; done) | (simp [*]; done), by repeat (first | exact Drawn0.refl _ | apply Drawn0.step)⟩
  ·rw [if_neg c3] at H; have c3b0 : (a0 == 8) = false := beq_eq_false_iff_ne.mpr c3; have c3b1 : (a0 != 8) = true := bne_iff_ne.mpr c3
   by_cases c4 : a0 = 4
   ·rw [if_pos c4] at H; have c4b0 : (a0 == 4) = true := beq_iff_eq.mpr c4; have c4b1 : (a0 != 4) = false := bne_eq_false_iff_eq.mpr c4; clear c4
    by_cases c5 : 13 + 23 ≤ 9223372036854775807
    ·rw [if_pos c5] at H; have c5b0 := eq_true c5; have c5b1 : decide (13 + 23 ≤ 9223372036854775807) = true := decide_eq_true c5
     try have c5b2 : (9223372036854775807 < 13 + 23) = False := eq_false (Nat.not_lt.2 c5)
     by_cases c6 : 35 + 2 ≤ 9223372036854775807
     ·rw [if_pos c6] at H; have c6b0 := eq_true c6; have c6b1 : decide (35 + 2 ≤ 9223372036854775807) = true := decide_eq_true c6
      try have c6b2 : (9223372036854775807 < 35 + 2) = False := eq_false (Nat.not_lt.2 c6)
      obtain rfl := Option.some.inj H; go_enter Tryd.func12, Tryd.ntmps12; go_wp2; go_ret
      exact ⟨by first | rfl | (simp; done) | (simp [*]; done), by repeat (first | exact Drawn0.refl _ | apply Drawn0.step)⟩
     ·rw [if_neg c6] at H; exact absurd H (by simp)
    ·rw [if_neg c5] at H; exact absurd H (by simp)
   ·rw [if_neg c4] at H; have c4b0 : (a0 == 4) = false := beq_eq_false_iff_ne.mpr c4; have c4b1 : (a0 != 4) = true := bne_iff_ne.mpr c4
    by_cases c7 : a0 = 5
    ·rw [if_pos c7] at H; have c7b0 : (a0 == 5) = true := beq_iff_eq.mpr c7; have c7b1 : (a0 != 5) = false := bne_eq_false_iff_eq.mpr c7; clear c7
     by_cases c8 : 13 + 14 ≤ 9223372036854775807
     ·rw [if_pos c8] at H; have c8b0 := eq_true c8; have c8b1 : decide (13 + 14 ≤ 9223372036854775807) = true := decide_eq_true c8
      try have c8b2 : (9223372036854775807 < 13 + 14) = False := eq_false (Nat.not_lt.2 c8)
      by_cases c9 : 26 + 2 ≤ 9223372036854775807
      ·rw [if_pos c9] at H; have c9b0 := eq_true c9; have c9b1 : decide (26 + 2 ≤ 9223372036854775807) = true := decide_eq_true c9
       try have c9b2 : (9223372036854775807 < 26 + 2) = False := eq_false (Nat.not_lt.2 c9)
       obtain rfl := Option.some.inj H; go_enter Tryd.func12, Tryd.ntmps12; go_wp2; go_ret
       exact ⟨by first | rfl | (simp; done) | (simp [*]; done), by repeat (first | exact Drawn0.refl _ | apply Drawn0.step)⟩
      ·rw [if_neg c9] at H; exact absurd H (by simp)
     ·rw [if_neg c8] at H; exact absurd H (by simp)
    ·rw [if_neg c7] at H; have c7b0 : (a0 == 5) = false := beq_eq_false_iff_ne.mpr c7; have c7b1 : (a0 != 5) = true := bne_iff_ne.mpr c7
     by_cases c10 : a0 = 6
     ·rw [if_pos c10] at H; have c10b0 : (a0 == 6) = true := beq_iff_eq.mpr c10; have c10b1 : (a0 != 6) = false := bne_eq_false_iff_eq.mpr c10; clear c10
      by_cases c11 : 13 + 30 ≤ 9223372036854775807
      ·rw [if_pos c11] at H; have c11b0 := eq_true c11; have c11b1 : decide (13 + 30 ≤ 9223372036854775807) = true := decide_eq_true c11
       try have c11b2 : (9223372036854775807 < 13 + 30) = False := eq_false (Nat.not_lt.2 c11)
       by_cases c12 : 42 + 2 ≤ 9223372036854775807
       ·rw [if_pos c12] at H; have c12b0 := eq_true c12; have c12b1 : decide (42 + 2 ≤ 9223372036854775807) = true := decide_eq_true c12
        try have c12b2 : (9223372036854775807 < 42 + 2) = False := eq_false (Nat.not_lt.2 c12)
        obtain rfl := Option.some.inj H; go_enter Tryd.func12, Tryd.ntmps12; go_wp2; go_ret
        exact ⟨by first | rfl | (simp; done) | (simp [*]; done), by repeat (first | exact Drawn0.refl _ | apply Drawn0.step)⟩
       ·rw [if_neg c12] at H; exact absurd H (by simp)
      ·rw [if_neg c11] at H; exact absurd H (by simp)
     ·rw [if_neg c10] at H; have c10b0 : (a0 == 6) = false := beq_eq_false_iff_ne.mpr c10; have c10b1 : (a0 != 6) = true := bne_iff_ne.mpr c10
      by_cases c13 : a0 = 7
      ·rw [if_pos c13] at H; have c13b0 : (a0 == 7) = true := beq_iff_eq.mpr c13; have c13b1 : (a0 != 7) = false := bne_eq_false_iff_eq.mpr c13; clear c13
       by_cases c14 : 13 + 24 ≤ 9223372036854775807
       ·rw [if_pos c14] at H; have c14b0 := eq_true c14; have c14b1 : decide (13 + 24 ≤ 9223372036854775807) = true := decide_eq_true c14
        try have c14b2 : (9223372036854775807 < 13 + 24) = False := eq_false (Nat.not_lt.2 c14)
        by_cases c15 : 36 + 2 ≤ 9223372036854775807
        ·rw [if_pos c15] at H; have c15b0 := eq_true c15; have c15b1 : decide (36 + 2 ≤ 9223372036854775807) = true := decide_eq_true c15
         try have c15b2 : (9223372036854775807 < 36 + 2) = False := eq_false (Nat.not_lt.2 c15)
         obtain rfl := Option.some.inj H; go_enter Tryd.func12, Tryd.ntmps12; go_wp2; go_ret
         exact ⟨by first | rfl | (simp; done) | (simp [*]; done), by repeat (first | exact Drawn0.refl _ | apply Drawn0.step)⟩
        ·rw [if_neg c15] at H; exact absurd H (by simp)
       ·rw [if_neg c14] at H; exact absurd H (by simp)
      ·rw [if_neg c13] at H; have c13b0 : (a0 == 7) = false := beq_eq_false_iff_ne.mpr c13; have c13b1 : (a0 != 7) = true := bne_iff_ne.mpr c13
       by_cases c16 : a0 = 9
       ·rw [if_pos c16] at H; have c16b0 : (a0 == 9) = true := beq_iff_eq.mpr c16; have c16b1 : (a0 != 9) = false := bne_eq_false_iff_eq.mpr c16; clear c16
        by_cases c17 : 13 + 13 ≤ 9223372036854775807
        ·rw [if_pos c17] at H; have c17b0 := eq_true c17; have c17b1 : decide (13 + 13 ≤ 9223372036854775807) = true := decide_eq_true c17
         try have c17b2 : (9223372036854775807 < 13 + 13) = False := eq_false (Nat.not_lt.2 c17)
         by_cases c18 : 25 + 2 ≤ 9223372036854775807
         ·rw [if_pos c18] at H; have c18b0 := eq_true c18; have c18b1 : decide (25 + 2 ≤ 9223372036854775807) = true := decide_eq_true c18
          try have c18b2 : (9223372036854775807 < 25 + 2) = False := eq_false (Nat.not_lt.2 c18)
          obtain rfl := Option.some.inj H; go_enter Tryd.func12, Tryd.ntmps12; go_wp2; go_ret
          exact ⟨by first | rfl | (simp; done) | (simp [*]; done), by repeat (first | exact Drawn0.refl _ | apply Drawn0.step)⟩
         ·rw [if_neg c18] at H; exact absurd H (by simp)
        ·rw [if_neg c17] at H; exact absurd H (by simp)
       ·rw [if_neg c16] at H; have c16b0 : (a0 == 9) = false := beq_eq_false_iff_ne.mpr c16; have c16b1 : (a0 != 9) = true := bne_iff_ne.mpr c16; obtain rfl := Option.some.inj H; go_enter Tryd.func12, Tryd.ntmps12; go_wp2; go_ret
        exact ⟨by first | rfl | (simp; done) | (simp [*]; done), by repeat (first | exact Drawn0.refl _ | apply Drawn0.step)⟩

/-! ### tallboyref18_Complaint: function 13 -/
end Go.Proofs.YtdgpagocccabdaaDoor.P
