/- Lean functions for the Go functions that the laws of this seat use, and the proofs that the Go code computes them; conditions: the readings that each theorem names. Written by a program. -/
import Derived.Test.YtdgpagocccabdaaDoorPx0
import Derived.Test.YtdgpagocccabdaaDoorPx9
import Derived.Test.YtdgpagocccabdaaDoorShort
namespace Go.Proofs.YtdgpagocccabdaaDoor.P
open Go.RowKit Go.Proofs.YtdgpagocccabdaaDoorW.PrintWords Go.Proofs.YtdgpagocccabdaaDoorW.PrintLast Go.Proofs.YtdgpagocccabdaaDoorW.PrintMore
set_option linter.unusedVariables false
set_option linter.unusedSimpArgs false

/-! ### tallboyref18_Text: function 11 -/
def tallboyref18_Text.l0 : Nat → Int → ByteArray → Int → Int → List (S47) → Int → Option (ByteArray)
 | 0, _, _, _, _, _, _ => none
 | k + 1, x0, x5, x6, z1, z0, z2 => if x6 < (z0.length : Int) then (if 0 ≤ x6 then (if x5.size + 6 ≤ 9223372036854775807 then (if (x5 ++ (⟨#[86, 65, 76, 85, 69, 32]⟩ : ByteArray)).size + ((rd_T47 z0 x6).f0).size ≤ 9223372036854775807 then (if ((x5 ++ (⟨#[86, 65, 76, 85, 69, 32]⟩ : ByteArray)) ++ ((rd_T47 z0 x6).f0)).size + 1 ≤ 9223372036854775807 then ((tallboyref02_Text.f k (IntKind.u64.wrap ((rd_T47 z0 x6).f1))).bind fun t122 => (if (((x5 ++ (⟨#[86, 65, 76, 85, 69, 32]⟩ : ByteArray)) ++ ((rd_T47 z0 x6).f0)) ++ (⟨#[32]⟩ : ByteArray)).size + t122.size ≤ 9223372036854775807 then (if ((((x5 ++ (⟨#[86, 65, 76, 85, 69, 32]⟩ : ByteArray)) ++ ((rd_T47 z0 x6).f0)) ++ (⟨#[32]⟩ : ByteArray)) ++ t122).size + 1 ≤ 9223372036854775807 then ((tallboyref02_Text.f k (IntKind.u64.wrap ((((rd_T47 z0 x6).f2).size : Int)))).bind fun t123 => (if (((((x5 ++ (⟨#[86, 65, 76, 85, 69, 32]⟩ : ByteArray)) ++ ((rd_T47 z0 x6).f0)) ++ (⟨#[32]⟩ : ByteArray)) ++ t122) ++ (⟨#[32]⟩ : ByteArray)).size + t123.size ≤ 9223372036854775807 then ((tallboyref15_Shows.f x0).bind fun t124 => (if t124 = true then (if ((((((x5 ++ (⟨#[86, 65, 76, 85, 69, 32]⟩ : ByteArray)) ++ ((rd_T47 z0 x6).f0)) ++ (⟨#[32]⟩ : ByteArray)) ++ t122) ++ (⟨#[32]⟩ : ByteArray)) ++ t123).size + 1 ≤ 9223372036854775807 then ((tallboyref02_Text.f k ((rd_T47 z0 x6).f3)).bind fun t125 => (if (((((((x5 ++ (⟨#[86, 65, 76, 85, 69, 32]⟩ : ByteArray)) ++ ((rd_T47 z0 x6).f0)) ++ (⟨#[32]⟩ : ByteArray)) ++ t122) ++ (⟨#[32]⟩ : ByteArray)) ++ t123) ++ (⟨#[32]⟩ : ByteArray)).size + t125.size ≤ 9223372036854775807 then (if ((((((((x5 ++ (⟨#[86, 65, 76, 85, 69, 32]⟩ : ByteArray)) ++ ((rd_T47 z0 x6).f0)) ++ (⟨#[32]⟩ : ByteArray)) ++ t122) ++ (⟨#[32]⟩ : ByteArray)) ++ t123) ++ (⟨#[32]⟩ : ByteArray)) ++ t125).size + 2 ≤ 9223372036854775807 then (if (((((((((x5 ++ (⟨#[86, 65, 76, 85, 69, 32]⟩ : ByteArray)) ++ ((rd_T47 z0 x6).f0)) ++ (⟨#[32]⟩ : ByteArray)) ++ t122) ++ (⟨#[32]⟩ : ByteArray)) ++ t123) ++ (⟨#[32]⟩ : ByteArray)) ++ t125) ++ (⟨#[13, 10]⟩ : ByteArray)).size + ((rd_T47 z0 x6).f2).size ≤ 9223372036854775807 then (if ((((((((((x5 ++ (⟨#[86, 65, 76, 85, 69, 32]⟩ : ByteArray)) ++ ((rd_T47 z0 x6).f0)) ++ (⟨#[32]⟩ : ByteArray)) ++ t122) ++ (⟨#[32]⟩ : ByteArray)) ++ t123) ++ (⟨#[32]⟩ : ByteArray)) ++ t125) ++ (⟨#[13, 10]⟩ : ByteArray)) ++ ((rd_T47 z0 x6).f2)).size + 2 ≤ 9223372036854775807 then (tallboyref18_Text.l0 k x0 (((((((((((x5 ++ (⟨#[86, 65, 76, 85, 69, 32]⟩ : ByteArray)) ++ ((rd_T47 z0 x6).f0)) ++ (⟨#[32]⟩ : ByteArray)) ++ t122) ++ (⟨#[32]⟩ : ByteArray)) ++ t123) ++ (⟨#[32]⟩ : ByteArray)) ++ t125) ++ (⟨#[13, 10]⟩ : ByteArray)) ++ ((rd_T47 z0 x6).f2)) ++ (⟨#[13, 10]⟩ : ByteArray)) (wrap64 (x6 + 1)) z1 z0 z2) else (none)) else (none)) else (none)) else (none))) else (none)) else (if ((((((x5 ++ (⟨#[86, 65, 76, 85, 69, 32]⟩ : ByteArray)) ++ ((rd_T47 z0 x6).f0)) ++ (⟨#[32]⟩ : ByteArray)) ++ t122) ++ (⟨#[32]⟩ : ByteArray)) ++ t123).size + 2 ≤ 9223372036854775807 then (if (((((((x5 ++ (⟨#[86, 65, 76, 85, 69, 32]⟩ : ByteArray)) ++ ((rd_T47 z0 x6).f0)) ++ (⟨#[32]⟩ : ByteArray)) ++ t122) ++ (⟨#[32]⟩ : ByteArray)) ++ t123) ++ (⟨#[13, 10]⟩ : ByteArray)).size + ((rd_T47 z0 x6).f2).size ≤ 9223372036854775807 then (if ((((((((x5 ++ (⟨#[86, 65, 76, 85, 69, 32]⟩ : ByteArray)) ++ ((rd_T47 z0 x6).f0)) ++ (⟨#[32]⟩ : ByteArray)) ++ t122) ++ (⟨#[32]⟩ : ByteArray)) ++ t123) ++ (⟨#[13, 10]⟩ : ByteArray)) ++ ((rd_T47 z0 x6).f2)).size + 2 ≤ 9223372036854775807 then (tallboyref18_Text.l0 k x0 (((((((((x5 ++ (⟨#[86, 65, 76, 85, 69, 32]⟩ : ByteArray)) ++ ((rd_T47 z0 x6).f0)) ++ (⟨#[32]⟩ : ByteArray)) ++ t122) ++ (⟨#[32]⟩ : ByteArray)) ++ t123) ++ (⟨#[13, 10]⟩ : ByteArray)) ++ ((rd_T47 z0 x6).f2)) ++ (⟨#[13, 10]⟩ : ByteArray)) (wrap64 (x6 + 1)) z1 z0 z2) else (none)) else (none)) else (none)))) else (none))) else (none)) else (none))) else (none)) else (none)) else (none)) else (none)) else (if x5.size + 5 ≤ 9223372036854775807 then (some (x5 ++ (⟨#[69, 78, 68, 13, 10]⟩ : ByteArray))) else (none))
def tallboyref18_Text.f (k : Nat) (a0 : Int) (a1_0 : Int) (l1_1 : List (S47)) (a1_2 : Int) : Option (ByteArray) := if a1_0 = 1 then (tallboyref18_Text.l0 k a0 (⟨#[]⟩ : ByteArray) 0 a1_0 l1_1 a1_2) else (if a1_0 = 7 then ((tallboyref02_Text.f k a1_2).bind fun t126 => (if t126.size + 2 ≤ 9223372036854775807 then (some (t126 ++ (⟨#[13, 10]⟩ : ByteArray))) else (none))) else ((tallboyref18_plain.f a0 a1_0).bind fun t127 => (if t127.toList = ([] : List UInt8) then (some (⟨#[]⟩ : ByteArray)) else (if t127.size + 2 ≤ 9223372036854775807 then (some (t127 ++ (⟨#[13, 10]⟩ : ByteArray))) else (none)))))
theorem tallboyref18_Text.mono_l : ∀ k, (∀ y0 y1 y2 y3 y4 y5, LeO (tallboyref18_Text.l0 k y0 y1 y2 y3 y4 y5) (tallboyref18_Text.l0 (k + 1) y0 y1 y2 y3 y4 y5))
 | 0 => fun _ _ _ _ _ _ r h => by simp [tallboyref18_Text.l0] at h
 | k + 1 => by
  have ih0 := tallboyref18_Text.mono_l k
  ·intro y0 y1 y2 y3 y4 y5
   unfold tallboyref18_Text.l0
   repeat' first | (with_reducible first | apply ih0 | apply tallboyref02_Text.mono | exact LeO.refl _ | exact LeO.none _ | refine LeO.ite ?_ ?_ | refine LeO.bind ?_ (fun _ => ?_)) | apply ih0 | apply tallboyref02_Text.mono | exact LeO.none _ | refine LeO.ite ?_ ?_ | refine LeO.bind ?_ (fun _ => ?_)
theorem tallboyref18_Text.mono : ∀ a0 a1 a2 a3 k, LeO (tallboyref18_Text.f k a0 a1 a2 a3) (tallboyref18_Text.f (k + 1) a0 a1 a2 a3) := by
 intro a0 a1 a2 a3 k
 have ih0 := tallboyref18_Text.mono_l k; unfold tallboyref18_Text.f
 repeat' first | (with_reducible first | apply ih0 | apply tallboyref02_Text.mono | exact LeO.refl _ | exact LeO.none _ | refine LeO.ite ?_ ?_ | refine LeO.bind ?_ (fun _ => ?_)) | apply ih0 | apply tallboyref02_Text.mono | exact LeO.none _ | refine LeO.ite ?_ ?_ | refine LeO.bind ?_ (fun _ => ?_)
def tallboyref18_Text.T8 : Bool × List (List Nat × List Nat) := (true, [([], []), ([0], [0]), ([], []), ([2], [2]), ([1, 3], [1, 3]), ([4], [4]), ([], []), ([6], [6]), ([7], [7]), ([8], [8]), ([5, 9], [5, 9]), ([10], [10]), ([], []), ([12], [12]), ([13], [13]), ([14], [14]), ([15, 9], [15]), ([11, 16], [11, 16]), ([17, 16, 0, 1, 2, 3, 4, 5, 6, 7, 8, 9, 10, 11, 12, 13, 14, 15, 16, 17], [0, 17])])
def tallboyref18_Text.B8 : List Nat := [0, 1, 0, 4, 15, 31, 0, 64, 192, 448, 1023, 2047, 0, 4096, 12288, 28672, 62400, 131071, 262143]
theorem tallboyref18_Text.tab8 : rtab .any (opsOf Tryd.f11 8) = tallboyref18_Text.T8 := by kernel_rfl
theorem tallboyref18_Text.bits8 : waitsOk tallboyref18_Text.T8.2 tallboyref18_Text.B8 = true := by kernel_rfl
set_option maxHeartbeats 8000000 in
set_option maxRecDepth 100000 in
theorem tallboyref18_Text.calls (k : Nat) (a0 : Int) (a1_0 : Int) (A1_1 : Option Addr) (c1_1 : Nat) (l1_1 : List (S47)) (a1_2 : Int) (r : ByteArray) (w : World) (hr1_1 : Kd.C k47 w A1_1 l1_1.length l1_1) (hc1_1 : l1_1.length ≤ c1_1) (h : tallboyref18_Text.f k a0 a1_0 l1_1 a1_2 = some r) :
  Calls Tryd.prog 11 #[.int .i64 a0, .agg #[.int .i64 a1_0, .slice A1_1 l1_1.length c1_1, .int .u64 a1_2]] w fun e w' => e = .returned (.string r) ∧ Below w.heap.size w w' := by
 have hu25 := Tryd.underlying25; have hu47 := Tryd.underlying47; have HR1_1 := Aside0.mk hr1_1; have HC1_1 := Aside0.mk hc1_1; clear hr1_1 hc1_1; have HB := Aside0.mk (Below.refl w.heap.size w); have H : (if a1_0 = 1 then (tallboyref18_Text.l0 k a0 (⟨#[]⟩ : ByteArray) 0 a1_0 l1_1 a1_2) else (if a1_0 = 7 then ((tallboyref02_Text.f k a1_2).bind fun t126 => (if t126.size + 2 ≤ 9223372036854775807 then (some (t126 ++ (⟨#[13, 10]⟩ : ByteArray))) else (none))) else ((tallboyref18_plain.f a0 a1_0).bind fun t127 => (if t127.toList = ([] : List UInt8) then (some (⟨#[]⟩ : ByteArray)) else (if t127.size + 2 ≤ 9223372036854775807 then (some (t127 ++ (⟨#[13, 10]⟩ : ByteArray))) else (none)))))) = some r := h; clear h
 by_cases c3 : a1_0 = 1
 ·rw [if_pos c3] at H; have c3b0 : (a1_0 == 1) = true := beq_iff_eq.mpr c3; have c3b1 : (a1_0 != 1) = false := bne_eq_false_iff_eq.mpr c3; clear c3; have H' := Aside0.mk H; clear H; go_enter Tryd.func11, Tryd.ntmps11
  go_wp2_with (first | ((with_reducible refine gate_dst (N := 3) rfl ?_); refine bE 3 #[.int .i64 a1_0, .slice A1_1 l1_1.length c1_1, .int .u64 a1_2] 25 rfl rfl ?_; intro gb119 hg w4 hbox hb; have BK119 := rM hbox; have GW119 := rG HB hg; replace HB := rS HB hb; have GE119 := GW119; clear hb hbox hg; obtain ⟨hcz5, hfz5⟩ := d3 BK119))
  go_loopg [5, 6] k (fun kq v5 v6 w' => ∃ (x5_1 : ByteArray) (x6_1 : Int), v5 = .string x5_1 ∧ v6 = .int .i64 x6_1 ∧ Aside0 (tallboyref18_Text.l0 kq a0 x5_1 x6_1 a1_0 l1_1 a1_2 = some r) ∧ Aside0 (kq ≤ k) ∧ Aside0 (w'.heap[gb119]? = some (.cells #[.int .i64 a1_0, (.slice A1_1 l1_1.length c1_1), .int .u64 a1_2] 25 (0, 0))) ∧ Aside0 (Below w.heap.size w w'))
  case atStart => exact ⟨((⟨#[]⟩ : ByteArray)), (0), (by first | rfl | (simp; done) | (simp [*]; done)), (by first | rfl | (simp; done) | (simp [*]; done)), H', ⟨Nat.le_refl _⟩, ⟨bK BK119.out⟩, ⟨bH HB.out⟩⟩
  case round =>
   clear H'; (try clear c3); (try clear c3b0); (try clear c3b1); (try clear hcz5); (try clear hfz5); obtain ⟨x5_1, x6_1, rfl, rfl, HA, HK1, BK119, HB⟩ := hrel; cases gk with
   | zero => exact absurd HA.out (by simp [tallboyref18_Text.l0])
   | succ k1 =>
    have H := HA.out; clear HA; simp only [tallboyref18_Text.l0] at H
    by_cases c6 : x6_1 < (l1_1.length : Int)
    ·rw [if_pos c6] at H; have c6b0 : decide (x6_1 < (l1_1.length : Int)) = true := decide_eq_true c6; clear c6
     by_cases c7 : 0 ≤ x6_1
     ·rw [if_pos c7] at H; have c7b0 : decide (0 ≤ x6_1) = true := decide_eq_true c7; clear c7
      by_cases c8 : x5_1.size + 6 ≤ 9223372036854775807
      ·rw [if_pos c8] at H; have c8b0 := eq_true c8; have c8b1 : decide (x5_1.size + 6 ≤ 9223372036854775807) = true := decide_eq_true c8
       try have c8b2 : (9223372036854775807 < x5_1.size + 6) = False := eq_false (Nat.not_lt.2 c8)
       by_cases c9 : (x5_1 ++ (⟨#[86, 65, 76, 85, 69, 32]⟩ : ByteArray)).size + ((rd_T47 l1_1 x6_1).f0).size ≤ 9223372036854775807
       ·rw [if_pos c9] at H; have c9b0 := eq_true c9; have c9b1 : decide ((x5_1 ++ (⟨#[86, 65, 76, 85, 69, 32]⟩ : ByteArray)).size + ((rd_T47 l1_1 x6_1).f0).size ≤ 9223372036854775807) = true := decide_eq_true c9
        try have c9b2 : (9223372036854775807 < (x5_1 ++ (⟨#[86, 65, 76, 85, 69, 32]⟩ : ByteArray)).size + ((rd_T47 l1_1 x6_1).f0).size) = False := eq_false (Nat.not_lt.2 c9)
        try (have c9b3 := c9b2; simp only [ByteArray.size_append, show (⟨#[86, 65, 76, 85, 69, 32]⟩ : ByteArray).size = 6 from rfl] at c9b3)
        by_cases c10 : ((x5_1 ++ (⟨#[86, 65, 76, 85, 69, 32]⟩ : ByteArray)) ++ ((rd_T47 l1_1 x6_1).f0)).size + 1 ≤ 9223372036854775807
        ·rw [if_pos c10] at H; have c10b0 := eq_true c10; have c10b1 : decide (((x5_1 ++ (⟨#[86, 65, 76, 85, 69, 32]⟩ : ByteArray)) ++ ((rd_T47 l1_1 x6_1).f0)).size + 1 ≤ 9223372036854775807) = true := decide_eq_true c10
         try have c10b2 : (9223372036854775807 < ((x5_1 ++ (⟨#[86, 65, 76, 85, 69, 32]⟩ : ByteArray)) ++ ((rd_T47 l1_1 x6_1).f0)).size + 1) = False := eq_false (Nat.not_lt.2 c10)
         try (have c10b3 := c10b2; simp only [ByteArray.size_append, show (⟨#[86, 65, 76, 85, 69, 32]⟩ : ByteArray).size = 6 from rfl] at c10b3)
         replace H := Option.bind_eq_some_iff.mp H; obtain ⟨t122, A110, H⟩ := H
         (try dsimp only at H)
         have A11 := Aside0.mk A110; clear A110
         by_cases c12 : (((x5_1 ++ (⟨#[86, 65, 76, 85, 69, 32]⟩ : ByteArray)) ++ ((rd_T47 l1_1 x6_1).f0)) ++ (⟨#[32]⟩ : ByteArray)).size + t122.size ≤ 9223372036854775807
         ·rw [if_pos c12] at H; have c12b0 := eq_true c12; have c12b1 : decide ((((x5_1 ++ (⟨#[86, 65, 76, 85, 69, 32]⟩ : ByteArray)) ++ ((rd_T47 l1_1 x6_1).f0)) ++ (⟨#[32]⟩ : ByteArray)).size + t122.size ≤ 9223372036854775807) = true := decide_eq_true c12
          try have c12b2 : (9223372036854775807 < (((x5_1 ++ (⟨#[86, 65, 76, 85, 69, 32]⟩ : ByteArray)) ++ ((rd_T47 l1_1 x6_1).f0)) ++ (⟨#[32]⟩ : ByteArray)).size + t122.size) = False := eq_false (Nat.not_lt.2 c12)
          try (have c12b3 := c12b2; simp only [ByteArray.size_append, show (⟨#[86, 65, 76, 85, 69, 32]⟩ : ByteArray).size = 6 from rfl, show (⟨#[32]⟩ : ByteArray).size = 1 from rfl] at c12b3)
          by_cases c13 : ((((x5_1 ++ (⟨#[86, 65, 76, 85, 69, 32]⟩ : ByteArray)) ++ ((rd_T47 l1_1 x6_1).f0)) ++ (⟨#[32]⟩ : ByteArray)) ++ t122).size + 1 ≤ 9223372036854775807
          ·rw [if_pos c13] at H; have c13b0 := eq_true c13; have c13b1 : decide (((((x5_1 ++ (⟨#[86, 65, 76, 85, 69, 32]⟩ : ByteArray)) ++ ((rd_T47 l1_1 x6_1).f0)) ++ (⟨#[32]⟩ : ByteArray)) ++ t122).size + 1 ≤ 9223372036854775807) = true := decide_eq_true c13
           try have c13b2 : (9223372036854775807 < ((((x5_1 ++ (⟨#[86, 65, 76, 85, 69, 32]⟩ : ByteArray)) ++ ((rd_T47 l1_1 x6_1).f0)) ++ (⟨#[32]⟩ : ByteArray)) ++ t122).size + 1) = False := eq_false (Nat.not_lt.2 c13)
           try (have c13b3 := c13b2; simp only [ByteArray.size_append, show (⟨#[86, 65, 76, 85, 69, 32]⟩ : ByteArray).size = 6 from rfl, show (⟨#[32]⟩ : ByteArray).size = 1 from rfl] at c13b3)
           replace H := Option.bind_eq_some_iff.mp H; obtain ⟨t123, A140, H⟩ := H
           (try dsimp only at H)
           have A14 := Aside0.mk A140; clear A140
           by_cases c15 : (((((x5_1 ++ (⟨#[86, 65, 76, 85, 69, 32]⟩ : ByteArray)) ++ ((rd_T47 l1_1 x6_1).f0)) ++ (⟨#[32]⟩ : ByteArray)) ++ t122) ++ (⟨#[32]⟩ : ByteArray)).size + t123.size ≤ 9223372036854775807
           ·rw [if_pos c15] at H; have c15b0 := eq_true c15; have c15b1 : decide ((((((x5_1 ++ (⟨#[86, 65, 76, 85, 69, 32]⟩ : ByteArray)) ++ ((rd_T47 l1_1 x6_1).f0)) ++ (⟨#[32]⟩ : ByteArray)) ++ t122) ++ (⟨#[32]⟩ : ByteArray)).size + t123.size ≤ 9223372036854775807) = true := decide_eq_true c15
            try have c15b2 : (9223372036854775807 < (((((x5_1 ++ (⟨#[86, 65, 76, 85, 69, 32]⟩ : ByteArray)) ++ ((rd_T47 l1_1 x6_1).f0)) ++ (⟨#[32]⟩ : ByteArray)) ++ t122) ++ (⟨#[32]⟩ : ByteArray)).size + t123.size) = False := eq_false (Nat.not_lt.2 c15)
            try (have c15b3 := c15b2; simp only [ByteArray.size_append, show (⟨#[86, 65, 76, 85, 69, 32]⟩ : ByteArray).size = 6 from rfl, show (⟨#[32]⟩ : ByteArray).size = 1 from rfl] at c15b3)
            replace H := Option.bind_eq_some_iff.mp H; obtain ⟨t124, A160, H⟩ := H; (try dsimp only at H); have A16 := Aside0.mk A160; clear A160
            by_cases c17 : t124 = true
            ·subst c17; rw [if_pos rfl] at H
             by_cases c18 : ((((((x5_1 ++ (⟨#[86, 65, 76, 85, 69, 32]⟩ : ByteArray)) ++ ((rd_T47 l1_1 x6_1).f0)) ++ (⟨#[32]⟩ : ByteArray)) ++ t122) ++ (⟨#[32]⟩ : ByteArray)) ++ t123).size + 1 ≤ 9223372036854775807
             ·rw [if_pos c18] at H; have c18b0 := eq_true c18; have c18b1 : decide (((((((x5_1 ++ (⟨#[86, 65, 76, 85, 69, 32]⟩ : ByteArray)) ++ ((rd_T47 l1_1 x6_1).f0)) ++ (⟨#[32]⟩ : ByteArray)) ++ t122) ++ (⟨#[32]⟩ : ByteArray)) ++ t123).size + 1 ≤ 9223372036854775807) = true := decide_eq_true c18
              try have c18b2 : (9223372036854775807 < ((((((x5_1 ++ (⟨#[86, 65, 76, 85, 69, 32]⟩ : ByteArray)) ++ ((rd_T47 l1_1 x6_1).f0)) ++ (⟨#[32]⟩ : ByteArray)) ++ t122) ++ (⟨#[32]⟩ : ByteArray)) ++ t123).size + 1) = False := eq_false (Nat.not_lt.2 c18)
              try (have c18b3 := c18b2; simp only [ByteArray.size_append, show (⟨#[86, 65, 76, 85, 69, 32]⟩ : ByteArray).size = 6 from rfl, show (⟨#[32]⟩ : ByteArray).size = 1 from rfl] at c18b3)
              replace H := Option.bind_eq_some_iff.mp H; obtain ⟨t125, A190, H⟩ := H; (try dsimp only at H); have A19 := Aside0.mk A190; clear A190
              by_cases c20 : (((((((x5_1 ++ (⟨#[86, 65, 76, 85, 69, 32]⟩ : ByteArray)) ++ ((rd_T47 l1_1 x6_1).f0)) ++ (⟨#[32]⟩ : ByteArray)) ++ t122) ++ (⟨#[32]⟩ : ByteArray)) ++ t123) ++ (⟨#[32]⟩ : ByteArray)).size + t125.size ≤ 9223372036854775807
              ·rw [if_pos c20] at H; have c20b0 := eq_true c20; have c20b1 : decide ((((((((x5_1 ++ (⟨#[86, 65, 76, 85, 69, 32]⟩ : ByteArray)) ++ ((rd_T47 l1_1 x6_1).f0)) ++ (⟨#[32]⟩ : ByteArray)) ++ t122) ++ (⟨#[32]⟩ : ByteArray)) ++ t123) ++ (⟨#[32]⟩ : ByteArray)).size + t125.size ≤ 9223372036854775807) = true := decide_eq_true c20
               try have c20b2 : (9223372036854775807 < (((((((x5_1 ++ (⟨#[86, 65, 76, 85, 69, 32]⟩ : ByteArray)) ++ ((rd_T47 l1_1 x6_1).f0)) ++ (⟨#[32]⟩ : ByteArray)) ++ t122) ++ (⟨#[32]⟩ : ByteArray)) ++ t123) ++ (⟨#[32]⟩ : ByteArray)).size + t125.size) = False := eq_false (Nat.not_lt.2 c20)
               try (have c20b3 := c20b2; simp only [ByteArray.size_append, show (⟨#[86, 65, 76, 85, 69, 32]⟩ : ByteArray).size = 6 from rfl, show (⟨#[32]⟩ : ByteArray).size = 1 from rfl] at c20b3)
               by_cases c21 : ((((((((x5_1 ++ (⟨#[86, 65, 76, 85, 69, 32]⟩ : ByteArray)) ++ ((rd_T47 l1_1 x6_1).f0)) ++ (⟨#[32]⟩ : ByteArray)) ++ t122) ++ (⟨#[32]⟩ : ByteArray)) ++ t123) ++ (⟨#[32]⟩ : ByteArray)) ++ t125).size + 2 ≤ 9223372036854775807
               ·rw [if_pos c21] at H; have c21b0 := eq_true c21; have c21b1 : decide (((((((((x5_1 ++ (⟨#[86, 65, 76, 85, 69, 32]⟩ : ByteArray)) ++ ((rd_T47 l1_1 x6_1).f0)) ++ (⟨#[32]⟩ : ByteArray)) ++ t122) ++ (⟨#[32]⟩ : ByteArray)) ++ t123) ++ (⟨#[32]⟩ : ByteArray)) ++ t125).size + 2 ≤ 9223372036854775807) = true := decide_eq_true c21
                try have c21b2 : (9223372036854775807 < ((((((((x5_1 ++ (⟨#[86, 65, 76, 85, 69, 32]⟩ : ByteArray)) ++ ((rd_T47 l1_1 x6_1).f0)) ++ (⟨#[32]⟩ : ByteArray)) ++ t122) ++ (⟨#[32]⟩ : ByteArray)) ++ t123) ++ (⟨#[32]⟩ : ByteArray)) ++ t125).size + 2) = False := eq_false (Nat.not_lt.2 c21)
                try (have c21b3 := c21b2; simp only [ByteArray.size_append, show (⟨#[86, 65, 76, 85, 69, 32]⟩ : ByteArray).size = 6 from rfl, show (⟨#[32]⟩ : ByteArray).size = 1 from rfl] at c21b3)
                by_cases c22 : (((((((((x5_1 ++ (⟨#[86, 65, 76, 85, 69, 32]⟩ : ByteArray)) ++ ((rd_T47 l1_1 x6_1).f0)) ++ (⟨#[32]⟩ : ByteArray)) ++ t122) ++ (⟨#[32]⟩ : ByteArray)) ++ t123) ++ (⟨#[32]⟩ : ByteArray)) ++ t125) ++ (⟨#[13, 10]⟩ : ByteArray)).size + ((rd_T47 l1_1 x6_1).f2).size ≤ 9223372036854775807
                ·rw [if_pos c22] at H; have c22b0 := eq_true c22; have c22b1 : decide ((((((((((x5_1 ++ (⟨#[86, 65, 76, 85, 69, 32]⟩ : ByteArray)) ++ ((rd_T47 l1_1 x6_1).f0)) ++ (⟨#[32]⟩ : ByteArray)) ++ t122) ++ (⟨#[32]⟩ : ByteArray)) ++ t123) ++ (⟨#[32]⟩ : ByteArray)) ++ t125) ++ (⟨#[13, 10]⟩ : ByteArray)).size + ((rd_T47 l1_1 x6_1).f2).size ≤ 9223372036854775807) = true := decide_eq_true c22
                 try have c22b2 : (9223372036854775807 < (((((((((x5_1 ++ (⟨#[86, 65, 76, 85, 69, 32]⟩ : ByteArray)) ++ ((rd_T47 l1_1 x6_1).f0)) ++ (⟨#[32]⟩ : ByteArray)) ++ t122) ++ (⟨#[32]⟩ : ByteArray)) ++ t123) ++ (⟨#[32]⟩ : ByteArray)) ++ t125) ++ (⟨#[13, 10]⟩ : ByteArray)).size + ((rd_T47 l1_1 x6_1).f2).size) = False := eq_false (Nat.not_lt.2 c22)
                 try (have c22b3 := c22b2; simp only [ByteArray.size_append, show (⟨#[86, 65, 76, 85, 69, 32]⟩ : ByteArray).size = 6 from rfl, show (⟨#[32]⟩ : ByteArray).size = 1 from rfl, show (⟨#[13, 10]⟩ : ByteArray).size = 2 from rfl] at c22b3)
                 by_cases c23 : ((((((((((x5_1 ++ (⟨#[86, 65, 76, 85, 69, 32]⟩ : ByteArray)) ++ ((rd_T47 l1_1 x6_1).f0)) ++ (⟨#[32]⟩ : ByteArray)) ++ t122) ++ (⟨#[32]⟩ : ByteArray)) ++ t123) ++ (⟨#[32]⟩ : ByteArray)) ++ t125) ++ (⟨#[13, 10]⟩ : ByteArray)) ++ ((rd_T47 l1_1 x6_1).f2)).size + 2 ≤ 9223372036854775807
                 ·rw [if_pos c23] at H; have c23b0 := eq_true c23; have c23b1 : decide (((((((((((x5_1 ++ (⟨#[86, 65, 76, 85, 69, 32]⟩ : ByteArray)) ++ ((rd_T47 l1_1 x6_1).f0)) ++ (⟨#[32]⟩ : ByteArray)) ++ t122) ++ (⟨#[32]⟩ : ByteArray)) ++ t123) ++ (⟨#[32]⟩ : ByteArray)) ++ t125) ++ (⟨#[13, 10]⟩ : ByteArray)) ++ ((rd_T47 l1_1 x6_1).f2)).size + 2 ≤ 9223372036854775807) = true := decide_eq_true c23
                  try have c23b2 : (9223372036854775807 < ((((((((((x5_1 ++ (⟨#[86, 65, 76, 85, 69, 32]⟩ : ByteArray)) ++ ((rd_T47 l1_1 x6_1).f0)) ++ (⟨#[32]⟩ : ByteArray)) ++ t122) ++ (⟨#[32]⟩ : ByteArray)) ++ t123) ++ (⟨#[32]⟩ : ByteArray)) ++ t125) ++ (⟨#[13, 10]⟩ : ByteArray)) ++ ((rd_T47 l1_1 x6_1).f2)).size + 2) = False := eq_false (Nat.not_lt.2 c23)
                  try (have c23b3 := c23b2; simp only [ByteArray.size_append, show (⟨#[86, 65, 76, 85, 69, 32]⟩ : ByteArray).size = 6 from rfl, show (⟨#[32]⟩ : ByteArray).size = 1 from rfl, show (⟨#[13, 10]⟩ : ByteArray).size = 2 from rfl] at c23b3)
                  have H' := Aside0.mk H; clear H; obtain ⟨hcz24, hfz24⟩ := d3 BK119; have p120 : 0 ≤ (x6_1 : Int) := of_decide_eq_true (by first | (with_reducible assumption) | assumption); have q120 : x6_1 < (l1_1.length : Int) := of_decide_eq_true (by first | (with_reducible assumption) | assumption)
                  obtain ⟨ad120, e120, hx120_0, hx120_1, hx120_2, hx120_3⟩ := at_T47 HR1_1.out x6_1 p120 q120; cases e120; replace hx120_0 := (HB.out.cell (World.block_lt_of_cell? w _ hx120_0)).trans hx120_0; replace hx120_1 := (HB.out.cell (World.block_lt_of_cell? w _ hx120_1)).trans hx120_1; replace hx120_2 := (HB.out.cell (World.block_lt_of_cell? w _ hx120_2)).trans hx120_2; replace hx120_3 := (HB.out.cell (World.block_lt_of_cell? w _ hx120_3)).trans hx120_3; replace p120 := eq_true p120; replace q120 := eq_true q120
                  try go_wp2_with (first | ((with_reducible refine gate_dst (N := 7) rfl ?_); refine bE 7 #[.string (⟨#[]⟩ : ByteArray), .int .u32 0, .string (⟨#[]⟩ : ByteArray), .int .u64 0] 47 rfl rfl ?_; intro gb121 hg w25 hbox hb; have BK121 := rM hbox; have GW121 := rG HB hg; replace HB := rS HB hb; have GE121 := GW121; have NB119_121 := rN BK119 hg; replace BK119 := rB BK119 hb; have NB121_119 := rY NB119_121; clear hb hbox hg; have hnb26 := rP NB121_119 NB119_121; obtain ⟨hcz27, hfz27⟩ := d4 BK121))
                  have n0_ : Aside0 (((((w25.setCell ⟨gb121, 0, none⟩ (.string ((rd_T47 l1_1 x6_1).f0))).setCell ⟨gb121, 1, none⟩ (.int .u32 ((rd_T47 l1_1 x6_1).f1))).setCell ⟨gb121, 2, none⟩ (.string ((rd_T47 l1_1 x6_1).f2))).setCell ⟨gb121, 3, none⟩ (.int .u64 ((rd_T47 l1_1 x6_1).f3))).heap[gb119]? = some (.cells #[.int .i64 a1_0, .slice (some ad120) l1_1.length c1_1, .int .u64 a1_2] 25 (0, 0))) := ⟨bK BK119.out⟩; have n1_ : Aside0 (((((w25.setCell ⟨gb121, 0, none⟩ (.string ((rd_T47 l1_1 x6_1).f0))).setCell ⟨gb121, 1, none⟩ (.int .u32 ((rd_T47 l1_1 x6_1).f1))).setCell ⟨gb121, 2, none⟩ (.string ((rd_T47 l1_1 x6_1).f2))).setCell ⟨gb121, 3, none⟩ (.int .u64 ((rd_T47 l1_1 x6_1).f3))).heap[gb121]? = some (.cells #[.string ((rd_T47 l1_1 x6_1).f0), .int .u32 ((rd_T47 l1_1 x6_1).f1), .string ((rd_T47 l1_1 x6_1).f2), .int .u64 ((rd_T47 l1_1 x6_1).f3)] 47 (0, 0))) := ⟨bV BK121.out⟩
                  have n2_ : Aside0 (Below w.heap.size w ((((w25.setCell ⟨gb121, 0, none⟩ (.string ((rd_T47 l1_1 x6_1).f0))).setCell ⟨gb121, 1, none⟩ (.int .u32 ((rd_T47 l1_1 x6_1).f1))).setCell ⟨gb121, 2, none⟩ (.string ((rd_T47 l1_1 x6_1).f2))).setCell ⟨gb121, 3, none⟩ (.int .u64 ((rd_T47 l1_1 x6_1).f3)))) := ⟨bH HB.out⟩
                  (try clear BK119)
                  (try clear BK121)
                  (try clear HB)
                  generalize ((((w25.setCell ⟨gb121, 0, none⟩ (.string ((rd_T47 l1_1 x6_1).f0))).setCell ⟨gb121, 1, none⟩ (.int .u32 ((rd_T47 l1_1 x6_1).f1))).setCell ⟨gb121, 2, none⟩ (.string ((rd_T47 l1_1 x6_1).f2))).setCell ⟨gb121, 3, none⟩ (.int .u64 ((rd_T47 l1_1 x6_1).f3))) = w28 at n0_ n1_ n2_ ⊢; have BK119 := n0_; have BK121 := n1_; have HB := n2_; clear n0_ n1_ n2_; replace BK119 := Aside0.mk (bD BK119.out); replace BK121 := Aside0.mk (bD BK121.out); replace HB := Aside0.mk (eD HB.out); refine start_ (n := 19) (S := fun w' => w'.cell? ⟨gb121, 0, none⟩ = some (.string ((rd_T47 l1_1 x6_1).f0)) ∧ w'.cell? ⟨gb121, 1, none⟩ = some (.int .u32 ((rd_T47 l1_1 x6_1).f1)) ∧ w'.cell? ⟨gb121, 2, none⟩ = some (.string ((rd_T47 l1_1 x6_1).f2)) ∧ w'.cell? ⟨gb121, 3, none⟩ = some (.int .u64 ((rd_T47 l1_1 x6_1).f3))) (ds := []) #[false, false, false, false, false, false, false, false, false, false, false, false, false, false, false, false, false, false, false] (by kernel_rfl) rfl rfl ⟨kC BK121 0, kC BK121 1, kC BK121 2, kC BK121 3⟩ (fun hHeld => ?_); refine with_tabW tallboyref18_Text.tab8 tallboyref18_Text.bits8 (fun HT_ HW_ => ?_)
                  generalize w28.drew = w29 at BK119 BK121 HB hHeld ⊢; refine pU HT_ 0 (some 25) ?_ #[true, false, false, false, false, false, false, false, false, false, false, false, false, false, false, false, false, false, false] rfl rfl ?_ ?_ ?_ ?_
                  rotate_left
                  ·intro w'
                   go_simp
                   with_reducible rfl
                  rotate_left
                  ·simp only [Act.put, sA, sB, sC, i64_w, i32_w]
                   rfl
                  refine pU HT_ 1 (some 26) ?_ #[true, true, false, false, false, false, false, false, false, false, false, false, false, false, false, false, false, false, false] rfl rfl ?_ ?_ ?_ ?_
                  rotate_left
                  ·intro w'
                   go_simp
                   with_reducible rfl
                  rotate_left
                  ·simp only [Act.put, sA, sB, sC, i64_w, i32_w]
                   rfl
                  refine pU HT_ 2 (some 27) ?_ #[true, true, true, false, false, false, false, false, false, false, false, false, false, false, false, false, false, false, false] rfl rfl ?_ ?_ ?_ ?_
                  rotate_left
                  ·intro w'
                   go_simp
                   with_reducible rfl
                  rotate_left
                  ·simp only [Act.put, sA, sB, sC, i64_w, i32_w]
                   rfl
                  refine pU HT_ 6 (some 31) ?_ #[true, true, true, false, false, false, true, false, false, false, false, false, false, false, false, false, false, false, false] rfl rfl ?_ ?_ ?_ ?_
                  rotate_left
                  ·intro w'
                   go_simp
                   with_reducible rfl
                  rotate_left
                  ·simp only [Act.put, sA, sB, sC, i64_w, i32_w]
                   rfl
                  refine pU HT_ 12 (some 37) ?_ #[true, true, true, false, false, false, true, false, false, false, false, false, true, false, false, false, false, false, false] rfl rfl ?_ ?_ ?_ ?_
                  rotate_left
                  ·intro w'
                   go_simp
                   with_reducible rfl
                  rotate_left
                  ·simp only [Act.put, sA, sB, sC, i64_w, i32_w]
                   rfl
                  refine tU HT_ HW_ hHeld 3 (some 28) ?_ #[true, true, true, true, false, false, true, false, false, false, false, false, true, false, false, false, false, false, false] rfl rfl ?_ ?_ ?_ ?_
                  rotate_left
                  ·rintro w' ⟨s0, s1, s2, s3⟩
                   go_simp
                   with_reducible rfl
                  rotate_left
                  ·simp only [Act.put, sA, sB, sC, i64_w, i32_w]
                   rfl
                  refine pU HT_ 4 (some 29) ?_ #[true, true, true, true, true, false, true, false, false, false, false, false, true, false, false, false, false, false, false] rfl rfl ?_ ?_ ?_ ?_
                  rotate_left
                  ·intro w'
                   go_simp
                   with_reducible rfl
                  rotate_left
                  ·simp only [Act.put, sA, sB, sC, i64_w, i32_w]
                   rfl
                  refine pU HT_ 5 (some 30) ?_ #[true, true, true, true, true, true, true, false, false, false, false, false, true, false, false, false, false, false, false] rfl rfl ?_ ?_ ?_ ?_
                  rotate_left
                  ·intro w'
                   go_simp
                   with_reducible rfl
                  rotate_left
                  ·simp only [Act.put, sA, sB, sC, i64_w, i32_w]
                   rfl
                  refine tU HT_ HW_ hHeld 7 (some 32) ?_ #[true, true, true, true, true, true, true, true, false, false, false, false, true, false, false, false, false, false, false] rfl rfl ?_ ?_ ?_ ?_
                  rotate_left
                  ·rintro w' ⟨s0, s1, s2, s3⟩
                   go_simp
                   with_reducible rfl
                  rotate_left
                  ·simp only [Act.put, sA, sB, sC, i64_w, i32_w]
                   rfl
                  refine pU HT_ 8 (some 33) ?_ #[true, true, true, true, true, true, true, true, true, false, false, false, true, false, false, false, false, false, false] rfl rfl ?_ ?_ ?_ ?_
                  rotate_left
                  ·intro w'
                   go_simp
                   with_reducible rfl
                  rotate_left
                  ·simp only [Act.put, sA, sB, sC, i64_w, i32_w]
                   rfl
                  refine tU HT_ HW_ hHeld 13 (some 38) ?_ #[true, true, true, true, true, true, true, true, true, false, false, false, true, true, false, false, false, false, false] rfl rfl ?_ ?_ ?_ ?_
                  rotate_left
                  ·rintro w' ⟨s0, s1, s2, s3⟩
                   go_simp
                   with_reducible rfl
                  rotate_left
                  ·simp only [Act.put, sA, sB, sC, i64_w, i32_w]
                   rfl
                  refine pU HT_ 14 (some 39) ?_ #[true, true, true, true, true, true, true, true, true, false, false, false, true, true, true, false, false, false, false] rfl rfl ?_ ?_ ?_ ?_
                  rotate_left
                  ·intro w'
                   go_simp
                   with_reducible rfl
                  rotate_left
                  ·simp only [Act.put, sA, sB, sC, i64_w, i32_w]
                   rfl
                  refine pU HT_ 15 (some 40) ?_ #[true, true, true, true, true, true, true, true, true, false, false, false, true, true, true, true, false, false, false] rfl rfl ?_ ?_ ?_ ?_
                  rotate_left
                  ·intro w'
                   go_simp
                   with_reducible rfl
                  rotate_left
                  ·simp only [Act.put, sA, sB, sC, i64_w, i32_w]
                   rfl
                  refine one_ (i := 9) (N := some 34) #[true, true, true, true, true, true, true, true, true, true, false, false, true, true, true, true, false, false, false] rfl rfl (one_of HT_.out (by kernel_rfl)) (by decide) (fun K hK => ?_)
                  refine goes_ Tryd.func26 (by kernel_rfl) rfl #[.int .u64 (IntKind.u64.wrap ((rd_T47 l1_1 x6_1).f1))] (by rfl) rfl rfl (by (try simp only [List.map_toArray, List.map_cons, List.map_nil]); first | done | rfl | (simp only [List.length_drop, List.length_take]; rfl)) ?_
                  with_reducible refine (tallboyref02_Text.calls k1 (IntKind.u64.wrap ((rd_T47 l1_1 x6_1).f1)) t122 _ A11.out).mono ?_
                  rintro e w30 ⟨rfl, hb⟩
                  refine ⟨_, rfl, ?_⟩
                  replace BK119 := rB BK119 hb; replace BK121 := rB BK121 hb; replace HB := rS HB hb
                  (try clear hb)
                  
                  
                  
                  refine hK.out _ _ ⟨kC BK121 0, kC BK121 1, kC BK121 2, kC BK121 3⟩ (fun hHeld => ?_)
                  clear hK K; refine norm_ (a' := ?_) ?_ ?_
                  rotate_left
                  ·show Act.put _ (some 34) _ = _
                   simp only [Act.put, sA, sB, sC, i64_w, i32_w]
                   rfl
                  refine pU HT_ 10 (some 35) ?_ #[true, true, true, true, true, true, true, true, true, true, true, false, true, true, true, true, false, false, false] rfl rfl ?_ ?_ ?_ ?_
                  rotate_left
                  ·intro w'
                   go_simp
                   with_reducible rfl
                  rotate_left
                  ·simp only [Act.put, sA, sB, sC, i64_w, i32_w]
                   rfl
                  refine pU HT_ 11 (some 36) ?_ #[true, true, true, true, true, true, true, true, true, true, true, true, true, true, true, true, false, false, false] rfl rfl ?_ ?_ ?_ ?_
                  rotate_left
                  ·intro w'
                   go_simp
                   with_reducible rfl
                  rotate_left
                  ·simp only [Act.put, sA, sB, sC, i64_w, i32_w]
                   rfl
                  refine one_ (i := 16) (N := some 41) #[true, true, true, true, true, true, true, true, true, true, true, true, true, true, true, true, true, false, false] rfl rfl (one_of HT_.out (by kernel_rfl)) (by decide) (fun K hK => ?_)
                  refine goes_ Tryd.func26 (by kernel_rfl) rfl #[.int .u64 (IntKind.u64.wrap ((((rd_T47 l1_1 x6_1).f2).size : Int)))] (by rfl) rfl rfl (by (try simp only [List.map_toArray, List.map_cons, List.map_nil]); first | done | rfl | (simp only [List.length_drop, List.length_take]; rfl)) ?_
                  with_reducible refine (tallboyref02_Text.calls k1 (IntKind.u64.wrap ((((rd_T47 l1_1 x6_1).f2).size : Int))) t123 _ A14.out).mono ?_
                  rintro e w31 ⟨rfl, hb⟩
                  refine ⟨_, rfl, ?_⟩
                  replace BK119 := rB BK119 hb; replace BK121 := rB BK121 hb; replace HB := rS HB hb
                  (try clear hb)
                  
                  
                  
                  refine hK.out _ _ ⟨kC BK121 0, kC BK121 1, kC BK121 2, kC BK121 3⟩ (fun hHeld => ?_)
                  clear hK K; refine norm_ (a' := ?_) ?_ ?_
                  rotate_left
                  ·show Act.put _ (some 41) _ = _
                   simp only [Act.put, sA, sB, sC, i64_w, i32_w]
                   rfl
                  refine pU HT_ 17 (some 42) ?_ #[true, true, true, true, true, true, true, true, true, true, true, true, true, true, true, true, true, true, false] rfl rfl ?_ ?_ ?_ ?_
                  rotate_left
                  ·intro w'
                   go_simp
                   with_reducible rfl
                  rotate_left
                  ·simp only [Act.put, sA, sB, sC, i64_w, i32_w]
                   rfl
                  refine pU HT_ 18 (some 5) ?_ #[true, true, true, true, true, true, true, true, true, true, true, true, true, true, true, true, true, true, true] rfl rfl ?_ ?_ ?_ ?_
                  rotate_left
                  ·intro w'
                   go_simp
                   with_reducible rfl
                  rotate_left
                  ·simp only [Act.put, sA, sB, sC, i64_w, i32_w]
                   rfl
                  refine done_ (done_of HT_.out (by kernel_rfl)) ?_
                  try go_wp2_with (first | ((with_reducible refine gate_callee (f := 27) rfl ?_); refine goesL_ (some 44) rfl rfl Tryd.func27 (by kernel_rfl) rfl #[.int .i64 a0] rfl (by (try simp only [List.map_toArray, List.map_cons, List.map_nil]); first | done | rfl | (simp only [List.length_drop, List.length_take]; rfl)) ?_; (with_reducible refine (tallboyref15_Shows.calls a0 true _ A16.out).mono ?_); rintro e w' ⟨rfl, ⟨nd, rfl⟩⟩; refine ⟨_, rfl, ?_⟩; obtain ⟨hcz32, hfz32⟩ := d4 BK121) | ((with_reducible refine gate_callee (f := 26) rfl ?_); refine goesL_ (some 49) rfl rfl Tryd.func26 (by kernel_rfl) rfl #[.int .u64 ((rd_T47 l1_1 x6_1).f3)] rfl (by (try simp only [List.map_toArray, List.map_cons, List.map_nil]); first | done | rfl | (simp only [List.length_drop, List.length_take]; rfl)) ?_; (with_reducible refine (tallboyref02_Text.calls k1 ((rd_T47 l1_1 x6_1).f3) t125 _ A19.out).mono ?_); rintro e w33 ⟨rfl, hb⟩; refine ⟨_, rfl, ?_⟩; replace BK119 := rB BK119 hb; replace BK121 := rB BK121 hb; replace HB := rS HB hb; (try clear hb); obtain ⟨hcz34, hfz34⟩ := d4 BK121))
                  go_roundg k1
                  case measure => have := HK1.out; omega
                  case rel => exact ⟨(((((((((((x5_1 ++ (⟨#[86, 65, 76, 85, 69, 32]⟩ : ByteArray)) ++ ((rd_T47 l1_1 x6_1).f0)) ++ (⟨#[32]⟩ : ByteArray)) ++ t122) ++ (⟨#[32]⟩ : ByteArray)) ++ t123) ++ (⟨#[32]⟩ : ByteArray)) ++ t125) ++ (⟨#[13, 10]⟩ : ByteArray)) ++ ((rd_T47 l1_1 x6_1).f2)) ++ (⟨#[13, 10]⟩ : ByteArray)), (wrap64 (x6_1 + 1)), (by first | rfl | (simp; done) | (simp [*]; done)), (by first | rfl | (simp; done) | (simp [*]; done)), H', ⟨by have := HK1.out; omega⟩, ⟨bK BK119.out⟩, ⟨bH HB.out⟩⟩
                 ·rw [if_neg c23] at H; exact absurd H (by simp)
                ·rw [if_neg c22] at H; exact absurd H (by simp)
               ·rw [if_neg c21] at H; exact absurd H (by simp)
              ·rw [if_neg c20] at H; exact absurd H (by simp)
             ·rw [if_neg c18] at H; exact absurd H (by simp)
            ·replace c17 := Bool.eq_false_iff.mpr c17; subst c17; rw [if_neg (show ¬ (false = true) by decide)] at H
             by_cases c35 : ((((((x5_1 ++ (⟨#[86, 65, 76, 85, 69, 32]⟩ : ByteArray)) ++ ((rd_T47 l1_1 x6_1).f0)) ++ (⟨#[32]⟩ : ByteArray)) ++ t122) ++ (⟨#[32]⟩ : ByteArray)) ++ t123).size + 2 ≤ 9223372036854775807
             ·rw [if_pos c35] at H; have c35b0 := eq_true c35; have c35b1 : decide (((((((x5_1 ++ (⟨#[86, 65, 76, 85, 69, 32]⟩ : ByteArray)) ++ ((rd_T47 l1_1 x6_1).f0)) ++ (⟨#[32]⟩ : ByteArray)) ++ t122) ++ (⟨#[32]⟩ : ByteArray)) ++ t123).size + 2 ≤ 9223372036854775807) = true := decide_eq_true c35
              try have c35b2 : (9223372036854775807 < ((((((x5_1 ++ (⟨#[86, 65, 76, 85, 69, 32]⟩ : ByteArray)) ++ ((rd_T47 l1_1 x6_1).f0)) ++ (⟨#[32]⟩ : ByteArray)) ++ t122) ++ (⟨#[32]⟩ : ByteArray)) ++ t123).size + 2) = False := eq_false (Nat.not_lt.2 c35)
              try (have c35b3 := c35b2; simp only [ByteArray.size_append, show (⟨#[86, 65, 76, 85, 69, 32]⟩ : ByteArray).size = 6 from rfl, show (⟨#[32]⟩ : ByteArray).size = 1 from rfl] at c35b3)
              by_cases c36 : (((((((x5_1 ++ (⟨#[86, 65, 76, 85, 69, 32]⟩ : ByteArray)) ++ ((rd_T47 l1_1 x6_1).f0)) ++ (⟨#[32]⟩ : ByteArray)) ++ t122) ++ (⟨#[32]⟩ : ByteArray)) ++ t123) ++ (⟨#[13, 10]⟩ : ByteArray)).size + ((rd_T47 l1_1 x6_1).f2).size ≤ 9223372036854775807
              ·rw [if_pos c36] at H; have c36b0 := eq_true c36; have c36b1 : decide ((((((((x5_1 ++ (⟨#[86, 65, 76, 85, 69, 32]⟩ : ByteArray)) ++ ((rd_T47 l1_1 x6_1).f0)) ++ (⟨#[32]⟩ : ByteArray)) ++ t122) ++ (⟨#[32]⟩ : ByteArray)) ++ t123) ++ (⟨#[13, 10]⟩ : ByteArray)).size + ((rd_T47 l1_1 x6_1).f2).size ≤ 9223372036854775807) = true := decide_eq_true c36
               try have c36b2 : (9223372036854775807 < (((((((x5_1 ++ (⟨#[86, 65, 76, 85, 69, 32]⟩ : ByteArray)) ++ ((rd_T47 l1_1 x6_1).f0)) ++ (⟨#[32]⟩ : ByteArray)) ++ t122) ++ (⟨#[32]⟩ : ByteArray)) ++ t123) ++ (⟨#[13, 10]⟩ : ByteArray)).size + ((rd_T47 l1_1 x6_1).f2).size) = False := eq_false (Nat.not_lt.2 c36)
               try (have c36b3 := c36b2; simp only [ByteArray.size_append, show (⟨#[86, 65, 76, 85, 69, 32]⟩ : ByteArray).size = 6 from rfl, show (⟨#[32]⟩ : ByteArray).size = 1 from rfl, show (⟨#[13, 10]⟩ : ByteArray).size = 2 from rfl] at c36b3)
               by_cases c37 : ((((((((x5_1 ++ (⟨#[86, 65, 76, 85, 69, 32]⟩ : ByteArray)) ++ ((rd_T47 l1_1 x6_1).f0)) ++ (⟨#[32]⟩ : ByteArray)) ++ t122) ++ (⟨#[32]⟩ : ByteArray)) ++ t123) ++ (⟨#[13, 10]⟩ : ByteArray)) ++ ((rd_T47 l1_1 x6_1).f2)).size + 2 ≤ 9223372036854775807
               ·rw [if_pos c37] at H; have c37b0 := eq_true c37; have c37b1 : decide (((((((((x5_1 ++ (⟨#[86, 65, 76, 85, 69, 32]⟩ : ByteArray)) ++ ((rd_T47 l1_1 x6_1).f0)) ++ (⟨#[32]⟩ : ByteArray)) ++ t122) ++ (⟨#[32]⟩ : ByteArray)) ++ t123) ++ (⟨#[13, 10]⟩ : ByteArray)) ++ ((rd_T47 l1_1 x6_1).f2)).size + 2 ≤ 9223372036854775807) = true := decide_eq_true c37
                try have c37b2 : (9223372036854775807 < ((((((((x5_1 ++ (⟨#[86, 65, 76, 85, 69, 32]⟩ : ByteArray)) ++ ((rd_T47 l1_1 x6_1).f0)) ++ (⟨#[32]⟩ : ByteArray)) ++ t122) ++ (⟨#[32]⟩ : ByteArray)) ++ t123) ++ (⟨#[13, 10]⟩ : ByteArray)) ++ ((rd_T47 l1_1 x6_1).f2)).size + 2) = False := eq_false (Nat.not_lt.2 c37)
                try (have c37b3 := c37b2; simp only [ByteArray.size_append, show (⟨#[86, 65, 76, 85, 69, 32]⟩ : ByteArray).size = 6 from rfl, show (⟨#[32]⟩ : ByteArray).size = 1 from rfl, show (⟨#[13, 10]⟩ : ByteArray).size = 2 from rfl] at c37b3)
                have H' := Aside0.mk H; clear H; obtain ⟨hcz38, hfz38⟩ := d3 BK119; have p120 : 0 ≤ (x6_1 : Int) := of_decide_eq_true (by first | (with_reducible assumption) | assumption); have q120 : x6_1 < (l1_1.length : Int) := of_decide_eq_true (by first | (with_reducible assumption) | assumption)
                obtain ⟨ad120, e120, hx120_0, hx120_1, hx120_2, hx120_3⟩ := at_T47 HR1_1.out x6_1 p120 q120; cases e120; replace hx120_0 := (HB.out.cell (World.block_lt_of_cell? w _ hx120_0)).trans hx120_0; replace hx120_1 := (HB.out.cell (World.block_lt_of_cell? w _ hx120_1)).trans hx120_1; replace hx120_2 := (HB.out.cell (World.block_lt_of_cell? w _ hx120_2)).trans hx120_2; replace hx120_3 := (HB.out.cell (World.block_lt_of_cell? w _ hx120_3)).trans hx120_3; replace p120 := eq_true p120; replace q120 := eq_true q120
                try go_wp2_with (first | ((with_reducible refine gate_dst (N := 7) rfl ?_); refine bE 7 #[.string (⟨#[]⟩ : ByteArray), .int .u32 0, .string (⟨#[]⟩ : ByteArray), .int .u64 0] 47 rfl rfl ?_; intro gb121 hg w39 hbox hb; have BK121 := rM hbox; have GW121 := rG HB hg; replace HB := rS HB hb; have GE121 := GW121; have NB119_121 := rN BK119 hg; replace BK119 := rB BK119 hb; have NB121_119 := rY NB119_121; clear hb hbox hg; have hnb40 := rP NB121_119 NB119_121; obtain ⟨hcz41, hfz41⟩ := d4 BK121))
                have n0_ : Aside0 (((((w39.setCell ⟨gb121, 0, none⟩ (.string ((rd_T47 l1_1 x6_1).f0))).setCell ⟨gb121, 1, none⟩ (.int .u32 ((rd_T47 l1_1 x6_1).f1))).setCell ⟨gb121, 2, none⟩ (.string ((rd_T47 l1_1 x6_1).f2))).setCell ⟨gb121, 3, none⟩ (.int .u64 ((rd_T47 l1_1 x6_1).f3))).heap[gb119]? = some (.cells #[.int .i64 a1_0, .slice (some ad120) l1_1.length c1_1, .int .u64 a1_2] 25 (0, 0))) := ⟨bK BK119.out⟩; have n1_ : Aside0 (((((w39.setCell ⟨gb121, 0, none⟩ (.string ((rd_T47 l1_1 x6_1).f0))).setCell ⟨gb121, 1, none⟩ (.int .u32 ((rd_T47 l1_1 x6_1).f1))).setCell ⟨gb121, 2, none⟩ (.string ((rd_T47 l1_1 x6_1).f2))).setCell ⟨gb121, 3, none⟩ (.int .u64 ((rd_T47 l1_1 x6_1).f3))).heap[gb121]? = some (.cells #[.string ((rd_T47 l1_1 x6_1).f0), .int .u32 ((rd_T47 l1_1 x6_1).f1), .string ((rd_T47 l1_1 x6_1).f2), .int .u64 ((rd_T47 l1_1 x6_1).f3)] 47 (0, 0))) := ⟨bV BK121.out⟩
                have n2_ : Aside0 (Below w.heap.size w ((((w39.setCell ⟨gb121, 0, none⟩ (.string ((rd_T47 l1_1 x6_1).f0))).setCell ⟨gb121, 1, none⟩ (.int .u32 ((rd_T47 l1_1 x6_1).f1))).setCell ⟨gb121, 2, none⟩ (.string ((rd_T47 l1_1 x6_1).f2))).setCell ⟨gb121, 3, none⟩ (.int .u64 ((rd_T47 l1_1 x6_1).f3)))) := ⟨bH HB.out⟩
                (try clear BK119)
                (try clear BK121)
                (try clear HB)
                generalize ((((w39.setCell ⟨gb121, 0, none⟩ (.string ((rd_T47 l1_1 x6_1).f0))).setCell ⟨gb121, 1, none⟩ (.int .u32 ((rd_T47 l1_1 x6_1).f1))).setCell ⟨gb121, 2, none⟩ (.string ((rd_T47 l1_1 x6_1).f2))).setCell ⟨gb121, 3, none⟩ (.int .u64 ((rd_T47 l1_1 x6_1).f3))) = w42 at n0_ n1_ n2_ ⊢; have BK119 := n0_; have BK121 := n1_; have HB := n2_; clear n0_ n1_ n2_; replace BK119 := Aside0.mk (bD BK119.out); replace BK121 := Aside0.mk (bD BK121.out); replace HB := Aside0.mk (eD HB.out); refine start_ (n := 19) (S := fun w' => w'.cell? ⟨gb121, 0, none⟩ = some (.string ((rd_T47 l1_1 x6_1).f0)) ∧ w'.cell? ⟨gb121, 1, none⟩ = some (.int .u32 ((rd_T47 l1_1 x6_1).f1)) ∧ w'.cell? ⟨gb121, 2, none⟩ = some (.string ((rd_T47 l1_1 x6_1).f2)) ∧ w'.cell? ⟨gb121, 3, none⟩ = some (.int .u64 ((rd_T47 l1_1 x6_1).f3))) (ds := []) #[false, false, false, false, false, false, false, false, false, false, false, false, false, false, false, false, false, false, false] (by kernel_rfl) rfl rfl ⟨kC BK121 0, kC BK121 1, kC BK121 2, kC BK121 3⟩ (fun hHeld => ?_); refine with_tabW tallboyref18_Text.tab8 tallboyref18_Text.bits8 (fun HT_ HW_ => ?_)
                generalize w42.drew = w43 at BK119 BK121 HB hHeld ⊢; refine pU HT_ 0 (some 25) ?_ #[true, false, false, false, false, false, false, false, false, false, false, false, false, false, false, false, false, false, false] rfl rfl ?_ ?_ ?_ ?_
                rotate_left
                ·intro w'
                 go_simp
                 with_reducible rfl
                rotate_left
                ·simp only [Act.put, sA, sB, sC, i64_w, i32_w]
                 rfl
                refine pU HT_ 1 (some 26) ?_ #[true, true, false, false, false, false, false, false, false, false, false, false, false, false, false, false, false, false, false] rfl rfl ?_ ?_ ?_ ?_
                rotate_left
                ·intro w'
                 go_simp
                 with_reducible rfl
                rotate_left
                ·simp only [Act.put, sA, sB, sC, i64_w, i32_w]
                 rfl
                refine pU HT_ 2 (some 27) ?_ #[true, true, true, false, false, false, false, false, false, false, false, false, false, false, false, false, false, false, false] rfl rfl ?_ ?_ ?_ ?_
                rotate_left
                ·intro w'
                 go_simp
                 with_reducible rfl
                rotate_left
                ·simp only [Act.put, sA, sB, sC, i64_w, i32_w]
                 rfl
                refine pU HT_ 6 (some 31) ?_ #[true, true, true, false, false, false, true, false, false, false, false, false, false, false, false, false, false, false, false] rfl rfl ?_ ?_ ?_ ?_
                rotate_left
                ·intro w'
                 go_simp
                 with_reducible rfl
                rotate_left
                ·simp only [Act.put, sA, sB, sC, i64_w, i32_w]
                 rfl
                refine pU HT_ 12 (some 37) ?_ #[true, true, true, false, false, false, true, false, false, false, false, false, true, false, false, false, false, false, false] rfl rfl ?_ ?_ ?_ ?_
                rotate_left
                ·intro w'
                 go_simp
                 with_reducible rfl
                rotate_left
                ·simp only [Act.put, sA, sB, sC, i64_w, i32_w]
                 rfl
                refine tU HT_ HW_ hHeld 3 (some 28) ?_ #[true, true, true, true, false, false, true, false, false, false, false, false, true, false, false, false, false, false, false] rfl rfl ?_ ?_ ?_ ?_
                rotate_left
                ·rintro w' ⟨s0, s1, s2, s3⟩
                 go_simp
                 with_reducible rfl
                rotate_left
                ·simp only [Act.put, sA, sB, sC, i64_w, i32_w]
                 rfl
                refine pU HT_ 4 (some 29) ?_ #[true, true, true, true, true, false, true, false, false, false, false, false, true, false, false, false, false, false, false] rfl rfl ?_ ?_ ?_ ?_
                rotate_left
                ·intro w'
                 go_simp
                 with_reducible rfl
                rotate_left
                ·simp only [Act.put, sA, sB, sC, i64_w, i32_w]
                 rfl
                refine pU HT_ 5 (some 30) ?_ #[true, true, true, true, true, true, true, false, false, false, false, false, true, false, false, false, false, false, false] rfl rfl ?_ ?_ ?_ ?_
                rotate_left
                ·intro w'
                 go_simp
                 with_reducible rfl
                rotate_left
                ·simp only [Act.put, sA, sB, sC, i64_w, i32_w]
                 rfl
                refine tU HT_ HW_ hHeld 7 (some 32) ?_ #[true, true, true, true, true, true, true, true, false, false, false, false, true, false, false, false, false, false, false] rfl rfl ?_ ?_ ?_ ?_
                rotate_left
                ·rintro w' ⟨s0, s1, s2, s3⟩
                 go_simp
                 with_reducible rfl
                rotate_left
                ·simp only [Act.put, sA, sB, sC, i64_w, i32_w]
                 rfl
                refine pU HT_ 8 (some 33) ?_ #[true, true, true, true, true, true, true, true, true, false, false, false, true, false, false, false, false, false, false] rfl rfl ?_ ?_ ?_ ?_
                rotate_left
                ·intro w'
                 go_simp
                 with_reducible rfl
                rotate_left
                ·simp only [Act.put, sA, sB, sC, i64_w, i32_w]
                 rfl
                refine tU HT_ HW_ hHeld 13 (some 38) ?_ #[true, true, true, true, true, true, true, true, true, false, false, false, true, true, false, false, false, false, false] rfl rfl ?_ ?_ ?_ ?_
                rotate_left
                ·rintro w' ⟨s0, s1, s2, s3⟩
                 go_simp
                 with_reducible rfl
                rotate_left
                ·simp only [Act.put, sA, sB, sC, i64_w, i32_w]
                 rfl
                refine pU HT_ 14 (some 39) ?_ #[true, true, true, true, true, true, true, true, true, false, false, false, true, true, true, false, false, false, false] rfl rfl ?_ ?_ ?_ ?_
                rotate_left
                ·intro w'
                 go_simp
                 with_reducible rfl
                rotate_left
                ·simp only [Act.put, sA, sB, sC, i64_w, i32_w]
                 rfl
                refine pU HT_ 15 (some 40) ?_ #[true, true, true, true, true, true, true, true, true, false, false, false, true, true, true, true, false, false, false] rfl rfl ?_ ?_ ?_ ?_
                rotate_left
                ·intro w'
                 go_simp
                 with_reducible rfl
                rotate_left
                ·simp only [Act.put, sA, sB, sC, i64_w, i32_w]
                 rfl
                refine one_ (i := 9) (N := some 34) #[true, true, true, true, true, true, true, true, true, true, false, false, true, true, true, true, false, false, false] rfl rfl (one_of HT_.out (by kernel_rfl)) (by decide) (fun K hK => ?_)
                refine goes_ Tryd.func26 (by kernel_rfl) rfl #[.int .u64 (IntKind.u64.wrap ((rd_T47 l1_1 x6_1).f1))] (by rfl) rfl rfl (by (try simp only [List.map_toArray, List.map_cons, List.map_nil]); first | done | rfl | (simp only [List.length_drop, List.length_take]; rfl)) ?_
                with_reducible refine (tallboyref02_Text.calls k1 (IntKind.u64.wrap ((rd_T47 l1_1 x6_1).f1)) t122 _ A11.out).mono ?_
                rintro e w44 ⟨rfl, hb⟩
                refine ⟨_, rfl, ?_⟩
                replace BK119 := rB BK119 hb; replace BK121 := rB BK121 hb; replace HB := rS HB hb
                (try clear hb)
                
                
                
                refine hK.out _ _ ⟨kC BK121 0, kC BK121 1, kC BK121 2, kC BK121 3⟩ (fun hHeld => ?_)
                clear hK K; refine norm_ (a' := ?_) ?_ ?_
                rotate_left
                ·show Act.put _ (some 34) _ = _
                 simp only [Act.put, sA, sB, sC, i64_w, i32_w]
                 rfl
                refine pU HT_ 10 (some 35) ?_ #[true, true, true, true, true, true, true, true, true, true, true, false, true, true, true, true, false, false, false] rfl rfl ?_ ?_ ?_ ?_
                rotate_left
                ·intro w'
                 go_simp
                 with_reducible rfl
                rotate_left
                ·simp only [Act.put, sA, sB, sC, i64_w, i32_w]
                 rfl
                refine pU HT_ 11 (some 36) ?_ #[true, true, true, true, true, true, true, true, true, true, true, true, true, true, true, true, false, false, false] rfl rfl ?_ ?_ ?_ ?_
                rotate_left
                ·intro w'
                 go_simp
                 with_reducible rfl
                rotate_left
                ·simp only [Act.put, sA, sB, sC, i64_w, i32_w]
                 rfl
                refine one_ (i := 16) (N := some 41) #[true, true, true, true, true, true, true, true, true, true, true, true, true, true, true, true, true, false, false] rfl rfl (one_of HT_.out (by kernel_rfl)) (by decide) (fun K hK => ?_)
                refine goes_ Tryd.func26 (by kernel_rfl) rfl #[.int .u64 (IntKind.u64.wrap ((((rd_T47 l1_1 x6_1).f2).size : Int)))] (by rfl) rfl rfl (by (try simp only [List.map_toArray, List.map_cons, List.map_nil]); first | done | rfl | (simp only [List.length_drop, List.length_take]; rfl)) ?_
                with_reducible refine (tallboyref02_Text.calls k1 (IntKind.u64.wrap ((((rd_T47 l1_1 x6_1).f2).size : Int))) t123 _ A14.out).mono ?_
                rintro e w45 ⟨rfl, hb⟩
                refine ⟨_, rfl, ?_⟩
                replace BK119 := rB BK119 hb; replace BK121 := rB BK121 hb; replace HB := rS HB hb
                (try clear hb)
                
                
                
                refine hK.out _ _ ⟨kC BK121 0, kC BK121 1, kC BK121 2, kC BK121 3⟩ (fun hHeld => ?_)
                clear hK K; refine norm_ (a' := ?_) ?_ ?_
                rotate_left
                ·show Act.put _ (some 41) _ = _
                 simp only [Act.put, sA, sB, sC, i64_w, i32_w]
                 rfl
                refine pU HT_ 17 (some 42) ?_ #[true, true, true, true, true, true, true, true, true, true, true, true, true, true, true, true, true, true, false] rfl rfl ?_ ?_ ?_ ?_
                rotate_left
                ·intro w'
                 go_simp
                 with_reducible rfl
                rotate_left
                ·simp only [Act.put, sA, sB, sC, i64_w, i32_w]
                 rfl
                refine pU HT_ 18 (some 5) ?_ #[true, true, true, true, true, true, true, true, true, true, true, true, true, true, true, true, true, true, true] rfl rfl ?_ ?_ ?_ ?_
                rotate_left
                ·intro w'
                 go_simp
                 with_reducible rfl
                rotate_left
                ·simp only [Act.put, sA, sB, sC, i64_w, i32_w]
                 rfl
                refine done_ (done_of HT_.out (by kernel_rfl)) ?_
                try go_wp2_with (first | ((with_reducible refine gate_callee (f := 27) rfl ?_); refine goesL_ (some 44) rfl rfl Tryd.func27 (by kernel_rfl) rfl #[.int .i64 a0] rfl (by (try simp only [List.map_toArray, List.map_cons, List.map_nil]); first | done | rfl | (simp only [List.length_drop, List.length_take]; rfl)) ?_; (with_reducible refine (tallboyref15_Shows.calls a0 false _ A16.out).mono ?_); rintro e w' ⟨rfl, ⟨nd, rfl⟩⟩; refine ⟨_, rfl, ?_⟩; obtain ⟨hcz46, hfz46⟩ := d4 BK121))
                go_roundg k1
                case measure => have := HK1.out; omega
                case rel => exact ⟨(((((((((x5_1 ++ (⟨#[86, 65, 76, 85, 69, 32]⟩ : ByteArray)) ++ ((rd_T47 l1_1 x6_1).f0)) ++ (⟨#[32]⟩ : ByteArray)) ++ t122) ++ (⟨#[32]⟩ : ByteArray)) ++ t123) ++ (⟨#[13, 10]⟩ : ByteArray)) ++ ((rd_T47 l1_1 x6_1).f2)) ++ (⟨#[13, 10]⟩ : ByteArray)), (wrap64 (x6_1 + 1)), (by first | rfl | (simp; done) | (simp [*]; done)), (by first | rfl | (simp; done) | (simp [*]; done)), H', ⟨by have := HK1.out; omega⟩, ⟨bK BK119.out⟩, ⟨bH HB.out⟩⟩
               ·rw [if_neg c37] at H; exact absurd H (by simp)
              ·rw [if_neg c36] at H; exact absurd H (by simp)
             ·rw [if_neg c35] at H; exact absurd H (by simp)
           ·rw [if_neg c15] at H; exact absurd H (by simp)
          ·rw [if_neg c13] at H; exact absurd H (by simp)
         ·rw [if_neg c12] at H; exact absurd H (by simp)
        ·rw [if_neg c10] at H; exact absurd H (by simp)
       ·rw [if_neg c9] at H; exact absurd H (by simp)
      ·rw [if_neg c8] at H; exact absurd H (by simp)
     ·rw [if_neg c7] at H; exact absurd H (by simp)
    ·rw [if_neg c6] at H; have c6b0 : decide (x6_1 < (l1_1.length : Int)) = false := decide_eq_false c6; clear c6
     by_cases c47 : x5_1.size + 5 ≤ 9223372036854775807
     ·rw [if_pos c47] at H; have c47b0 := eq_true c47; have c47b1 : decide (x5_1.size + 5 ≤ 9223372036854775807) = true := decide_eq_true c47
      try have c47b2 : (9223372036854775807 < x5_1.size + 5) = False := eq_false (Nat.not_lt.2 c47)
      obtain rfl := Option.some.inj H; obtain ⟨hcz48, hfz48⟩ := d3 BK119; go_wp2; go_ret
      exact ⟨xR, bH HB.out⟩
     ·rw [if_neg c47] at H; exact absurd H (by simp)
 ·rw [if_neg c3] at H; have c3b0 : (a1_0 == 1) = false := beq_eq_false_iff_ne.mpr c3; have c3b1 : (a1_0 != 1) = true := bne_iff_ne.mpr c3
  by_cases c49 : a1_0 = 7
  ·rw [if_pos c49] at H; have c49b0 : (a1_0 == 7) = true := beq_iff_eq.mpr c49; have c49b1 : (a1_0 != 7) = false := bne_eq_false_iff_eq.mpr c49; clear c49; replace H := Option.bind_eq_some_iff.mp H; obtain ⟨t126, A500, H⟩ := H; (try dsimp only at H); have A50 := Aside0.mk A500; clear A500
   by_cases c51 : t126.size + 2 ≤ 9223372036854775807
   ·rw [if_pos c51] at H; have c51b0 := eq_true c51; have c51b1 : decide (t126.size + 2 ≤ 9223372036854775807) = true := decide_eq_true c51
    try have c51b2 : (9223372036854775807 < t126.size + 2) = False := eq_false (Nat.not_lt.2 c51)
    obtain rfl := Option.some.inj H; go_enter Tryd.func11, Tryd.ntmps11
    go_wp2_with (first | ((with_reducible refine gate_dst (N := 3) rfl ?_); refine bE 3 #[.int .i64 a1_0, .slice A1_1 l1_1.length c1_1, .int .u64 a1_2] 25 rfl rfl ?_; intro gb119 hg w52 hbox hb; have BK119 := rM hbox; have GW119 := rG HB hg; replace HB := rS HB hb; have GE119 := GW119; clear hb hbox hg; obtain ⟨hcz53, hfz53⟩ := d3 BK119) | ((with_reducible refine gate_callee (f := 26) rfl ?_); refine goesL_ (some 63) rfl rfl Tryd.func26 (by kernel_rfl) rfl #[.int .u64 a1_2] rfl (by (try simp only [List.map_toArray, List.map_cons, List.map_nil]); first | done | rfl | (simp only [List.length_drop, List.length_take]; rfl)) ?_; (with_reducible refine (tallboyref02_Text.calls k a1_2 t126 _ A50.out).mono ?_); rintro e w54 ⟨rfl, hb⟩; refine ⟨_, rfl, ?_⟩; replace BK119 := rB BK119 hb; replace HB := rS HB hb; (try clear hb); ))
    go_ret
    exact ⟨xR, bH HB.out⟩
   ·rw [if_neg c51] at H; exact absurd H (by simp)
  ·rw [if_neg c49] at H; have c49b0 : (a1_0 == 7) = false := beq_eq_false_iff_ne.mpr c49; have c49b1 : (a1_0 != 7) = true := bne_iff_ne.mpr c49; replace H := Option.bind_eq_some_iff.mp H; obtain ⟨t127, A550, H⟩ := H; (try dsimp only at H); have A55 := Aside0.mk A550; clear A550
   by_cases c56 : t127.toList = ([] : List UInt8)
   ·rw [if_pos c56] at H; have c56b0 : (t127.toList == ([] : List UInt8)) = true := beq_iff_eq.mpr c56; have c56b1 : (t127.toList != ([] : List UInt8)) = false := bne_eq_false_iff_eq.mpr c56; clear c56; obtain rfl := Option.some.inj H; go_enter Tryd.func11, Tryd.ntmps11
    go_wp2_with (first | ((with_reducible refine gate_dst (N := 3) rfl ?_); refine bE 3 #[.int .i64 a1_0, .slice A1_1 l1_1.length c1_1, .int .u64 a1_2] 25 rfl rfl ?_; intro gb119 hg w57 hbox hb; have BK119 := rM hbox; have GW119 := rG HB hg; replace HB := rS HB hb; have GE119 := GW119; clear hb hbox hg; obtain ⟨hcz58, hfz58⟩ := d3 BK119) | ((with_reducible refine gate_callee (f := 28) rfl ?_); refine goesL_ (some 68) rfl rfl Tryd.func28 (by kernel_rfl) rfl #[.int .i64 a0, .int .i64 a1_0] rfl (by (try simp only [List.map_toArray, List.map_cons, List.map_nil]); first | done | rfl | (simp only [List.length_drop, List.length_take]; rfl)) ?_; (with_reducible refine (tallboyref18_plain.calls a0 a1_0 t127 _ A55.out).mono ?_); rintro e w' ⟨rfl, ⟨nd, rfl⟩⟩; refine ⟨_, rfl, ?_⟩))
    go_ret
    exact ⟨xR, bH HB.out⟩
   ·rw [if_neg c56] at H; have c56b0 : (t127.toList == ([] : List UInt8)) = false := beq_eq_false_iff_ne.mpr c56; have c56b1 : (t127.toList != ([] : List UInt8)) = true := bne_iff_ne.mpr c56
    by_cases c59 : t127.size + 2 ≤ 9223372036854775807
    ·rw [if_pos c59] at H; have c59b0 := eq_true c59; have c59b1 : decide (t127.size + 2 ≤ 9223372036854775807) = true := decide_eq_true c59
     try have c59b2 : (9223372036854775807 < t127.size + 2) = False := eq_false (Nat.not_lt.2 c59)
     obtain rfl := Option.some.inj H; go_enter Tryd.func11, Tryd.ntmps11
     go_wp2_with (first | ((with_reducible refine gate_dst (N := 3) rfl ?_); refine bE 3 #[.int .i64 a1_0, .slice A1_1 l1_1.length c1_1, .int .u64 a1_2] 25 rfl rfl ?_; intro gb119 hg w60 hbox hb; have BK119 := rM hbox; have GW119 := rG HB hg; replace HB := rS HB hb; have GE119 := GW119; clear hb hbox hg; obtain ⟨hcz61, hfz61⟩ := d3 BK119) | ((with_reducible refine gate_callee (f := 28) rfl ?_); refine goesL_ (some 68) rfl rfl Tryd.func28 (by kernel_rfl) rfl #[.int .i64 a0, .int .i64 a1_0] rfl (by (try simp only [List.map_toArray, List.map_cons, List.map_nil]); first | done | rfl | (simp only [List.length_drop, List.length_take]; rfl)) ?_; (with_reducible refine (tallboyref18_plain.calls a0 a1_0 t127 _ A55.out).mono ?_); rintro e w' ⟨rfl, ⟨nd, rfl⟩⟩; refine ⟨_, rfl, ?_⟩))
     go_ret
     exact ⟨xR, bH HB.out⟩
    ·rw [if_neg c59] at H; exact absurd H (by simp)

end Go.Proofs.YtdgpagocccabdaaDoor.P
