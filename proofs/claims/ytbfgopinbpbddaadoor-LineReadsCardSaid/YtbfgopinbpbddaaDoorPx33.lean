/- Lean functions for the Go functions that the laws of this seat use, and the proofs that the Go code computes them; conditions: the readings that each theorem names. Written by a program. -/
import Derived.Test.YtbfgopinbpbddaaDoorPx0
import Derived.Test.YtbfgopinbpbddaaDoorPx32
import Derived.Test.YtbfgopinbpbddaaDoorShort
namespace Go.Proofs.YtbfgopinbpbddaaDoor.P
open Go.RowKit Go.Proofs.YtbfgopinbpbddaaDoorW.PrintWords Go.Proofs.YtbfgopinbpbddaaDoorW.PrintLast Go.Proofs.YtbfgopinbpbddaaDoorW.PrintMore
set_option linter.unusedVariables false
set_option linter.unusedSimpArgs false

/-! ### tallboyref02_Signed: function 48 -/
mutual
def tallboyref02_Signed.j0 : Nat → ByteArray → Bool → Option (Int × Int)
 | 0, _, _ => none
 | k + 1, x0, x15 => if x15 = true then (if 1 ≤ (x0.size : Int) then ((tallboyref02_Parse.f k (x0.extract 1 x0.size)).bind fun bt247 => (if bt247.2 = 0 then (tallboyref02_Signed.j1 k bt247.1 bt247.2 (decide (bt247.1 > 9223372036854775808))) else (tallboyref02_Signed.j1 k bt247.1 bt247.2 false))) else (none)) else ((tallboyref02_Parse.f k x0).bind fun bt249 => (if bt249.2 = 0 then (tallboyref02_Signed.j3 k bt249.1 bt249.2 (decide (bt249.1 > 9223372036854775807))) else (tallboyref02_Signed.j3 k bt249.1 bt249.2 false)))
def tallboyref02_Signed.j1 : Nat → Int → Int → Bool → Option (Int × Int)
 | 0, _, _, _ => none
 | k + 1, x4, x5, x27 => if x27 = true then (tallboyref02_Signed.j2 k x4 1) else (tallboyref02_Signed.j2 k x4 x5)
def tallboyref02_Signed.j2 : Nat → Int → Int → Option (Int × Int)
 | 0, _, _ => none
 | k + 1, x4, x5 => if x5 = 0 then (if x4 = 9223372036854775808 then (some ((-9223372036854775808), 0)) else (some (wrap64 (-(wrap64 (x4))), 0))) else (some (0, x5))
def tallboyref02_Signed.j3 : Nat → Int → Int → Bool → Option (Int × Int)
 | 0, _, _, _ => none
 | k + 1, x6, x7, x46 => if x46 = true then (tallboyref02_Signed.j4 k x6 1) else (tallboyref02_Signed.j4 k x6 x7)
def tallboyref02_Signed.j4 : Nat → Int → Int → Option (Int × Int)
 | 0, _, _ => none
 | k + 1, x6, x7 => if x7 = 0 then (some (wrap64 (x6), 0)) else (some (0, x7))
end
def tallboyref02_Signed.f (k : Nat) (a0 : ByteArray) : Option (Int × Int) := if (a0.size : Int) > 0 then (if 0 < (a0.size : Int) then (tallboyref02_Signed.j0 k a0 ((bt a0 0) == 45)) else (none)) else (tallboyref02_Signed.j0 k a0 false)
theorem tallboyref02_Signed.mono_l : ∀ k, (∀ y0 y1, LeO (tallboyref02_Signed.j0 k y0 y1) (tallboyref02_Signed.j0 (k + 1) y0 y1)) ∧ (∀ y0 y1 y2, LeO (tallboyref02_Signed.j1 k y0 y1 y2) (tallboyref02_Signed.j1 (k + 1) y0 y1 y2)) ∧ (∀ y0 y1, LeO (tallboyref02_Signed.j2 k y0 y1) (tallboyref02_Signed.j2 (k + 1) y0 y1)) ∧ (∀ y0 y1 y2, LeO (tallboyref02_Signed.j3 k y0 y1 y2) (tallboyref02_Signed.j3 (k + 1) y0 y1 y2)) ∧ (∀ y0 y1, LeO (tallboyref02_Signed.j4 k y0 y1) (tallboyref02_Signed.j4 (k + 1) y0 y1))
 | 0 => ⟨fun _ _ r h => by simp [tallboyref02_Signed.j0] at h, fun _ _ _ r h => by simp [tallboyref02_Signed.j1] at h, fun _ _ r h => by simp [tallboyref02_Signed.j2] at h, fun _ _ _ r h => by simp [tallboyref02_Signed.j3] at h, fun _ _ r h => by simp [tallboyref02_Signed.j4] at h⟩
 | k + 1 => by
  obtain ⟨ih0, ih1, ih2, ih3, ih4⟩ := tallboyref02_Signed.mono_l k; refine ⟨?_, ?_, ?_, ?_, ?_⟩
  all_goals intros
  all_goals (first | unfold tallboyref02_Signed.j0 | unfold tallboyref02_Signed.j1 | unfold tallboyref02_Signed.j2 | unfold tallboyref02_Signed.j3 | unfold tallboyref02_Signed.j4)
  all_goals repeat' first | (with_reducible first | apply ih0 | apply ih1 | apply ih2 | apply ih3 | apply ih4 | apply tallboyref02_Parse.mono | exact LeO.refl _ | exact LeO.none _ | refine LeO.ite ?_ ?_ | refine LeO.bind ?_ (fun _ => ?_)) | apply ih0 | apply ih1 | apply ih2 | apply ih3 | apply ih4 | apply tallboyref02_Parse.mono | exact LeO.none _ | refine LeO.ite ?_ ?_ | refine LeO.bind ?_ (fun _ => ?_)
theorem tallboyref02_Signed.mono : ∀ a0 k, LeO (tallboyref02_Signed.f k a0) (tallboyref02_Signed.f (k + 1) a0) := by
 intro a0 k
 obtain ⟨ih0, ih1, ih2, ih3, ih4⟩ := tallboyref02_Signed.mono_l k; unfold tallboyref02_Signed.f
 repeat' first | (with_reducible first | apply ih0 | apply ih1 | apply ih2 | apply ih3 | apply ih4 | apply tallboyref02_Parse.mono | exact LeO.refl _ | exact LeO.none _ | refine LeO.ite ?_ ?_ | refine LeO.bind ?_ (fun _ => ?_)) | apply ih0 | apply ih1 | apply ih2 | apply ih3 | apply ih4 | apply tallboyref02_Parse.mono | exact LeO.none _ | refine LeO.ite ?_ ?_ | refine LeO.bind ?_ (fun _ => ?_)
set_option maxHeartbeats 8000000 in
set_option maxRecDepth 100000 in
theorem tallboyref02_Signed.calls (k : Nat) (a0 : ByteArray) (r1 : Int) (r2 : Int) (w : World) (h : tallboyref02_Signed.f k a0 = some (r1, r2)) :
  Calls Tryd.prog 48 #[.string a0] w fun e w' => e = .returned (.tuple #[.int .i64 r1, .int .i64 r2]) ∧ Drawn0 w w' := by
 have H : (if (a0.size : Int) > 0 then (if 0 < (a0.size : Int) then (tallboyref02_Signed.j0 k a0 ((bt a0 0) == 45)) else (none)) else (tallboyref02_Signed.j0 k a0 false)) = some (r1, r2) := h; clear h; have HC2 := Aside0.mk H; clear H; go_enter Tryd.func48, Tryd.ntmps48
 go_upto_region 1 with (fail)
 go_cut [15] (fun v15 wc => ∃ (kq : Nat) (x15_1 : Bool), v15 = .bool x15_1 ∧ Aside0 (tallboyref02_Signed.j0 kq a0 x15_1 = some (r1, r2)) ∧ Aside0 (kq ≤ k) ∧ Drawn0 w wc)
 case first =>
  have H := HC2.out; clear HC2
  by_cases c3 : (a0.size : Int) > 0
  ·rw [if_pos c3] at H; have c3b0 : decide (0 < (a0.size : Int)) = true := decide_eq_true c3; have c3b1 : decide (0 < a0.size) = true := decide_eq_true (by omega); clear c3
   (first | rw [c3b0] | (simp only [i64_w, i32_w]; rw [c3b0]) | skip)
   by_cases c4 : 0 < (a0.size : Int)
   ·rw [if_pos c4] at H; have c4b0 : decide (0 < (a0.size : Int)) = true := decide_eq_true c4; have c4b1 : decide (0 < a0.size) = true := decide_eq_true (by omega); clear c4; have H' := Aside0.mk H; clear H; have p5 : 0 ≤ (0 : Int) := (by omega); have q5 : 0 < a0.size := (by have : (0 : Int) < (a0.size : Int) := of_decide_eq_true (by first | (with_reducible assumption) | assumption); omega)
    have hx5 : ∀ h : 0 < a0.size, ((a0[0]'h).toNat : Int) = bt a0 0 := bt_at a0 0
    clear p5; have qi5 : (0 < (a0.size : Int)) = True := eq_true (of_decide_eq_true (by first | (with_reducible assumption) | assumption)); replace q5 := eq_true q5; go_wp2
    go_meet
    case rel => exact ⟨_, (((bt a0 0) == 45)), (by first | rfl | (simp; done) | (simp [*]; done)), H', ⟨by first | omega | exact Nat.le_refl _⟩, by repeat (first | exact Drawn0.refl _ | apply Drawn0.step)⟩
   ·rw [if_neg c4] at H; exact absurd H (by simp)
  ·rw [if_neg c3] at H; have c3b0 : decide (0 < (a0.size : Int)) = false := decide_eq_false c3; have c3b1 : decide (0 < a0.size) = false := decide_eq_false (by omega); clear c3
   (first | rw [c3b0] | (simp only [i64_w, i32_w]; rw [c3b0]) | skip)
   have H' := Aside0.mk H; clear H; go_wp2
   go_meet
   case rel => exact ⟨_, (false), (by first | rfl | (simp; done) | (simp [*]; done)), H', ⟨by first | omega | exact Nat.le_refl _⟩, by repeat (first | exact Drawn0.refl _ | apply Drawn0.step)⟩
 case rest =>
  clear HC2; (try clear c3b0); (try clear c3b1); (try clear c4); (try clear c4b0); (try clear c4b1); (try clear p5); (try clear q5); (try clear hx5); (try clear qi5); (try clear p5); (try clear q5); obtain ⟨kq, x15_1, rfl, HA, HJ1, ⟨mc1, rfl⟩⟩ := hcut; cases kq with
  | zero => exact absurd HA.out (by simp [tallboyref02_Signed.j0])
  | succ kj1 =>
   have H := HA.out; clear HA; simp only [tallboyref02_Signed.j0] at H
   by_cases c6 : x15_1 = true
   ·subst c6; rw [if_pos rfl] at H
    by_cases c7 : 1 ≤ (a0.size : Int)
    ·rw [if_pos c7] at H; have c7b0 := eq_true c7; have c7b1 : decide (1 ≤ (a0.size : Int)) = true := decide_eq_true c7; clear c7; replace H := Option.bind_eq_some_iff.mp H; obtain ⟨⟨t247, t248⟩, A80, H⟩ := H; (try dsimp only at H); have A8 := Aside0.mk A80; clear A80; have HC9 := Aside0.mk H; clear H
     go_upto_region 3 with (first | ((with_reducible refine gate_callee (f := 49) rfl ?_); refine goesL_ (some 19) rfl rfl Tryd.func49 (by kernel_rfl) rfl #[.string (a0.extract 1 a0.size)] rfl (by (try simp only [List.map_toArray, List.map_cons, List.map_nil]); first | done | rfl | (simp only [List.length_drop, List.length_take]; rfl)) ?_; (with_reducible refine (tallboyref02_Parse.calls kj1 (a0.extract 1 a0.size) t247 t248 _ A8.out).mono ?_); rintro e w' ⟨rfl, ⟨nd, rfl⟩⟩; refine ⟨_, rfl, ?_⟩))
     (try simp only [Act.put, sA, sB, sC])
     go_cut [27] (fun v27 wc => ∃ (kq : Nat) (x27_8 : Bool), v27 = .bool x27_8 ∧ Aside0 (tallboyref02_Signed.j1 kq t247 t248 x27_8 = some (r1, r2)) ∧ Aside0 (kq ≤ kj1) ∧ Drawn0 w wc)
     case first =>
      have H := HC9.out; clear HC9
      by_cases c10 : t248 = 0
      ·rw [if_pos c10] at H; have c10b0 : (t248 == 0) = true := beq_iff_eq.mpr c10; have c10b1 : (t248 != 0) = false := bne_eq_false_iff_eq.mpr c10; clear c10
       (first | rw [c10b0] | (simp only [i64_w, i32_w]; rw [c10b0]) | skip)
       have H' := Aside0.mk H; clear H; go_wp2
       go_meet
       case rel => exact ⟨_, (decide (t247 > 9223372036854775808)), (by first | rfl | (simp; done) | (simp [*]; done)), H', ⟨by have := HJ1.out; first | omega | exact Nat.le_refl _⟩, by repeat (first | exact Drawn0.refl _ | apply Drawn0.step)⟩
      ·rw [if_neg c10] at H; have c10b0 : (t248 == 0) = false := beq_eq_false_iff_ne.mpr c10; have c10b1 : (t248 != 0) = true := bne_iff_ne.mpr c10
       (first | rw [c10b0] | (simp only [i64_w, i32_w]; rw [c10b0]) | skip)
       have H' := Aside0.mk H; clear H; go_wp2
       go_meet
       case rel => exact ⟨_, (false), (by first | rfl | (simp; done) | (simp [*]; done)), H', ⟨by have := HJ1.out; first | omega | exact Nat.le_refl _⟩, by repeat (first | exact Drawn0.refl _ | apply Drawn0.step)⟩
     case rest =>
      clear HC9; (try clear c3b0); (try clear c3b1); (try clear c4); (try clear c4b0); (try clear c4b1); (try clear p5); (try clear q5); (try clear hx5); (try clear qi5); (try clear c6); (try clear c7); (try clear c7b0); (try clear c7b1); (try clear c10); (try clear c10b0); (try clear c10b1); (try clear p5); (try clear q5); obtain ⟨kq, x27_8, rfl, HA, HJ8, ⟨mc8, rfl⟩⟩ := hcut; cases kq with
      | zero => exact absurd HA.out (by simp [tallboyref02_Signed.j1])
      | succ kj8 =>
       have H := HA.out; clear HA; simp only [tallboyref02_Signed.j1] at H; have HC11 := Aside0.mk H; clear H
       go_upto_if 27 with (fail)
       go_cut [5] (fun v5 wc => ∃ (kq : Nat) (x5_10 : Int), v5 = .int .i64 x5_10 ∧ Aside0 (tallboyref02_Signed.j2 kq t247 x5_10 = some (r1, r2)) ∧ Aside0 (kq ≤ kj8) ∧ Drawn0 w wc)
       case first =>
        have H := HC11.out; clear HC11
        by_cases c12 : x27_8 = true
        ·subst c12; rw [if_pos rfl] at H; have H' := Aside0.mk H; clear H; go_wp2
         go_meet
         case rel => exact ⟨_, (1), (by first | rfl | (simp; done) | (simp [*]; done)), H', ⟨by have := HJ1.out; have := HJ8.out; first | omega | exact Nat.le_refl _⟩, by repeat (first | exact Drawn0.refl _ | apply Drawn0.step)⟩
        ·replace c12 := Bool.eq_false_iff.mpr c12; subst c12; rw [if_neg (show ¬ (false = true) by decide)] at H; have H' := Aside0.mk H; clear H; go_wp2
         go_meet
         case rel => exact ⟨_, (t248), (by first | rfl | (simp; done) | (simp [*]; done)), H', ⟨by have := HJ1.out; have := HJ8.out; first | omega | exact Nat.le_refl _⟩, by repeat (first | exact Drawn0.refl _ | apply Drawn0.step)⟩
       case rest =>
        clear HC11; (try clear c3b0); (try clear c3b1); (try clear c4); (try clear c4b0); (try clear c4b1); (try clear p5); (try clear q5); (try clear hx5); (try clear qi5); (try clear c6); (try clear c7); (try clear c7b0); (try clear c7b1); (try clear c10); (try clear c10b0); (try clear c10b1); (try clear c12); (try clear p5); (try clear q5); obtain ⟨kq, x5_10, rfl, HA, HJ10, ⟨mc10, rfl⟩⟩ := hcut; cases kq with
        | zero => exact absurd HA.out (by simp [tallboyref02_Signed.j2])
        | succ kj10 =>
         have H := HA.out; clear HA; simp only [tallboyref02_Signed.j2] at H
         by_cases c13 : x5_10 = 0
         ·rw [if_pos c13] at H; have c13b0 : (x5_10 == 0) = true := beq_iff_eq.mpr c13; have c13b1 : (x5_10 != 0) = false := bne_eq_false_iff_eq.mpr c13; clear c13
          by_cases c14 : t247 = 9223372036854775808
          ·rw [if_pos c14] at H; have c14b0 : (t247 == 9223372036854775808) = true := beq_iff_eq.mpr c14; have c14b1 : (t247 != 9223372036854775808) = false := bne_eq_false_iff_eq.mpr c14; clear c14; simp only [Option.some.injEq, Prod.mk.injEq] at H; obtain ⟨rfl, rfl⟩ := H; go_wp2
           go_ret2
           exact ⟨by first | rfl | (simp; done) | (simp [*]; done), by repeat (first | exact Drawn0.refl _ | apply Drawn0.step)⟩
          ·rw [if_neg c14] at H; have c14b0 : (t247 == 9223372036854775808) = false := beq_eq_false_iff_ne.mpr c14; have c14b1 : (t247 != 9223372036854775808) = true := bne_iff_ne.mpr c14; simp only [Option.some.injEq, Prod.mk.injEq] at H; obtain ⟨rfl, rfl⟩ := H; go_wp2
           go_ret2
           exact ⟨by first | rfl | (simp; done) | (simp [*]; done), by repeat (first | exact Drawn0.refl _ | apply Drawn0.step)⟩
         ·rw [if_neg c13] at H; have c13b0 : (x5_10 == 0) = false := beq_eq_false_iff_ne.mpr c13; have c13b1 : (x5_10 != 0) = true := bne_iff_ne.mpr c13; simp only [Option.some.injEq, Prod.mk.injEq] at H; obtain ⟨rfl, rfl⟩ := H; go_wp2
          go_ret2
          exact ⟨by first | rfl | (simp; done) | (simp [*]; done), by repeat (first | exact Drawn0.refl _ | apply Drawn0.step)⟩
    ·rw [if_neg c7] at H; exact absurd H (by simp)
   ·replace c6 := Bool.eq_false_iff.mpr c6; subst c6; rw [if_neg (show ¬ (false = true) by decide)] at H; replace H := Option.bind_eq_some_iff.mp H; obtain ⟨⟨t249, t250⟩, A150, H⟩ := H; (try dsimp only at H); have A15 := Aside0.mk A150; clear A150; have HC16 := Aside0.mk H; clear H
    go_upto_region 11 with (first | ((with_reducible refine gate_callee (f := 49) rfl ?_); refine goesL_ (some 38) rfl rfl Tryd.func49 (by kernel_rfl) rfl #[.string a0] rfl (by (try simp only [List.map_toArray, List.map_cons, List.map_nil]); first | done | rfl | (simp only [List.length_drop, List.length_take]; rfl)) ?_; (with_reducible refine (tallboyref02_Parse.calls kj1 a0 t249 t250 _ A15.out).mono ?_); rintro e w' ⟨rfl, ⟨nd, rfl⟩⟩; refine ⟨_, rfl, ?_⟩))
    (try simp only [Act.put, sA, sB, sC])
    go_cut [46] (fun v46 wc => ∃ (kq : Nat) (x46_15 : Bool), v46 = .bool x46_15 ∧ Aside0 (tallboyref02_Signed.j3 kq t249 t250 x46_15 = some (r1, r2)) ∧ Aside0 (kq ≤ kj1) ∧ Drawn0 w wc)
    case first =>
     have H := HC16.out; clear HC16
     by_cases c17 : t250 = 0
     ·rw [if_pos c17] at H; have c17b0 : (t250 == 0) = true := beq_iff_eq.mpr c17; have c17b1 : (t250 != 0) = false := bne_eq_false_iff_eq.mpr c17; clear c17
      (first | rw [c17b0] | (simp only [i64_w, i32_w]; rw [c17b0]) | skip)
      have H' := Aside0.mk H; clear H; go_wp2
      go_meet
      case rel => exact ⟨_, (decide (t249 > 9223372036854775807)), (by first | rfl | (simp; done) | (simp [*]; done)), H', ⟨by have := HJ1.out; first | omega | exact Nat.le_refl _⟩, by repeat (first | exact Drawn0.refl _ | apply Drawn0.step)⟩
     ·rw [if_neg c17] at H; have c17b0 : (t250 == 0) = false := beq_eq_false_iff_ne.mpr c17; have c17b1 : (t250 != 0) = true := bne_iff_ne.mpr c17
      (first | rw [c17b0] | (simp only [i64_w, i32_w]; rw [c17b0]) | skip)
      have H' := Aside0.mk H; clear H; go_wp2
      go_meet
      case rel => exact ⟨_, (false), (by first | rfl | (simp; done) | (simp [*]; done)), H', ⟨by have := HJ1.out; first | omega | exact Nat.le_refl _⟩, by repeat (first | exact Drawn0.refl _ | apply Drawn0.step)⟩
    case rest =>
     clear HC16; (try clear c3b0); (try clear c3b1); (try clear c4); (try clear c4b0); (try clear c4b1); (try clear p5); (try clear q5); (try clear hx5); (try clear qi5); (try clear c6); (try clear c7); (try clear c7b0); (try clear c7b1); (try clear c10); (try clear c10b0); (try clear c10b1); (try clear c12); (try clear c13); (try clear c13b0); (try clear c13b1); (try clear c14); (try clear c14b0); (try clear c14b1); (try clear c17); (try clear c17b0); (try clear c17b1); (try clear p5); (try clear q5); obtain ⟨kq, x46_15, rfl, HA, HJ15, ⟨mc15, rfl⟩⟩ := hcut; cases kq with
     | zero => exact absurd HA.out (by simp [tallboyref02_Signed.j3])
     | succ kj15 =>
      have H := HA.out; clear HA; simp only [tallboyref02_Signed.j3] at H; have HC18 := Aside0.mk H; clear H
      go_upto_if 46 with (fail)
      go_cut [7] (fun v7 wc => ∃ (kq : Nat) (x7_17 : Int), v7 = .int .i64 x7_17 ∧ Aside0 (tallboyref02_Signed.j4 kq t249 x7_17 = some (r1, r2)) ∧ Aside0 (kq ≤ kj15) ∧ Drawn0 w wc)
      case first =>
       have H := HC18.out; clear HC18
       by_cases c19 : x46_15 = true
       ·subst c19; rw [if_pos rfl] at H; have H' := Aside0.mk H; clear H; go_wp2
        go_meet
        case rel => exact ⟨_, (1), (by first | rfl | (simp; done) | (simp [*]; done)), H', ⟨by have := HJ1.out; have := HJ15.out; first | omega | exact Nat.le_refl _⟩, by repeat (first | exact Drawn0.refl _ | apply Drawn0.step)⟩
       ·replace c19 := Bool.eq_false_iff.mpr c19; subst c19; rw [if_neg (show ¬ (false = true) by decide)] at H; have H' := Aside0.mk H; clear H; go_wp2
        go_meet
        case rel => exact ⟨_, (t250), (by first | rfl | (simp; done) | (simp [*]; done)), H', ⟨by have := HJ1.out; have := HJ15.out; first | omega | exact Nat.le_refl _⟩, by repeat (first | exact Drawn0.refl _ | apply Drawn0.step)⟩
      case rest =>
       clear HC18; (try clear c3b0); (try clear c3b1); (try clear c4); (try clear c4b0); (try clear c4b1); (try clear p5); (try clear q5); (try clear hx5); (try clear qi5); (try clear c6); (try clear c7); (try clear c7b0); (try clear c7b1); (try clear c10); (try clear c10b0); (try clear c10b1); (try clear c12); (try clear c13); (try clear c13b0); (try clear c13b1); (try clear c14); (try clear c14b0); (try clear c14b1); (try clear c17); (try clear c17b0); (try clear c17b1); (try clear c19); (try clear p5); (try clear q5); obtain ⟨kq, x7_17, rfl, HA, HJ17, ⟨mc17, rfl⟩⟩ := hcut; cases kq with
       | zero => exact absurd HA.out (by simp [tallboyref02_Signed.j4])
       | succ kj17 =>
        have H := HA.out; clear HA; simp only [tallboyref02_Signed.j4] at H
        by_cases c20 : x7_17 = 0
        ·rw [if_pos c20] at H; have c20b0 : (x7_17 == 0) = true := beq_iff_eq.mpr c20; have c20b1 : (x7_17 != 0) = false := bne_eq_false_iff_eq.mpr c20; clear c20; simp only [Option.some.injEq, Prod.mk.injEq] at H; obtain ⟨rfl, rfl⟩ := H; go_wp2
         go_ret2
         exact ⟨by first | rfl | (simp; done) | (simp [*]; done), by repeat (first | exact Drawn0.refl _ | apply Drawn0.step)⟩
        ·rw [if_neg c20] at H; have c20b0 : (x7_17 == 0) = false := beq_eq_false_iff_ne.mpr c20; have c20b1 : (x7_17 != 0) = true := bne_iff_ne.mpr c20; simp only [Option.some.injEq, Prod.mk.injEq] at H; obtain ⟨rfl, rfl⟩ := H; go_wp2
         go_ret2
         exact ⟨by first | rfl | (simp; done) | (simp [*]; done), by repeat (first | exact Drawn0.refl _ | apply Drawn0.step)⟩

end Go.Proofs.YtbfgopinbpbddaaDoor.P
