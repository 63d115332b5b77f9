/- Lean functions for the Go functions that the laws of this seat use, and the proofs that the Go code computes them; conditions: the readings that each theorem names. Written by a program. -/
import Derived.Test.YtdepkgikdmlgiaaPx0
import Derived.Test.YtdepkgikdmlgiaaPx7
import Derived.Test.YtdepkgikdmlgiaaShort
namespace Go.Proofs.Ytdepkgikdmlgiaa.P
open Go.RowKit Go.Proofs.YtdepkgikdmlgiaaW.PrintWords Go.Proofs.YtdepkgikdmlgiaaW.PrintLast Go.Proofs.YtdepkgikdmlgiaaW.PrintMore
set_option linter.unusedVariables false
set_option linter.unusedSimpArgs false

/-! ### tallboylaw15_Great: function 29 -/
def tallboylaw15_Great.l0 : Nat → Int → Int → Int → List ByteArray → Int → Int → ByteArray → Int → Int → Bool → Option (Bool)
 | 0, _, _, _, _, _, _, _, _, _, _ => none
 | k + 1, x3, x4, x345000, z0, x345002, x345003, x345004, x345005, x345006, x345007 => if x4 < (z0.length : Int) then (if x3 < 10000 then (if 0 ≤ x4 then (tallboylaw15_Great.l0 k (wrap64 (x3 + ((rdOf ByteArray.empty z0 x4).size : Int))) (wrap64 (x4 + 1)) x345000 z0 x345002 x345003 x345004 x345005 x345006 x345007) else (none)) else (if x3 ≥ 10000 then (some true) else (some (decide ((z0.length : Int) > 100))))) else (if x3 ≥ 10000 then (some true) else (some (decide ((z0.length : Int) > 100))))
def tallboylaw15_Great.f (k : Nat) (a0_0 : Int) (l0_1 : List ByteArray) (a0_2 : Int) (a0_3 : Int) (a0_4 : ByteArray) (a0_5 : Int) (a0_6 : Int) (a0_7 : Bool) : Option (Bool) := tallboylaw15_Great.l0 k (a0_4.size : Int) 0 a0_0 l0_1 a0_2 a0_3 a0_4 a0_5 a0_6 a0_7
theorem tallboylaw15_Great.mono_l : ∀ k, (∀ y0 y1 y2 y3 y4 y5 y6 y7 y8 y9, LeO (tallboylaw15_Great.l0 k y0 y1 y2 y3 y4 y5 y6 y7 y8 y9) (tallboylaw15_Great.l0 (k + 1) y0 y1 y2 y3 y4 y5 y6 y7 y8 y9))
 | 0 => fun _ _ _ _ _ _ _ _ _ _ r h => by simp [tallboylaw15_Great.l0] at h
 | k + 1 => by
  have ih0 := tallboylaw15_Great.mono_l k
  ·intro y0 y1 y2 y3 y4 y5 y6 y7 y8 y9
   unfold tallboylaw15_Great.l0
   repeat' first | (with_reducible first | apply ih0 | exact LeO.refl _ | exact LeO.none _ | refine LeO.ite ?_ ?_ | refine LeO.bind ?_ (fun _ => ?_)) | apply ih0 | exact LeO.none _ | refine LeO.ite ?_ ?_ | refine LeO.bind ?_ (fun _ => ?_)
theorem tallboylaw15_Great.mono : ∀ a0 a1 a2 a3 a4 a5 a6 a7 k, LeO (tallboylaw15_Great.f k a0 a1 a2 a3 a4 a5 a6 a7) (tallboylaw15_Great.f (k + 1) a0 a1 a2 a3 a4 a5 a6 a7) := by
 intro a0 a1 a2 a3 a4 a5 a6 a7 k
 have ih0 := tallboylaw15_Great.mono_l k; unfold tallboylaw15_Great.f
 repeat' first | (with_reducible first | apply ih0 | exact LeO.refl _ | exact LeO.none _ | refine LeO.ite ?_ ?_ | refine LeO.bind ?_ (fun _ => ?_)) | apply ih0 | exact LeO.none _ | refine LeO.ite ?_ ?_ | refine LeO.bind ?_ (fun _ => ?_)
set_option maxHeartbeats 8000000 in
set_option maxRecDepth 100000 in
theorem tallboylaw15_Great.calls (k : Nat) (a0_0 : Int) (A0_1 : Option Addr) (c0_1 : Nat) (l0_1 : List ByteArray) (a0_2 : Int) (a0_3 : Int) (a0_4 : ByteArray) (a0_5 : Int) (a0_6 : Int) (a0_7 : Bool) (r : Bool) (w : World) (hr0_1 : Kd.C Kd.string w A0_1 l0_1.length l0_1) (hc0_1 : l0_1.length ≤ c0_1) (h : tallboylaw15_Great.f k a0_0 l0_1 a0_2 a0_3 a0_4 a0_5 a0_6 a0_7 = some r) :
  Calls Try.prog 29 #[.agg #[.int .i64 a0_0, .slice A0_1 l0_1.length c0_1, .int .u32 a0_2, .int .i64 a0_3, .string a0_4, .int .u64 a0_5, .int .u64 a0_6, .bool a0_7]] w fun e w' => e = .returned (.bool r) ∧ Below w.heap.size w w' := by
 have hu70 := Try.underlying70; have HR0_1 := Aside0.mk hr0_1; have HC0_1 := Aside0.mk hc0_1; clear hr0_1 hc0_1; have HB := Aside0.mk (Below.refl w.heap.size w); have H : (tallboylaw15_Great.l0 k (a0_4.size : Int) 0 a0_0 l0_1 a0_2 a0_3 a0_4 a0_5 a0_6 a0_7) = some r := h; clear h; have H' := Aside0.mk H; clear H; go_enter Try.func29, Try.ntmps29
 go_wp2_with (first | ((with_reducible refine gate_dst (N := 1) rfl ?_); (try (refine gate_guard (by rfl) ?_; dsimp only)); refine bE 1 #[.int .i64 a0_0, .slice A0_1 l0_1.length c0_1, .int .u32 a0_2, .int .i64 a0_3, .string a0_4, .int .u64 a0_5, .int .u64 a0_6, .bool a0_7] 70 rfl rfl ?_; intro gb344 hg w2 hbox hb; have BK344 := rM hbox; have GW344 := rG HB hg; replace HB := rS HB hb; have GE344 := GW344; clear hb hbox hg; obtain ⟨hcz3, hfz3⟩ := d8 BK344))
 go_loopg [3, 4] k (fun kq v3 v4 w' => ∃ (x3_1 : Int) (x4_1 : Int), v3 = .int .i64 x3_1 ∧ v4 = .int .i64 x4_1 ∧ Aside0 (tallboylaw15_Great.l0 kq x3_1 x4_1 a0_0 l0_1 a0_2 a0_3 a0_4 a0_5 a0_6 a0_7 = some r) ∧ Aside0 (kq ≤ k) ∧ Aside0 (w'.heap[gb344]? = some (.cells #[.int .i64 a0_0, (.slice A0_1 l0_1.length c0_1), .int .u32 a0_2, .int .i64 a0_3, .string a0_4, .int .u64 a0_5, .int .u64 a0_6, .bool a0_7] 70 (0, 0))) ∧ Aside0 (Below w.heap.size w w'))
 case atStart => exact ⟨((a0_4.size : Int)), (0), (by first | rfl | (simp; done) | (simp [*]; done)), (by first | rfl | (simp; done) | (simp [*]; done)), H', ⟨Nat.le_refl _⟩, ⟨bK BK344.out⟩, ⟨bH HB.out⟩⟩
 case round =>
  clear H'; (try clear hcz3); (try clear hfz3); obtain ⟨x3_1, x4_1, rfl, rfl, HA, HK1, BK344, HB⟩ := hrel; cases gk with
  | zero => exact absurd HA.out (by simp [tallboylaw15_Great.l0])
  | succ k1 =>
   have H := HA.out; clear HA; simp only [tallboylaw15_Great.l0] at H
   by_cases c4 : x4_1 < (l0_1.length : Int)
   ·rw [if_pos c4] at H; have c4b0 : decide (x4_1 < (l0_1.length : Int)) = true := decide_eq_true c4; clear c4
    by_cases c5 : x3_1 < 10000
    ·rw [if_pos c5] at H; have c5b0 : decide (x3_1 < 10000) = true := decide_eq_true c5; clear c5
     by_cases c6 : 0 ≤ x4_1
     ·rw [if_pos c6] at H; have c6b0 : decide (0 ≤ x4_1) = true := decide_eq_true c6; clear c6; have H' := Aside0.mk H; clear H; obtain ⟨hcz7, hfz7⟩ := d8 BK344; have p345 : 0 ≤ (x4_1 : Int) := of_decide_eq_true (by first | (with_reducible assumption) | assumption); have q345 : x4_1 < (l0_1.length : Int) := of_decide_eq_true (by first | (with_reducible assumption) | assumption)
      obtain ⟨ad345, e345, hx345_0⟩ := Kd.at_string HR0_1.out x4_1 p345 q345; cases e345; replace hx345_0 := (HB.out.cell (World.block_lt_of_cell? w _ hx345_0)).trans hx345_0; replace p345 := eq_true p345; replace q345 := eq_true q345; go_wp2
      go_roundg k1
      case measure => have := HK1.out; omega
      case rel => exact ⟨(wrap64 (x3_1 + ((rdOf ByteArray.empty l0_1 x4_1).size : Int))), (wrap64 (x4_1 + 1)), (by first | rfl | (simp; done) | (simp [*]; done)), (by first | rfl | (simp; done) | (simp [*]; done)), H', ⟨by have := HK1.out; omega⟩, ⟨bK BK344.out⟩, ⟨bH HB.out⟩⟩
     ·rw [if_neg c6] at H; exact absurd H (by simp)
    ·rw [if_neg c5] at H; have c5b0 : decide (x3_1 < 10000) = false := decide_eq_false c5; clear c5
     by_cases c8 : x3_1 ≥ 10000
     ·rw [if_pos c8] at H; have c8b0 : decide (10000 ≤ x3_1) = true := decide_eq_true c8; clear c8; obtain rfl := Option.some.inj H; obtain ⟨hcz9, hfz9⟩ := d8 BK344; go_wp2; go_ret
      exact ⟨xR, bH HB.out⟩
     ·rw [if_neg c8] at H; have c8b0 : decide (10000 ≤ x3_1) = false := decide_eq_false c8; clear c8; obtain rfl := Option.some.inj H; obtain ⟨hcz10, hfz10⟩ := d8 BK344; go_wp2; go_ret
      exact ⟨xR, bH HB.out⟩
   ·rw [if_neg c4] at H; have c4b0 : decide (x4_1 < (l0_1.length : Int)) = false := decide_eq_false c4; clear c4
    by_cases c11 : x3_1 ≥ 10000
    ·rw [if_pos c11] at H; have c11b0 : decide (10000 ≤ x3_1) = true := decide_eq_true c11; clear c11; obtain rfl := Option.some.inj H; obtain ⟨hcz12, hfz12⟩ := d8 BK344; go_wp2; go_ret
     exact ⟨xR, bH HB.out⟩
    ·rw [if_neg c11] at H; have c11b0 : decide (10000 ≤ x3_1) = false := decide_eq_false c11; clear c11; obtain rfl := Option.some.inj H; obtain ⟨hcz13, hfz13⟩ := d8 BK344; go_wp2; go_ret
     exact ⟨xR, bH HB.out⟩

/-! ### frame_extras: function 49 -/
mutual
def frame_extras.j0 : Nat → Int → Bool → Option (Int)
 | 0, _, _ => none
 | k + 1, x3, x4 => if x4 = true then (some 8) else (if x3 = 12 then (frame_extras.j1 k x3 (x3 == 12)) else (frame_extras.j1 k x3 (x3 == 13)))
def frame_extras.j1 : Nat → Int → Bool → Option (Int)
 | 0, _, _ => none
 | k + 1, x3, x9 => if x9 = true then (some 20) else (if x3 = 14 then (frame_extras.j2 k (x3 == 14)) else (frame_extras.j2 k (x3 == 3)))
def frame_extras.j2 : Nat → Bool → Option (Int)
 | 0, _ => none
 | k + 1, x12 => if x12 = true then (some 4) else (some 0)
end
def frame_extras.f (k : Nat) (a0 : Int) : Option (Int) := if a0 = 5 then (frame_extras.j0 k a0 (a0 == 5)) else (if a0 = 6 then (frame_extras.j0 k a0 (a0 == 6)) else (if a0 = 7 then (frame_extras.j0 k a0 (a0 == 7)) else (frame_extras.j0 k a0 (a0 == 10))))
theorem frame_extras.mono_l : ∀ k, (∀ y0 y1, LeO (frame_extras.j0 k y0 y1) (frame_extras.j0 (k + 1) y0 y1)) ∧ (∀ y0 y1, LeO (frame_extras.j1 k y0 y1) (frame_extras.j1 (k + 1) y0 y1)) ∧ (∀ y0, LeO (frame_extras.j2 k y0) (frame_extras.j2 (k + 1) y0))
 | 0 => ⟨fun _ _ r h => by simp [frame_extras.j0] at h, fun _ _ r h => by simp [frame_extras.j1] at h, fun _ r h => by simp [frame_extras.j2] at h⟩
 | k + 1 => by
  obtain ⟨ih0, ih1, ih2⟩ := frame_extras.mono_l k; refine ⟨?_, ?_, ?_⟩
  all_goals intros
  all_goals (first | unfold frame_extras.j0 | unfold frame_extras.j1 | unfold frame_extras.j2)
  all_goals repeat' first | (with_reducible first | apply ih0 | apply ih1 | apply ih2 | exact LeO.refl _ | exact LeO.none _ | refine LeO.ite ?_ ?_ | refine LeO.bind ?_ (fun _ => ?_)) | apply ih0 | apply ih1 | apply ih2 | exact LeO.none _ | refine LeO.ite ?_ ?_ | refine LeO.bind ?_ (fun _ => ?_)
theorem frame_extras.mono : ∀ a0 k, LeO (frame_extras.f k a0) (frame_extras.f (k + 1) a0) := by
 intro a0 k
 obtain ⟨ih0, ih1, ih2⟩ := frame_extras.mono_l k; unfold frame_extras.f
 repeat' first | (with_reducible first | apply ih0 | apply ih1 | apply ih2 | exact LeO.refl _ | exact LeO.none _ | refine LeO.ite ?_ ?_ | refine LeO.bind ?_ (fun _ => ?_)) | apply ih0 | apply ih1 | apply ih2 | exact LeO.none _ | refine LeO.ite ?_ ?_ | refine LeO.bind ?_ (fun _ => ?_)
set_option maxHeartbeats 8000000 in
set_option maxRecDepth 100000 in
theorem frame_extras.calls (k : Nat) (a0 : Int) (r : Int) (w : World) (h : frame_extras.f k a0 = some r) :
  Calls Try.prog 49 #[.int .i64 a0] w fun e w' => e = .returned (.int .i64 r) ∧ Drawn0 w w' := by
 have H : (if a0 = 5 then (frame_extras.j0 k a0 (a0 == 5)) else (if a0 = 6 then (frame_extras.j0 k a0 (a0 == 6)) else (if a0 = 7 then (frame_extras.j0 k a0 (a0 == 7)) else (frame_extras.j0 k a0 (a0 == 10))))) = some r := h; clear h; have HC2 := Aside0.mk H; clear H; go_enter Try.func49, Try.ntmps49
 go_upto_if 4 with (fail)
 go_cut [4] (fun v4 wc => ∃ (kq : Nat) (x4_1 : Bool), v4 = .bool x4_1 ∧ Aside0 (frame_extras.j0 kq a0 x4_1 = some r) ∧ Aside0 (kq ≤ k) ∧ Drawn0 w wc)
 case first =>
  have H := HC2.out; clear HC2
  by_cases c3 : a0 = 5
  ·rw [if_pos c3] at H; have c3b0 : (a0 == 5) = true := beq_iff_eq.mpr c3; have c3b1 : (a0 != 5) = false := bne_eq_false_iff_eq.mpr c3; clear c3
   (first | rw [c3b0] | (simp only [i64_w, i32_w]; rw [c3b0]) | skip)
   have H' := Aside0.mk H; clear H; go_wp2
   go_meet
   case rel => exact ⟨_, ((a0 == 5)), (by first | rfl | (simp; done) | (simp [*]; done)), H', ⟨by first | omega | exact Nat.le_refl _⟩, by repeat (first | exact Drawn0.refl _ | apply Drawn0.step)⟩
  ·rw [if_neg c3] at H; have c3b0 : (a0 == 5) = false := beq_eq_false_iff_ne.mpr c3; have c3b1 : (a0 != 5) = true := bne_iff_ne.mpr c3
   (first | rw [c3b0] | (simp only [i64_w, i32_w]; rw [c3b0]) | skip)
   by_cases c4 : a0 = 6
   ·rw [if_pos c4] at H; have c4b0 : (a0 == 6) = true := beq_iff_eq.mpr c4; have c4b1 : (a0 != 6) = false := bne_eq_false_iff_eq.mpr c4; clear c4; have H' := Aside0.mk H; clear H; go_wp2
    go_meet
    case rel => exact ⟨_, ((a0 == 6)), (by first | rfl | (simp; done) | (simp [*]; done)), H', ⟨by first | omega | exact Nat.le_refl _⟩, by repeat (first | exact Drawn0.refl _ | apply Drawn0.step)⟩
   ·rw [if_neg c4] at H; have c4b0 : (a0 == 6) = false := beq_eq_false_iff_ne.mpr c4; have c4b1 : (a0 != 6) = true := bne_iff_ne.mpr c4
    by_cases c5 : a0 = 7
    ·rw [if_pos c5] at H; have c5b0 : (a0 == 7) = true := beq_iff_eq.mpr c5; have c5b1 : (a0 != 7) = false := bne_eq_false_iff_eq.mpr c5; clear c5; have H' := Aside0.mk H; clear H; go_wp2
     go_meet
     case rel => exact ⟨_, ((a0 == 7)), (by first | rfl | (simp; done) | (simp [*]; done)), H', ⟨by first | omega | exact Nat.le_refl _⟩, by repeat (first | exact Drawn0.refl _ | apply Drawn0.step)⟩
    ·rw [if_neg c5] at H; have c5b0 : (a0 == 7) = false := beq_eq_false_iff_ne.mpr c5; have c5b1 : (a0 != 7) = true := bne_iff_ne.mpr c5; have H' := Aside0.mk H; clear H; go_wp2
     go_meet
     case rel => exact ⟨_, ((a0 == 10)), (by first | rfl | (simp; done) | (simp [*]; done)), H', ⟨by first | omega | exact Nat.le_refl _⟩, by repeat (first | exact Drawn0.refl _ | apply Drawn0.step)⟩
 case rest =>
  clear HC2; (try clear c3); (try clear c3b0); (try clear c3b1); (try clear c4); (try clear c4b0); (try clear c4b1); (try clear c5); (try clear c5b0); (try clear c5b1); obtain ⟨kq, x4_1, rfl, HA, HJ1, ⟨mc1, rfl⟩⟩ := hcut; cases kq with
  | zero => exact absurd HA.out (by simp [frame_extras.j0])
  | succ kj1 =>
   have H := HA.out; clear HA; simp only [frame_extras.j0] at H
   by_cases c6 : x4_1 = true
   ·subst c6; rw [if_pos rfl] at H; obtain rfl := Option.some.inj H; go_wp2; go_ret
    exact ⟨by first | rfl | (simp; done) | (simp [*]; done), by repeat (first | exact Drawn0.refl _ | apply Drawn0.step)⟩
   ·replace c6 := Bool.eq_false_iff.mpr c6; subst c6; rw [if_neg (show ¬ (false = true) by decide)] at H; have HC7 := Aside0.mk H; clear H
    go_upto_if 9 with (fail)
    go_cut [9] (fun v9 wc => ∃ (kq : Nat) (x9_6 : Bool), v9 = .bool x9_6 ∧ Aside0 (frame_extras.j1 kq a0 x9_6 = some r) ∧ Aside0 (kq ≤ kj1) ∧ Drawn0 w wc)
    case first =>
     have H := HC7.out; clear HC7
     by_cases c8 : a0 = 12
     ·rw [if_pos c8] at H; have c8b0 : (a0 == 12) = true := beq_iff_eq.mpr c8; have c8b1 : (a0 != 12) = false := bne_eq_false_iff_eq.mpr c8; clear c8
      (first | rw [c8b0] | (simp only [i64_w, i32_w]; rw [c8b0]) | skip)
      have H' := Aside0.mk H; clear H; go_wp2
      go_meet
      case rel => exact ⟨_, ((a0 == 12)), (by first | rfl | (simp; done) | (simp [*]; done)), H', ⟨by have := HJ1.out; first | omega | exact Nat.le_refl _⟩, by repeat (first | exact Drawn0.refl _ | apply Drawn0.step)⟩
     ·rw [if_neg c8] at H; have c8b0 : (a0 == 12) = false := beq_eq_false_iff_ne.mpr c8; have c8b1 : (a0 != 12) = true := bne_iff_ne.mpr c8
      (first | rw [c8b0] | (simp only [i64_w, i32_w]; rw [c8b0]) | skip)
      have H' := Aside0.mk H; clear H; go_wp2
      go_meet
      case rel => exact ⟨_, ((a0 == 13)), (by first | rfl | (simp; done) | (simp [*]; done)), H', ⟨by have := HJ1.out; first | omega | exact Nat.le_refl _⟩, by repeat (first | exact Drawn0.refl _ | apply Drawn0.step)⟩
    case rest =>
     clear HC7; (try clear c3); (try clear c3b0); (try clear c3b1); (try clear c4); (try clear c4b0); (try clear c4b1); (try clear c5); (try clear c5b0); (try clear c5b1); (try clear c6); (try clear c8); (try clear c8b0); (try clear c8b1); obtain ⟨kq, x9_6, rfl, HA, HJ6, ⟨mc6, rfl⟩⟩ := hcut; cases kq with
     | zero => exact absurd HA.out (by simp [frame_extras.j1])
     | succ kj6 =>
      have H := HA.out; clear HA; simp only [frame_extras.j1] at H
      by_cases c9 : x9_6 = true
      ·subst c9; rw [if_pos rfl] at H; obtain rfl := Option.some.inj H; go_wp2; go_ret
       exact ⟨by first | rfl | (simp; done) | (simp [*]; done), by repeat (first | exact Drawn0.refl _ | apply Drawn0.step)⟩
      ·replace c9 := Bool.eq_false_iff.mpr c9; subst c9; rw [if_neg (show ¬ (false = true) by decide)] at H; have HC10 := Aside0.mk H; clear H
       go_upto_if 12 with (fail)
       go_cut [12] (fun v12 wc => ∃ (kq : Nat) (x12_9 : Bool), v12 = .bool x12_9 ∧ Aside0 (frame_extras.j2 kq x12_9 = some r) ∧ Aside0 (kq ≤ kj6) ∧ Drawn0 w wc)
       case first =>
        have H := HC10.out; clear HC10
        by_cases c11 : a0 = 14
        ·rw [if_pos c11] at H; have c11b0 : (a0 == 14) = true := beq_iff_eq.mpr c11; have c11b1 : (a0 != 14) = false := bne_eq_false_iff_eq.mpr c11; clear c11
         (first | rw [c11b0] | (simp only [i64_w, i32_w]; rw [c11b0]) | skip)
         have H' := Aside0.mk H; clear H; go_wp2
         go_meet
         case rel => exact ⟨_, ((a0 == 14)), (by first | rfl | (simp; done) | (simp [*]; done)), H', ⟨by have := HJ1.out; have := HJ6.out; first | omega | exact Nat.le_refl _⟩, by repeat (first | exact Drawn0.refl _ | apply Drawn0.step)⟩
        ·rw [if_neg c11] at H; have c11b0 : (a0 == 14) = false := beq_eq_false_iff_ne.mpr c11; have c11b1 : (a0 != 14) = true := bne_iff_ne.mpr c11
         (first | rw [c11b0] | (simp only [i64_w, i32_w]; rw [c11b0]) | skip)
         have H' := Aside0.mk H; clear H; go_wp2
         go_meet
         case rel => exact ⟨_, ((a0 == 3)), (by first | rfl | (simp; done) | (simp [*]; done)), H', ⟨by have := HJ1.out; have := HJ6.out; first | omega | exact Nat.le_refl _⟩, by repeat (first | exact Drawn0.refl _ | apply Drawn0.step)⟩
       case rest =>
        clear HC10; (try clear c3); (try clear c3b0); (try clear c3b1); (try clear c4); (try clear c4b0); (try clear c4b1); (try clear c5); (try clear c5b0); (try clear c5b1); (try clear c6); (try clear c8); (try clear c8b0); (try clear c8b1); (try clear c9); (try clear c11); (try clear c11b0); (try clear c11b1); obtain ⟨kq, x12_9, rfl, HA, HJ9, ⟨mc9, rfl⟩⟩ := hcut; cases kq with
        | zero => exact absurd HA.out (by simp [frame_extras.j2])
        | succ kj9 =>
         have H := HA.out; clear HA; simp only [frame_extras.j2] at H
         by_cases c12 : x12_9 = true
         ·subst c12; rw [if_pos rfl] at H; obtain rfl := Option.some.inj H; go_wp2; go_ret
          exact ⟨by first | rfl | (simp; done) | (simp [*]; done), by repeat (first | exact Drawn0.refl _ | apply Drawn0.step)⟩
         ·replace c12 := Bool.eq_false_iff.mpr c12; subst c12; rw [if_neg (show ¬ (false = true) by decide)] at H; obtain rfl := Option.some.inj H; go_wp2; go_ret
          exact ⟨by first | rfl | (simp; done) | (simp [*]; done), by repeat (first | exact Drawn0.refl _ | apply Drawn0.step)⟩

/-! ### frame_expiry: function 50 -/
def frame_expiry.f (k : Nat) (a0 : ByteArray) : Option (Int) := (frame_take.f k a0).bind fun t346 => (some (wrap64 (wrap32 ((t346) % 4294967296))))
theorem frame_expiry.mono : ∀ a0 k, LeO (frame_expiry.f k a0) (frame_expiry.f (k + 1) a0) := by
 intro a0 k
 unfold frame_expiry.f
 repeat' first | (with_reducible first | apply frame_take.mono | exact LeO.refl _ | exact LeO.none _ | refine LeO.ite ?_ ?_ | refine LeO.bind ?_ (fun _ => ?_)) | apply frame_take.mono | exact LeO.none _ | refine LeO.ite ?_ ?_ | refine LeO.bind ?_ (fun _ => ?_)
set_option maxHeartbeats 8000000 in
set_option maxRecDepth 100000 in
theorem frame_expiry.calls (k : Nat) (a0 : ByteArray) (r : Int) (w : World) (h : frame_expiry.f k a0 = some r) :
  Calls Try.prog 50 #[.string a0] w fun e w' => e = .returned (.int .i64 r) ∧ Drawn0 w w' := by
 have H : ((frame_take.f k a0).bind fun t346 => (some (wrap64 (wrap32 ((t346) % 4294967296))))) = some r := h; clear h; replace H := Option.bind_eq_some_iff.mp H; obtain ⟨t346, A20, H⟩ := H; (try dsimp only at H); have A2 := Aside0.mk A20; clear A20; obtain rfl := Option.some.inj H; go_enter Try.func50, Try.ntmps50
 go_wp2_with (first | ((with_reducible refine gate_callee (f := 41) rfl ?_); refine gL (some 4) rfl rfl Try.func41 #[.string a0] rfl ?_; (with_reducible refine (frame_take.calls k a0 t346 _ A2.out).mono ?_); rintro e w' ⟨rfl, ⟨nd, rfl⟩⟩; refine ⟨_, rfl, ?_⟩))
 go_ret
 exact ⟨by first | rfl | (simp; done) | (simp [*]; done), by repeat (first | exact Drawn0.refl _ | apply Drawn0.step)⟩

/-! ### verb_kind: function 58 -/
def verb_kind.f (a0 : Int) : Option (Bool) := if a0 ≥ 1 then (some (decide (a0 ≤ 15))) else (some false)
set_option maxHeartbeats 8000000 in
set_option maxRecDepth 100000 in
theorem verb_kind.calls (a0 : Int) (r : Bool) (w : World) (h : verb_kind.f a0 = some r) :
  Calls Try.prog 58 #[.int .i64 a0] w fun e w' => e = .returned (.bool r) ∧ Drawn0 w w' := by
 have H : (if a0 ≥ 1 then (some (decide (a0 ≤ 15))) else (some false)) = some r := h; clear h
 by_cases c2 : a0 ≥ 1
 ·rw [if_pos c2] at H; have c2b0 : decide (1 ≤ a0) = true := decide_eq_true c2; clear c2; obtain rfl := Option.some.inj H; go_enter Try.func58, Try.ntmps58; go_wp2; go_ret
  exact ⟨by first | rfl | (simp; done) | (simp [*]; done), by repeat (first | exact Drawn0.refl _ | apply Drawn0.step)⟩
 ·rw [if_neg c2] at H; have c2b0 : decide (1 ≤ a0) = false := decide_eq_false c2; clear c2; obtain rfl := Option.some.inj H; go_enter Try.func58, Try.ntmps58; go_wp2; go_ret
  exact ⟨by first | rfl | (simp; done) | (simp [*]; done), by repeat (first | exact Drawn0.refl _ | apply Drawn0.step)⟩

/-! ### verb_Stores: function 59 -/
def verb_Stores.f (a0 : Int) : Option (Bool) := if a0 ≥ 5 then (some (decide (a0 ≤ 10))) else (some false)
set_option maxHeartbeats 8000000 in
set_option maxRecDepth 100000 in
theorem verb_Stores.calls (a0 : Int) (r : Bool) (w : World) (h : verb_Stores.f a0 = some r) :
  Calls Try.prog 59 #[.int .i64 a0] w fun e w' => e = .returned (.bool r) ∧ Drawn0 w w' := by
 have H : (if a0 ≥ 5 then (some (decide (a0 ≤ 10))) else (some false)) = some r := h; clear h
 by_cases c2 : a0 ≥ 5
 ·rw [if_pos c2] at H; have c2b0 : decide (5 ≤ a0) = true := decide_eq_true c2; clear c2; obtain rfl := Option.some.inj H; go_enter Try.func59, Try.ntmps59; go_wp2; go_ret
  exact ⟨by first | rfl | (simp; done) | (simp [*]; done), by repeat (first | exact Drawn0.refl _ | apply Drawn0.step)⟩
 ·rw [if_neg c2] at H; have c2b0 : decide (5 ≤ a0) = false := decide_eq_false c2; clear c2; obtain rfl := Option.some.inj H; go_enter Try.func59, Try.ntmps59; go_wp2; go_ret
  exact ⟨by first | rfl | (simp; done) | (simp [*]; done), by repeat (first | exact Drawn0.refl _ | apply Drawn0.step)⟩

/-! ### verb_ends: function 60 -/
def verb_ends.j0 : Nat → Bool → Option (Bool)
 | 0, _ => none
 | k + 1, x4 => if x4 = true then (some true) else (some false)
def verb_ends.f (k : Nat) (a0 : Int) : Option (Bool) := if a0 = 3 then (verb_ends.j0 k (a0 == 3)) else (if a0 = 4 then (verb_ends.j0 k (a0 == 4)) else (if a0 = 14 then (verb_ends.j0 k (a0 == 14)) else (if a0 = 5 then (verb_ends.j0 k (a0 == 5)) else (if a0 = 6 then (verb_ends.j0 k (a0 == 6)) else (if a0 = 7 then (verb_ends.j0 k (a0 == 7)) else (verb_ends.j0 k (a0 == 10)))))))
theorem verb_ends.mono_l : ∀ k, (∀ y0, LeO (verb_ends.j0 k y0) (verb_ends.j0 (k + 1) y0))
 | 0 => fun _ r h => by simp [verb_ends.j0] at h
 | k + 1 => by
  have ih0 := verb_ends.mono_l k
  ·intro y0
   unfold verb_ends.j0
   repeat' first | (with_reducible first | apply ih0 | exact LeO.refl _ | exact LeO.none _ | refine LeO.ite ?_ ?_ | refine LeO.bind ?_ (fun _ => ?_)) | apply ih0 | exact LeO.none _ | refine LeO.ite ?_ ?_ | refine LeO.bind ?_ (fun _ => ?_)
theorem verb_ends.mono : ∀ a0 k, LeO (verb_ends.f k a0) (verb_ends.f (k + 1) a0) := by
 intro a0 k
 have ih0 := verb_ends.mono_l k; unfold verb_ends.f
 repeat' first | (with_reducible first | apply ih0 | exact LeO.refl _ | exact LeO.none _ | refine LeO.ite ?_ ?_ | refine LeO.bind ?_ (fun _ => ?_)) | apply ih0 | exact LeO.none _ | refine LeO.ite ?_ ?_ | refine LeO.bind ?_ (fun _ => ?_)
set_option maxHeartbeats 8000000 in
set_option maxRecDepth 100000 in
theorem verb_ends.calls (k : Nat) (a0 : Int) (r : Bool) (w : World) (h : verb_ends.f k a0 = some r) :
  Calls Try.prog 60 #[.int .i64 a0] w fun e w' => e = .returned (.bool r) ∧ Drawn0 w w' := by
 have H : (if a0 = 3 then (verb_ends.j0 k (a0 == 3)) else (if a0 = 4 then (verb_ends.j0 k (a0 == 4)) else (if a0 = 14 then (verb_ends.j0 k (a0 == 14)) else (if a0 = 5 then (verb_ends.j0 k (a0 == 5)) else (if a0 = 6 then (verb_ends.j0 k (a0 == 6)) else (if a0 = 7 then (verb_ends.j0 k (a0 == 7)) else (verb_ends.j0 k (a0 == 10)))))))) = some r := h; clear h; have HC2 := Aside0.mk H; clear H; go_enter Try.func60, Try.ntmps60
 go_upto_if 4 with (fail)
 go_cut [4] (fun v4 wc => ∃ (kq : Nat) (x4_1 : Bool), v4 = .bool x4_1 ∧ Aside0 (verb_ends.j0 kq x4_1 = some r) ∧ Aside0 (kq ≤ k) ∧ Drawn0 w wc)
 case first =>
  have H := HC2.out; clear HC2
  by_cases c3 : a0 = 3
  ·rw [if_pos c3] at H; have c3b0 : (a0 == 3) = true := beq_iff_eq.mpr c3; have c3b1 : (a0 != 3) = false := bne_eq_false_iff_eq.mpr c3; clear c3
   (first | rw [c3b0] | (simp only [i64_w, i32_w]; rw [c3b0]) | skip)
   have H' := Aside0.mk H; clear H; go_wp2
   go_meet
   case rel => exact ⟨_, ((a0 == 3)), (by first | rfl | (simp; done) | (simp [*]; done)), H', ⟨by first | omega | exact Nat.le_refl _⟩, by repeat (first | exact Drawn0.refl _ | apply Drawn0.step)⟩
  ·rw [if_neg c3] at H; have c3b0 : (a0 == 3) = false := beq_eq_false_iff_ne.mpr c3; have c3b1 : (a0 != 3) = true := bne_iff_ne.mpr c3
   (first | rw [c3b0] | (simp only [i64_w, i32_w]; rw [c3b0]) | skip)
   by_cases c4 : a0 = 4
   ·rw [if_pos c4] at H; have c4b0 : (a0 == 4) = true := beq_iff_eq.mpr c4; have c4b1 : (a0 != 4) = false := bne_eq_false_iff_eq.mpr c4; clear c4; have H' := Aside0.mk H; clear H; go_wp2
    go_meet
    case rel => exact ⟨_, ((a0 == 4)), (by first | rfl | (simp; done) | (simp [*]; done)), H', ⟨by first | omega | exact Nat.le_refl _⟩, by repeat (first | exact Drawn0.refl _ | apply Drawn0.step)⟩
   ·rw [if_neg c4] at H; have c4b0 : (a0 == 4) = false := beq_eq_false_iff_ne.mpr c4; have c4b1 : (a0 != 4) = true := bne_iff_ne.mpr c4
    by_cases c5 : a0 = 14
    ·rw [if_pos c5] at H; have c5b0 : (a0 == 14) = true := beq_iff_eq.mpr c5; have c5b1 : (a0 != 14) = false := bne_eq_false_iff_eq.mpr c5; clear c5; have H' := Aside0.mk H; clear H; go_wp2
     go_meet
     case rel => exact ⟨_, ((a0 == 14)), (by first | rfl | (simp; done) | (simp [*]; done)), H', ⟨by first | omega | exact Nat.le_refl _⟩, by repeat (first | exact Drawn0.refl _ | apply Drawn0.step)⟩
    ·rw [if_neg c5] at H; have c5b0 : (a0 == 14) = false := beq_eq_false_iff_ne.mpr c5; have c5b1 : (a0 != 14) = true := bne_iff_ne.mpr c5
     by_cases c6 : a0 = 5
     ·rw [if_pos c6] at H; have c6b0 : (a0 == 5) = true := beq_iff_eq.mpr c6; have c6b1 : (a0 != 5) = false := bne_eq_false_iff_eq.mpr c6; clear c6; have H' := Aside0.mk H; clear H; go_wp2
      go_meet
      case rel => exact ⟨_, ((a0 == 5)), (by first | rfl | (simp; done) | (simp [*]; done)), H', ⟨by first | omega | exact Nat.le_refl _⟩, by repeat (first | exact Drawn0.refl _ | apply Drawn0.step)⟩
     ·rw [if_neg c6] at H; have c6b0 : (a0 == 5) = false := beq_eq_false_iff_ne.mpr c6; have c6b1 : (a0 != 5) = true := bne_iff_ne.mpr c6
      by_cases c7 : a0 = 6
      ·rw [if_pos c7] at H; have c7b0 : (a0 == 6) = true := beq_iff_eq.mpr c7; have c7b1 : (a0 != 6) = false := bne_eq_false_iff_eq.mpr c7; clear c7; have H' := Aside0.mk H; clear H; go_wp2
       go_meet
       case rel => exact ⟨_, ((a0 == 6)), (by first | rfl | (simp; done) | (simp [*]; done)), H', ⟨by first | omega | exact Nat.le_refl _⟩, by repeat (first | exact Drawn0.refl _ | apply Drawn0.step)⟩
      ·rw [if_neg c7] at H; have c7b0 : (a0 == 6) = false := beq_eq_false_iff_ne.mpr c7; have c7b1 : (a0 != 6) = true := bne_iff_ne.mpr c7
       by_cases c8 : a0 = 7
       ·rw [if_pos c8] at H; have c8b0 : (a0 == 7) = true := beq_iff_eq.mpr c8; have c8b1 : (a0 != 7) = false := bne_eq_false_iff_eq.mpr c8; clear c8; have H' := Aside0.mk H; clear H; go_wp2
        go_meet
        case rel => exact ⟨_, ((a0 == 7)), (by first | rfl | (simp; done) | (simp [*]; done)), H', ⟨by first | omega | exact Nat.le_refl _⟩, by repeat (first | exact Drawn0.refl _ | apply Drawn0.step)⟩
       ·rw [if_neg c8] at H; have c8b0 : (a0 == 7) = false := beq_eq_false_iff_ne.mpr c8; have c8b1 : (a0 != 7) = true := bne_iff_ne.mpr c8; have H' := Aside0.mk H; clear H; go_wp2
        go_meet
        case rel => exact ⟨_, ((a0 == 10)), (by first | rfl | (simp; done) | (simp [*]; done)), H', ⟨by first | omega | exact Nat.le_refl _⟩, by repeat (first | exact Drawn0.refl _ | apply Drawn0.step)⟩
 case rest =>
  clear HC2; (try clear c3); (try clear c3b0); (try clear c3b1); (try clear c4); (try clear c4b0); (try clear c4b1); (try clear c5); (try clear c5b0); (try clear c5b1); (try clear c6); (try clear c6b0); (try clear c6b1); (try clear c7); (try clear c7b0); (try clear c7b1); (try clear c8); (try clear c8b0); (try clear c8b1); obtain ⟨kq, x4_1, rfl, HA, HJ1, ⟨mc1, rfl⟩⟩ := hcut; cases kq with
  | zero => exact absurd HA.out (by simp [verb_ends.j0])
  | succ kj1 =>
   have H := HA.out; clear HA; simp only [verb_ends.j0] at H
   by_cases c9 : x4_1 = true
   ·subst c9; rw [if_pos rfl] at H; obtain rfl := Option.some.inj H; go_wp2; go_ret
    exact ⟨by first | rfl | (simp; done) | (simp [*]; done), by repeat (first | exact Drawn0.refl _ | apply Drawn0.step)⟩
   ·replace c9 := Bool.eq_false_iff.mpr c9; subst c9; rw [if_neg (show ¬ (false = true) by decide)] at H; obtain rfl := Option.some.inj H; go_wp2; go_ret
    exact ⟨by first | rfl | (simp; done) | (simp [*]; done), by repeat (first | exact Drawn0.refl _ | apply Drawn0.step)⟩

/-! ### verb_reads: function 61 -/
def verb_reads.f (a0 : Int) : Option (Bool) := if a0 ≥ 1 then (some (decide (a0 ≤ 4))) else (some false)
set_option maxHeartbeats 8000000 in
set_option maxRecDepth 100000 in
theorem verb_reads.calls (a0 : Int) (r : Bool) (w : World) (h : verb_reads.f a0 = some r) :
  Calls Try.prog 61 #[.int .i64 a0] w fun e w' => e = .returned (.bool r) ∧ Drawn0 w w' := by
 have H : (if a0 ≥ 1 then (some (decide (a0 ≤ 4))) else (some false)) = some r := h; clear h
 by_cases c2 : a0 ≥ 1
 ·rw [if_pos c2] at H; have c2b0 : decide (1 ≤ a0) = true := decide_eq_true c2; clear c2; obtain rfl := Option.some.inj H; go_enter Try.func61, Try.ntmps61; go_wp2; go_ret
  exact ⟨by first | rfl | (simp; done) | (simp [*]; done), by repeat (first | exact Drawn0.refl _ | apply Drawn0.step)⟩
 ·rw [if_neg c2] at H; have c2b0 : decide (1 ≤ a0) = false := decide_eq_false c2; clear c2; obtain rfl := Option.some.inj H; go_enter Try.func61, Try.ntmps61; go_wp2; go_ret
  exact ⟨by first | rfl | (simp; done) | (simp [*]; done), by repeat (first | exact Drawn0.refl _ | apply Drawn0.step)⟩

/-! ### verb_keys: function 64 -/
def verb_keys.f (a0 : Int) (a1 : Int) : Option (Bool) := (verb_reads.f a0).bind fun t347 => (if t347 = true then (if a1 ≥ 1 then (some (decide (a1 ≤ 8))) else (some false)) else (if a0 = 15 then (some (a1 == 0)) else (some (a1 == 1))))
set_option maxHeartbeats 8000000 in
set_option maxRecDepth 100000 in
theorem verb_keys.calls (a0 : Int) (a1 : Int) (r : Bool) (w : World) (h : verb_keys.f a0 a1 = some r) :
  Calls Try.prog 64 #[.int .i64 a0, .int .i64 a1] w fun e w' => e = .returned (.bool r) ∧ Drawn0 w w' := by
 have H : ((verb_reads.f a0).bind fun t347 => (if t347 = true then (if a1 ≥ 1 then (some (decide (a1 ≤ 8))) else (some false)) else (if a0 = 15 then (some (a1 == 0)) else (some (a1 == 1))))) = some r := h; clear h; replace H := Option.bind_eq_some_iff.mp H; obtain ⟨t347, A30, H⟩ := H; (try dsimp only at H); have A3 := Aside0.mk A30; clear A30
 by_cases c4 : t347 = true
 ·subst c4; rw [if_pos rfl] at H
  by_cases c5 : a1 ≥ 1
  ·rw [if_pos c5] at H; have c5b0 : decide (1 ≤ a1) = true := decide_eq_true c5; clear c5; obtain rfl := Option.some.inj H; go_enter Try.func64, Try.ntmps64
   go_wp2_with (first | ((with_reducible refine gate_callee (f := 61) rfl ?_); refine gL (some 7) rfl rfl Try.func61 #[.int .i64 a0] rfl ?_; (with_reducible refine (verb_reads.calls a0 true _ A3.out).mono ?_); rintro e w' ⟨rfl, ⟨nd, rfl⟩⟩; refine ⟨_, rfl, ?_⟩))
   go_ret
   exact ⟨by first | rfl | (simp; done) | (simp [*]; done), by repeat (first | exact Drawn0.refl _ | apply Drawn0.step)⟩
  ·rw [if_neg c5] at H; have c5b0 : decide (1 ≤ a1) = false := decide_eq_false c5; clear c5; obtain rfl := Option.some.inj H; go_enter Try.func64, Try.ntmps64
   go_wp2_with (first | ((with_reducible refine gate_callee (f := 61) rfl ?_); refine gL (some 7) rfl rfl Try.func61 #[.int .i64 a0] rfl ?_; (with_reducible refine (verb_reads.calls a0 true _ A3.out).mono ?_); rintro e w' ⟨rfl, ⟨nd, rfl⟩⟩; refine ⟨_, rfl, ?_⟩))
   go_ret
   exact ⟨by first | rfl | (simp; done) | (simp [*]; done), by repeat (first | exact Drawn0.refl _ | apply Drawn0.step)⟩
 ·replace c4 := Bool.eq_false_iff.mpr c4; subst c4; rw [if_neg (show ¬ (false = true) by decide)] at H
  by_cases c6 : a0 = 15
  ·rw [if_pos c6] at H; have c6b0 : (a0 == 15) = true := beq_iff_eq.mpr c6; have c6b1 : (a0 != 15) = false := bne_eq_false_iff_eq.mpr c6; clear c6; obtain rfl := Option.some.inj H; go_enter Try.func64, Try.ntmps64
   go_wp2_with (first | ((with_reducible refine gate_callee (f := 61) rfl ?_); refine gL (some 7) rfl rfl Try.func61 #[.int .i64 a0] rfl ?_; (with_reducible refine (verb_reads.calls a0 false _ A3.out).mono ?_); rintro e w' ⟨rfl, ⟨nd, rfl⟩⟩; refine ⟨_, rfl, ?_⟩))
   go_ret
   exact ⟨by first | rfl | (simp; done) | (simp [*]; done), by repeat (first | exact Drawn0.refl _ | apply Drawn0.step)⟩
  ·rw [if_neg c6] at H; have c6b0 : (a0 == 15) = false := beq_eq_false_iff_ne.mpr c6; have c6b1 : (a0 != 15) = true := bne_iff_ne.mpr c6; obtain rfl := Option.some.inj H; go_enter Try.func64, Try.ntmps64
   go_wp2_with (first | ((with_reducible refine gate_callee (f := 61) rfl ?_); refine gL (some 7) rfl rfl Try.func61 #[.int .i64 a0] rfl ?_; (with_reducible refine (verb_reads.calls a0 false _ A3.out).mono ?_); rintro e w' ⟨rfl, ⟨nd, rfl⟩⟩; refine ⟨_, rfl, ?_⟩))
   go_ret
   exact ⟨by first | rfl | (simp; done) | (simp [*]; done), by repeat (first | exact Drawn0.refl _ | apply Drawn0.step)⟩

end Go.Proofs.Ytdepkgikdmlgiaa.P
