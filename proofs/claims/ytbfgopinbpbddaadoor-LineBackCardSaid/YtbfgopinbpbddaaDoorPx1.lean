/- Lean functions for the Go functions that the laws of this seat use, and the proofs that the Go code computes them; conditions: the readings that each theorem names. Written by a program. -/
import Derived.Test.YtbfgopinbpbddaaDoorPx0
import Derived.Test.YtbfgopinbpbddaaDoorShort
namespace Go.Proofs.YtbfgopinbpbddaaDoor.P
open Go.RowKit Go.Proofs.YtbfgopinbpbddaaDoorW.PrintWords Go.Proofs.YtbfgopinbpbddaaDoorW.PrintLast Go.Proofs.YtbfgopinbpbddaaDoorW.PrintMore
set_option linter.unusedVariables false
set_option linter.unusedSimpArgs false

/-! ### tallboylaw15_Great: function 8 -/
def tallboylaw15_Great.l0 : Nat → Int → Int → Int → List ByteArray → Int → Int → ByteArray → Int → Int → Bool → Option (Bool)
 | 0, _, _, _, _, _, _, _, _, _, _ => none
 | k + 1, x3, x4, x102000, z0, x102002, x102003, x102004, x102005, x102006, x102007 => if x4 < (z0.length : Int) then (if x3 < 10000 then (if 0 ≤ x4 then (tallboylaw15_Great.l0 k (wrap64 (x3 + ((rdOf ByteArray.empty z0 x4).size : Int))) (wrap64 (x4 + 1)) x102000 z0 x102002 x102003 x102004 x102005 x102006 x102007) else (none)) else (if x3 ≥ 10000 then (some true) else (some (decide ((z0.length : Int) > 100))))) else (if x3 ≥ 10000 then (some true) else (some (decide ((z0.length : Int) > 100))))
def tallboylaw15_Great.f (k : Nat) (a0_0 : Int) (l0_1 : List ByteArray) (a0_2 : Int) (a0_3 : Int) (a0_4 : ByteArray) (a0_5 : Int) (a0_6 : Int) (a0_7 : Bool) : Option (Bool) := tallboylaw15_Great.l0 k (a0_4.size : Int) 0 a0_0 l0_1 a0_2 a0_3 a0_4 a0_5 a0_6 a0_7
theorem tallboylaw15_Great.mono_l : ∀ k, (∀ y0 y1 y2 y3 y4 y5 y6 y7 y8 y9, LeO (tallboylaw15_Great.l0 k y0 y1 y2 y3 y4 y5 y6 y7 y8 y9) (tallboylaw15_Great.l0 (k + 1) y0 y1 y2 y3 y4 y5 y6 y7 y8 y9))
 | 0 => fun _ _ _ _ _ _ _ _ _ _ r h => by simp [tallboylaw15_Great.l0] at h
 | k + 1 => by
  have ih0 := tallboylaw15_Great.mono_l k
  ·intro y0 y1 y2 y3 y4 y5 y6 y7 y8 y9
   unfold tallboylaw15_Great.l0
   repeat' first | (with_reducible first | apply ih0 | exact LeO.refl _ | exact LeO.none _ | refine LeO.ite ?_ ?_ | refine LeO.bind ?_ (fun _ => ?_)) | apply ih0 | exact LeO.none _ | refine LeO.ite ?_ ?_ | refine LeO.bind ?_ (fun _ => ?_)
theorem tallboylaw15_Great.mono : ∀ a0 a1 a2 a3 a4 a5 a6 a7 k, LeO (tallboylaw15_Great.f k a0 a1 a2 a3 a4 a5 a6 a7) (tallboylaw15_Great.f (k + 1) a0 a1 a2 a3 a4 a5 a6 a7) := by
 intro a0 a1 a2 a3 a4 a5 a6 a7 k
 have ih0 := tallboylaw15_Great.mono_l k; unfold tallboylaw15_Great.f
 repeat' first | (with_reducible first | apply ih0 | exact LeO.refl _ | exact LeO.none _ | refine LeO.ite ?_ ?_ | refine LeO.bind ?_ (fun _ => ?_)) | apply ih0 | exact LeO.none _ | refine LeO.ite ?_ ?_ | refine LeO.bind ?_ (fun _ => ?_)
set_option maxHeartbeats 8000000 in
set_option maxRecDepth 100000 in
theorem tallboylaw15_Great.calls (k : Nat) (a0_0 : Int) (A0_1 : Option Addr) (c0_1 : Nat) (l0_1 : List ByteArray) (a0_2 : Int) (a0_3 : Int) (a0_4 : ByteArray) (a0_5 : Int) (a0_6 : Int) (a0_7 : Bool) (r : Bool) (w : World) (hr0_1 : Kd.C Kd.string w A0_1 l0_1.length l0_1) (hc0_1 : l0_1.length ≤ c0_1) (h : tallboylaw15_Great.f k a0_0 l0_1 a0_2 a0_3 a0_4 a0_5 a0_6 a0_7 = some r) :
  Calls Tryd.prog 8 #[.agg #[.int .i64 a0_0, .slice A0_1 l0_1.length c0_1, .int .u32 a0_2, .int .i64 a0_3, .string a0_4, .int .u64 a0_5, .int .u64 a0_6, .bool a0_7]] w fun e w' => e = .returned (.bool r) ∧ Below w.heap.size w w' := by
 have hu26 := Tryd.underlying26; have HR0_1 := Aside0.mk hr0_1; have HC0_1 := Aside0.mk hc0_1; clear hr0_1 hc0_1; have HB := Aside0.mk (Below.refl w.heap.size w); have H : (tallboylaw15_Great.l0 k (a0_4.size : Int) 0 a0_0 l0_1 a0_2 a0_3 a0_4 a0_5 a0_6 a0_7) = some r := h; clear h; have H' := Aside0.mk H; clear H; go_enter Tryd.func8, Tryd.ntmps8
 go_wp2_with (first | ((with_reducible refine gate_dst (N := 1) rfl ?_); (try (refine gate_guard (by rfl) ?_; dsimp only)); refine bE 1 #[.int .i64 a0_0, .slice A0_1 l0_1.length c0_1, .int .u32 a0_2, .int .i64 a0_3, .string a0_4, .int .u64 a0_5, .int .u64 a0_6, .bool a0_7] 26 rfl rfl ?_; intro gb101 hg w2 hbox hb; have BK101 := rM hbox; have GW101 := rG HB hg; replace HB := rS HB hb; have GE101 := GW101; clear hb hbox hg; obtain ⟨hcz3, hfz3⟩ := d8 BK101))
 go_loopg [3, 4] k (fun kq v3 v4 w' => ∃ (x3_1 : Int) (x4_1 : Int), v3 = .int .i64 x3_1 ∧ v4 = .int .i64 x4_1 ∧ Aside0 (tallboylaw15_Great.l0 kq x3_1 x4_1 a0_0 l0_1 a0_2 a0_3 a0_4 a0_5 a0_6 a0_7 = some r) ∧ Aside0 (kq ≤ k) ∧ Aside0 (w'.heap[gb101]? = some (.cells #[.int .i64 a0_0, (.slice A0_1 l0_1.length c0_1), .int .u32 a0_2, .int .i64 a0_3, .string a0_4, .int .u64 a0_5, .int .u64 a0_6, .bool a0_7] 26 (0, 0))) ∧ Aside0 (Below w.heap.size w w'))
 case atStart => exact ⟨((a0_4.size : Int)), (0), (by first | rfl | (simp; done) | (simp [*]; done)), (by first | rfl | (simp; done) | (simp [*]; done)), H', ⟨Nat.le_refl _⟩, ⟨bK BK101.out⟩, ⟨bH HB.out⟩⟩
 case round =>
  clear H'; (try clear hcz3); (try clear hfz3); obtain ⟨x3_1, x4_1, rfl, rfl, HA, HK1, BK101, HB⟩ := hrel; cases gk with
  | zero => exact absurd HA.out (by simp [tallboylaw15_Great.l0])
  | succ k1 =>
   have H := HA.out; clear HA; simp only [tallboylaw15_Great.l0] at H
   by_cases c4 : x4_1 < (l0_1.length : Int)
   ·rw [if_pos c4] at H; have c4b0 : decide (x4_1 < (l0_1.length : Int)) = true := decide_eq_true c4; clear c4
    by_cases c5 : x3_1 < 10000
    ·rw [if_pos c5] at H; have c5b0 : decide (x3_1 < 10000) = true := decide_eq_true c5; clear c5
     by_cases c6 : 0 ≤ x4_1
     ·rw [if_pos c6] at H; have c6b0 : decide (0 ≤ x4_1) = true := decide_eq_true c6; clear c6; have H' := Aside0.mk H; clear H; obtain ⟨hcz7, hfz7⟩ := d8 BK101; have p102 : 0 ≤ (x4_1 : Int) := of_decide_eq_true (by first | (with_reducible assumption) | assumption); have q102 : x4_1 < (l0_1.length : Int) := of_decide_eq_true (by first | (with_reducible assumption) | assumption)
      obtain ⟨ad102, e102, hx102_0⟩ := Kd.at_string HR0_1.out x4_1 p102 q102; cases e102; replace hx102_0 := (HB.out.cell (World.block_lt_of_cell? w _ hx102_0)).trans hx102_0; replace p102 := eq_true p102; replace q102 := eq_true q102; go_wp2
      go_roundg k1
      case measure => have := HK1.out; omega
      case rel => exact ⟨(wrap64 (x3_1 + ((rdOf ByteArray.empty l0_1 x4_1).size : Int))), (wrap64 (x4_1 + 1)), (by first | rfl | (simp; done) | (simp [*]; done)), (by first | rfl | (simp; done) | (simp [*]; done)), H', ⟨by have := HK1.out; omega⟩, ⟨bK BK101.out⟩, ⟨bH HB.out⟩⟩
     ·rw [if_neg c6] at H; exact absurd H (by simp)
    ·rw [if_neg c5] at H; have c5b0 : decide (x3_1 < 10000) = false := decide_eq_false c5; clear c5
     by_cases c8 : x3_1 ≥ 10000
     ·rw [if_pos c8] at H; have c8b0 : decide (10000 ≤ x3_1) = true := decide_eq_true c8; clear c8; obtain rfl := Option.some.inj H; obtain ⟨hcz9, hfz9⟩ := d8 BK101; go_wp2; go_ret
      exact ⟨xR, bH HB.out⟩
     ·rw [if_neg c8] at H; have c8b0 : decide (10000 ≤ x3_1) = false := decide_eq_false c8; clear c8; obtain rfl := Option.some.inj H; obtain ⟨hcz10, hfz10⟩ := d8 BK101; go_wp2; go_ret
      exact ⟨xR, bH HB.out⟩
   ·rw [if_neg c4] at H; have c4b0 : decide (x4_1 < (l0_1.length : Int)) = false := decide_eq_false c4; clear c4
    by_cases c11 : x3_1 ≥ 10000
    ·rw [if_pos c11] at H; have c11b0 : decide (10000 ≤ x3_1) = true := decide_eq_true c11; clear c11; obtain rfl := Option.some.inj H; obtain ⟨hcz12, hfz12⟩ := d8 BK101; go_wp2; go_ret
     exact ⟨xR, bH HB.out⟩
    ·rw [if_neg c11] at H; have c11b0 : decide (10000 ≤ x3_1) = false := decide_eq_false c11; clear c11; obtain rfl := Option.some.inj H; obtain ⟨hcz13, hfz13⟩ := d8 BK101; go_wp2; go_ret
     exact ⟨xR, bH HB.out⟩

/-! ### verb_Stores: function 27 -/
def verb_Stores.f (a0 : Int) : Option (Bool) := if a0 ≥ 5 then (some (decide (a0 ≤ 10))) else (some false)
set_option maxHeartbeats 8000000 in
set_option maxRecDepth 100000 in
theorem verb_Stores.calls (a0 : Int) (r : Bool) (w : World) (h : verb_Stores.f a0 = some r) :
  Calls Tryd.prog 27 #[.int .i64 a0] w fun e w' => e = .returned (.bool r) ∧ Drawn0 w w' := by
 have H : (if a0 ≥ 5 then (some (decide (a0 ≤ 10))) else (some false)) = some r := h; clear h
 by_cases c2 : a0 ≥ 5
 ·rw [if_pos c2] at H; have c2b0 : decide (5 ≤ a0) = true := decide_eq_true c2; clear c2; obtain rfl := Option.some.inj H; go_enter Tryd.func27, Tryd.ntmps27; go_wp2; go_ret
  exact ⟨by first | rfl | (simp; done) | (simp [*]; done), by repeat (first | exact Drawn0.refl _ | apply Drawn0.step)⟩
 ·rw [if_neg c2] at H; have c2b0 : decide (5 ≤ a0) = false := decide_eq_false c2; clear c2; obtain rfl := Option.some.inj H; go_enter Tryd.func27, Tryd.ntmps27; go_wp2; go_ret
  exact ⟨by first | rfl | (simp; done) | (simp [*]; done), by repeat (first | exact Drawn0.refl _ | apply Drawn0.step)⟩

/-! ### verb_kind: function 52 -/
def verb_kind.f (a0 : Int) : Option (Bool) := if a0 ≥ 1 then (some (decide (a0 ≤ 15))) else (some false)
set_option maxHeartbeats 8000000 in
set_option maxRecDepth 100000 in
theorem verb_kind.calls (a0 : Int) (r : Bool) (w : World) (h : verb_kind.f a0 = some r) :
  Calls Tryd.prog 52 #[.int .i64 a0] w fun e w' => e = .returned (.bool r) ∧ Drawn0 w w' := by
 have H : (if a0 ≥ 1 then (some (decide (a0 ≤ 15))) else (some false)) = some r := h; clear h
 by_cases c2 : a0 ≥ 1
 ·rw [if_pos c2] at H; have c2b0 : decide (1 ≤ a0) = true := decide_eq_true c2; clear c2; obtain rfl := Option.some.inj H; go_enter Tryd.func52, Tryd.ntmps52; go_wp2; go_ret
  exact ⟨by first | rfl | (simp; done) | (simp [*]; done), by repeat (first | exact Drawn0.refl _ | apply Drawn0.step)⟩
 ·rw [if_neg c2] at H; have c2b0 : decide (1 ≤ a0) = false := decide_eq_false c2; clear c2; obtain rfl := Option.some.inj H; go_enter Tryd.func52, Tryd.ntmps52; go_wp2; go_ret
  exact ⟨by first | rfl | (simp; done) | (simp [*]; done), by repeat (first | exact Drawn0.refl _ | apply Drawn0.step)⟩

/-! ### verb_ends: function 53 -/
def verb_ends.j0 : Nat → Bool → Option (Bool)
 | 0, _ => none
 | k + 1, x4 => if x4 = true then (some true) else (some false)
def verb_ends.f (k : Nat) (a0 : Int) : Option (Bool) := if a0 = 3 then (verb_ends.j0 k (a0 == 3)) else (if a0 = 4 then (verb_ends.j0 k (a0 == 4)) else (if a0 = 14 then (verb_ends.j0 k (a0 == 14)) else (if a0 = 5 then (verb_ends.j0 k (a0 == 5)) else (if a0 = 6 then (verb_ends.j0 k (a0 == 6)) else (if a0 = 7 then (verb_ends.j0 k (a0 == 7)) else (verb_ends.j0 k (a0 == 10)))))))
theorem verb_ends.mono_l : ∀ k, (∀ y0, LeO (verb_ends.j0 k y0) (verb_ends.j0 (k + 1) y0))
 | 0 => fun _ r h => by simp [verb_ends.j0] at h
 | k + 1 => by
  have ih0 := verb_ends.mono_l k
  ·intro y0
   unfold verb_ends.j0
   repeat' first | (with_reducible first | apply ih0 | exact LeO.refl _ | exact LeO.none _ | refine LeO.ite ?_ ?_ | refine LeO.bind ?_ (fun _ => ?_)) | apply ih0 | exact LeO.none _ | refine LeO.ite ?_ ?_ | refine LeO.bind ?_ (fun _ => ?_)
theorem verb_ends.mono : ∀ a0 k, LeO (verb_ends.f k a0) (verb_ends.f (k + 1) a0) := by
 intro a0 k
 have ih0 := verb_ends.mono_l k; unfold verb_ends.f
 repeat' first | (with_reducible first | apply ih0 | exact LeO.refl _ | exact LeO.none _ | refine LeO.ite ?_ ?_ | refine LeO.bind ?_ (fun _ => ?_)) | apply ih0 | exact LeO.none _ | refine LeO.ite ?_ ?_ | refine LeO.bind ?_ (fun _ => ?_)
set_option maxHeartbeats 8000000 in
set_option maxRecDepth 100000 in
theorem verb_ends.calls (k : Nat) (a0 : Int) (r : Bool) (w : World) (h : verb_ends.f k a0 = some r) :
  Calls Tryd.prog 53 #[.int .i64 a0] w fun e w' => e = .returned (.bool r) ∧ Drawn0 w w' := by
 have H : (if a0 = 3 then (verb_ends.j0 k (a0 == 3)) else (if a0 = 4 then (verb_ends.j0 k (a0 == 4)) else (if a0 = 14 then (verb_ends.j0 k (a0 == 14)) else (if a0 = 5 then (verb_ends.j0 k (a0 == 5)) else (if a0 = 6 then (verb_ends.j0 k (a0 == 6)) else (if a0 = 7 then (verb_ends.j0 k (a0 == 7)) else (verb_ends.j0 k (a0 == 10)))))))) = some r := h; clear h; have HC2 := Aside0.mk H; clear H; go_enter Tryd.func53, Tryd.ntmps53
 go_upto_if 4 with (fail)
 go_cut [4] (fun v4 wc => ∃ (kq : Nat) (x4_1 : Bool), v4 = .bool x4_1 ∧ Aside0 (verb_ends.j0 kq x4_1 = some r) ∧ Aside0 (kq ≤ k) ∧ Drawn0 w wc)
 case first =>
  have H := HC2.out; clear HC2
  by_cases c3 : a0 = 3
  ·rw [if_pos c3] at H; have c3b0 : (a0 == 3) = true := beq_iff_eq.mpr c3; have c3b1 : (a0 != 3) = false := bne_eq_false_iff_eq.mpr c3; clear c3
   (first | rw [c3b0] | (simp only [i64_w, i32_w]; rw [c3b0]) | skip)
   have H' := Aside0.mk H; clear H; go_wp2
   go_meet
   case rel => exact ⟨_, ((a0 == 3)), (by first | rfl | (simp; done) | (simp [*]; done)), H', ⟨by first | omega | exact Nat.le_refl _⟩, by repeat (first | exact Drawn0.refl _ | apply Drawn0.step)⟩
  ·rw [if_neg c3] at H; have c3b0 : (a0 == 3) = false := beq_eq_false_iff_ne.mpr c3; have c3b1 : (a0 != 3) = true := bne_iff_ne.mpr c3
   (first | rw [c3b0] | (simp only [i64_w, i32_w]; rw [c3b0]) | skip)
   by_cases c4 : a0 = 4
   ·rw [if_pos c4] at H; have c4b0 : (a0 == 4) = true := beq_iff_eq.mpr c4; have c4b1 : (a0 != 4) = false := bne_eq_false_iff_eq.mpr c4; clear c4; have H' := Aside0.mk H; clear H; go_wp2
    go_meet
    case rel => exact ⟨_, ((a0 == 4)), (by first | rfl | (simp; done) | (simp [*]; done)), H', ⟨by first | omega | exact Nat.le_refl _⟩, by repeat (first | exact Drawn0.refl _ | apply Drawn0.step)⟩
   ·rw [if_neg c4] at H; have c4b0 : (a0 == 4) = false := beq_eq_false_iff_ne.mpr c4; have c4b1 : (a0 != 4) = true := bne_iff_ne.mpr c4
    by_cases c5 : a0 = 14
    ·rw [if_pos c5] at H; have c5b0 : (a0 == 14) = true := beq_iff_eq.mpr c5; have c5b1 : (a0 != 14) = false := bne_eq_false_iff_eq.mpr c5; clear c5; have H' := Aside0.mk H; clear H; go_wp2
     go_meet
     case rel => exact ⟨_, ((a0 == 14)), (by first | rfl | (simp; done) | (simp [*]; done)), H', ⟨by first | omega | exact Nat.le_refl _⟩, by repeat (first | exact Drawn0.refl _ | apply Drawn0.step)⟩
    ·rw [if_neg c5] at H; have c5b0 : (a0 == 14) = false := beq_eq_false_iff_ne.mpr c5; have c5b1 : (a0 != 14) = true := bne_iff_ne.mpr c5
     by_cases c6 : a0 = 5
     ·rw [if_pos c6] at H; have c6b0 : (a0 == 5) = true := beq_iff_eq.mpr c6; have c6b1 : (a0 != 5) = false := bne_eq_false_iff_eq.mpr c6; clear c6; have H' := Aside0.mk H; clear H; go_wp2
      go_meet
      case rel => exact ⟨_, ((a0 == 5)), (by first | rfl | (simp; done) | (simp [*]; done)), H', ⟨by first | omega | exact Nat.le_refl _⟩, by repeat (first | exact Drawn0.refl _ | apply Drawn0.step)⟩
     ·rw [if_neg c6] at H; have c6b0 : (a0 == 5) = false := beq_eq_false_iff_ne.mpr c6; have c6b1 : (a0 != 5) = true := bne_iff_ne.mpr c6
      by_cases c7 : a0 = 6
      ·rw [if_pos c7] at H; have c7b0 : (a0 == 6) = true := beq_iff_eq.mpr c7; have c7b1 : (a0 != 6) = false := bne_eq_false_iff_eq.mpr c7; clear c7; have H' := Aside0.mk H; clear H; go_wp2
       go_meet
       case rel => exact ⟨_, ((a0 == 6)), (by first | rfl | (simp; done) | (simp [*]; done)), H', ⟨by first | omega | exact Nat.le_refl _⟩, by repeat (first | exact Drawn0.refl _ | apply Drawn0.step)⟩
      ·rw [if_neg c7] at H; have c7b0 : (a0 == 6) = false := beq_eq_false_iff_ne.mpr c7; have c7b1 : (a0 != 6) = true := bne_iff_ne.mpr c7
       by_cases c8 : a0 = 7
       ·rw [if_pos c8] at H; have c8b0 : (a0 == 7) = true := beq_iff_eq.mpr c8; have c8b1 : (a0 != 7) = false := bne_eq_false_iff_eq.mpr c8; clear c8; have H' := Aside0.mk H; clear H; go_wp2
        go_meet
        case rel => exact ⟨_, ((a0 == 7)), (by first | rfl | (simp; done) | (simp [*]; done)), H', ⟨by first | omega | exact Nat.le_refl _⟩, by repeat (first | exact Drawn0.refl _ | apply Drawn0.step)⟩
       ·rw [if_neg c8] at H; have c8b0 : (a0 == 7) = false := beq_eq_false_iff_ne.mpr c8; have c8b1 : (a0 != 7) = true := bne_iff_ne.mpr c8; have H' := Aside0.mk H; clear H; go_wp2
        go_meet
        case rel => exact ⟨_, ((a0 == 10)), (by first | rfl | (simp; done) | (simp [*]; done)), H', ⟨by first | omega | exact Nat.le_refl _⟩, by repeat (first | exact Drawn0.refl _ | apply Drawn0.step)⟩
 case rest =>
  clear HC2; (try clear c3); (try clear c3b0); (try clear c3b1); (try clear c4); (try clear c4b0); (try clear c4b1); (try clear c5); (try clear c5b0); (try clear c5b1); (try clear c6); (try clear c6b0); (try clear c6b1); (try clear c7); (try clear c7b0); (try clear c7b1); (try clear c8); (try clear c8b0); (try clear c8b1); obtain ⟨kq, x4_1, rfl, HA, HJ1, ⟨mc1, rfl⟩⟩ := hcut; cases kq with
  | zero => exact absurd HA.out (by simp [verb_ends.j0])
  | succ kj1 =>
   have H := HA.out; clear HA; simp only [verb_ends.j0] at H
   by_cases c9 : x4_1 = true
   ·subst c9; rw [if_pos rfl] at H; obtain rfl := Option.some.inj H; go_wp2; go_ret
    exact ⟨by first | rfl | (simp; done) | (simp [*]; done), by repeat (first | exact Drawn0.refl _ | apply Drawn0.step)⟩
   ·replace c9 := Bool.eq_false_iff.mpr c9; subst c9; rw [if_neg (show ¬ (false = true) by decide)] at H; obtain rfl := Option.some.inj H; go_wp2; go_ret
    exact ⟨by first | rfl | (simp; done) | (simp [*]; done), by repeat (first | exact Drawn0.refl _ | apply Drawn0.step)⟩

/-! ### verb_reads: function 54 -/
def verb_reads.f (a0 : Int) : Option (Bool) := if a0 ≥ 1 then (some (decide (a0 ≤ 4))) else (some false)
set_option maxHeartbeats 8000000 in
set_option maxRecDepth 100000 in
theorem verb_reads.calls (a0 : Int) (r : Bool) (w : World) (h : verb_reads.f a0 = some r) :
  Calls Tryd.prog 54 #[.int .i64 a0] w fun e w' => e = .returned (.bool r) ∧ Drawn0 w w' := by
 have H : (if a0 ≥ 1 then (some (decide (a0 ≤ 4))) else (some false)) = some r := h; clear h
 by_cases c2 : a0 ≥ 1
 ·rw [if_pos c2] at H; have c2b0 : decide (1 ≤ a0) = true := decide_eq_true c2; clear c2; obtain rfl := Option.some.inj H; go_enter Tryd.func54, Tryd.ntmps54; go_wp2; go_ret
  exact ⟨by first | rfl | (simp; done) | (simp [*]; done), by repeat (first | exact Drawn0.refl _ | apply Drawn0.step)⟩
 ·rw [if_neg c2] at H; have c2b0 : decide (1 ≤ a0) = false := decide_eq_false c2; clear c2; obtain rfl := Option.some.inj H; go_enter Tryd.func54, Tryd.ntmps54; go_wp2; go_ret
  exact ⟨by first | rfl | (simp; done) | (simp [*]; done), by repeat (first | exact Drawn0.refl _ | apply Drawn0.step)⟩

/-! ### verb_keys: function 57 -/
def verb_keys.f (a0 : Int) (a1 : Int) : Option (Bool) := (verb_reads.f a0).bind fun t103 => (if t103 = true then (if a1 ≥ 1 then (some (decide (a1 ≤ 8))) else (some false)) else (if a0 = 15 then (some (a1 == 0)) else (some (a1 == 1))))
set_option maxHeartbeats 8000000 in
set_option maxRecDepth 100000 in
theorem verb_keys.calls (a0 : Int) (a1 : Int) (r : Bool) (w : World) (h : verb_keys.f a0 a1 = some r) :
  Calls Tryd.prog 57 #[.int .i64 a0, .int .i64 a1] w fun e w' => e = .returned (.bool r) ∧ Drawn0 w w' := by
 have H : ((verb_reads.f a0).bind fun t103 => (if t103 = true then (if a1 ≥ 1 then (some (decide (a1 ≤ 8))) else (some false)) else (if a0 = 15 then (some (a1 == 0)) else (some (a1 == 1))))) = some r := h; clear h; replace H := Option.bind_eq_some_iff.mp H; obtain ⟨t103, A30, H⟩ := H; (try dsimp only at H); have A3 := Aside0.mk A30; clear A30
 by_cases c4 : t103 = true
 ·subst c4; rw [if_pos rfl] at H
  by_cases c5 : a1 ≥ 1
  ·rw [if_pos c5] at H; have c5b0 : decide (1 ≤ a1) = true := decide_eq_true c5; clear c5; obtain rfl := Option.some.inj H; go_enter Tryd.func57, Tryd.ntmps57
   go_wp2_with (first | ((with_reducible refine gate_callee (f := 54) rfl ?_); refine goesL_ (some 7) rfl rfl Tryd.func54 (by kernel_rfl) rfl #[.int .i64 a0] rfl (by (try simp only [List.map_toArray, List.map_cons, List.map_nil]); first | done | rfl | (simp only [List.length_drop, List.length_take]; rfl)) ?_; (with_reducible refine (verb_reads.calls a0 true _ A3.out).mono ?_); rintro e w' ⟨rfl, ⟨nd, rfl⟩⟩; refine ⟨_, rfl, ?_⟩))
   go_ret
   exact ⟨by first | rfl | (simp; done) | (simp [*]; done), by repeat (first | exact Drawn0.refl _ | apply Drawn0.step)⟩
  ·rw [if_neg c5] at H; have c5b0 : decide (1 ≤ a1) = false := decide_eq_false c5; clear c5; obtain rfl := Option.some.inj H; go_enter Tryd.func57, Tryd.ntmps57
   go_wp2_with (first | ((with_reducible refine gate_callee (f := 54) rfl ?_); refine goesL_ (some 7) rfl rfl Tryd.func54 (by kernel_rfl) rfl #[.int .i64 a0] rfl (by (try simp only [List.map_toArray, List.map_cons, List.map_nil]); first | done | rfl | (simp only [List.length_drop, List.length_take]; rfl)) ?_; (with_reducible refine (verb_reads.calls a0 true _ A3.out).mono ?_); rintro e w' ⟨rfl, ⟨nd, rfl⟩⟩; refine ⟨_, rfl, ?_⟩))
   go_ret
   exact ⟨by first | rfl | (simp; done) | (simp [*]; done), by repeat (first | exact Drawn0.refl _ | apply Drawn0.step)⟩
 ·replace c4 := Bool.eq_false_iff.mpr c4; subst c4; rw [if_neg (show ¬ (false = true) by decide)] at H
  by_cases c6 : a0 = 15
  ·rw [if_pos c6] at H; have c6b0 : (a0 == 15) = true := beq_iff_eq.mpr c6; have c6b1 : (a0 != 15) = false := bne_eq_false_iff_eq.mpr c6; clear c6; obtain rfl := Option.some.inj H; go_enter Tryd.func57, Tryd.ntmps57
   go_wp2_with (first | ((with_reducible refine gate_callee (f := 54) rfl ?_); refine goesL_ (some 7) rfl rfl Tryd.func54 (by kernel_rfl) rfl #[.int .i64 a0] rfl (by (try simp only [List.map_toArray, List.map_cons, List.map_nil]); first | done | rfl | (simp only [List.length_drop, List.length_take]; rfl)) ?_; (with_reducible refine (verb_reads.calls a0 false _ A3.out).mono ?_); rintro e w' ⟨rfl, ⟨nd, rfl⟩⟩; refine ⟨_, rfl, ?_⟩))
   go_ret
   exact ⟨by first | rfl | (simp; done) | (simp [*]; done), by repeat (first | exact Drawn0.refl _ | apply Drawn0.step)⟩
  ·rw [if_neg c6] at H; have c6b0 : (a0 == 15) = false := beq_eq_false_iff_ne.mpr c6; have c6b1 : (a0 != 15) = true := bne_iff_ne.mpr c6; obtain rfl := Option.some.inj H; go_enter Tryd.func57, Tryd.ntmps57
   go_wp2_with (first | ((with_reducible refine gate_callee (f := 54) rfl ?_); refine goesL_ (some 7) rfl rfl Tryd.func54 (by kernel_rfl) rfl #[.int .i64 a0] rfl (by (try simp only [List.map_toArray, List.map_cons, List.map_nil]); first | done | rfl | (simp only [List.length_drop, List.length_take]; rfl)) ?_; (with_reducible refine (verb_reads.calls a0 false _ A3.out).mono ?_); rintro e w' ⟨rfl, ⟨nd, rfl⟩⟩; refine ⟨_, rfl, ?_⟩))
   go_ret
   exact ⟨by first | rfl | (simp; done) | (simp [*]; done), by repeat (first | exact Drawn0.refl _ | apply Drawn0.step)⟩

/-! ### fnv_Key: function 56 -/
mutual
def fnv_Key.j0 : Nat → ByteArray → Bool → Option (Bool)
 | 0, _, _ => none
 | k + 1, x0, x10 => if x10 = true then (some false) else (fnv_Key.l0 k x0 (x0.size : Int) 0)
def fnv_Key.l0 : Nat → ByteArray → Int → Int → Option (Bool)
 | 0, _, _, _ => none
 | k + 1, x0, x12, x13 => if x13 < x12 then (if 0 ≤ x13 then (if x13 < (x0.size : Int) then (if (bt x0 x13) < 33 then (some false) else (if (bt x0 x13) > 126 then (some false) else (fnv_Key.l0 k x0 x12 (wrap64 (x13 + 1))))) else (none)) else (none)) else (some true)
end
def fnv_Key.f (k : Nat) (a0 : ByteArray) : Option (Bool) := if a0.toList = ([] : List UInt8) then (fnv_Key.j0 k a0 true) else (fnv_Key.j0 k a0 (decide ((a0.size : Int) > 32)))
theorem fnv_Key.mono_l : ∀ k, (∀ y0 y1, LeO (fnv_Key.j0 k y0 y1) (fnv_Key.j0 (k + 1) y0 y1)) ∧ (∀ y0 y1 y2, LeO (fnv_Key.l0 k y0 y1 y2) (fnv_Key.l0 (k + 1) y0 y1 y2))
 | 0 => ⟨fun _ _ r h => by simp [fnv_Key.j0] at h, fun _ _ _ r h => by simp [fnv_Key.l0] at h⟩
 | k + 1 => by
  obtain ⟨ih0, ih1⟩ := fnv_Key.mono_l k; refine ⟨?_, ?_⟩
  all_goals intros
  all_goals (first | unfold fnv_Key.j0 | unfold fnv_Key.l0)
  all_goals repeat' first | (with_reducible first | apply ih0 | apply ih1 | exact LeO.refl _ | exact LeO.none _ | refine LeO.ite ?_ ?_ | refine LeO.bind ?_ (fun _ => ?_)) | apply ih0 | apply ih1 | exact LeO.none _ | refine LeO.ite ?_ ?_ | refine LeO.bind ?_ (fun _ => ?_)
theorem fnv_Key.mono : ∀ a0 k, LeO (fnv_Key.f k a0) (fnv_Key.f (k + 1) a0) := by
 intro a0 k
 obtain ⟨ih0, ih1⟩ := fnv_Key.mono_l k; unfold fnv_Key.f
 repeat' first | (with_reducible first | apply ih0 | apply ih1 | exact LeO.refl _ | exact LeO.none _ | refine LeO.ite ?_ ?_ | refine LeO.bind ?_ (fun _ => ?_)) | apply ih0 | apply ih1 | exact LeO.none _ | refine LeO.ite ?_ ?_ | refine LeO.bind ?_ (fun _ => ?_)
set_option maxHeartbeats 8000000 in
set_option maxRecDepth 100000 in
theorem fnv_Key.calls (k : Nat) (a0 : ByteArray) (r : Bool) (w : World) (h : fnv_Key.f k a0 = some r) :
  Calls Tryd.prog 56 #[.string a0] w fun e w' => e = .returned (.bool r) ∧ Drawn0 w w' := by
 have H : (if a0.toList = ([] : List UInt8) then (fnv_Key.j0 k a0 true) else (fnv_Key.j0 k a0 (decide ((a0.size : Int) > 32)))) = some r := h; clear h; have HC2 := Aside0.mk H; clear H; go_enter Tryd.func56, Tryd.ntmps56
 go_upto_region 1 with (fail)
 go_cut [10] (fun v10 wc => ∃ (kq : Nat) (x10_1 : Bool), v10 = .bool x10_1 ∧ Aside0 (fnv_Key.j0 kq a0 x10_1 = some r) ∧ Aside0 (kq ≤ k) ∧ Drawn0 w wc)
 case first =>
  have H := HC2.out; clear HC2
  by_cases c3 : a0.toList = ([] : List UInt8)
  ·rw [if_pos c3] at H; have c3b0 : (a0.toList == ([] : List UInt8)) = true := beq_iff_eq.mpr c3; have c3b1 : (a0.toList != ([] : List UInt8)) = false := bne_eq_false_iff_eq.mpr c3; clear c3
   (first | rw [c3b0] | (simp only [i64_w, i32_w]; rw [c3b0]) | skip)
   have H' := Aside0.mk H; clear H; go_wp2
   go_meet
   case rel => exact ⟨_, (true), (by first | rfl | (simp; done) | (simp [*]; done)), H', ⟨by first | omega | exact Nat.le_refl _⟩, by repeat (first | exact Drawn0.refl _ | apply Drawn0.step)⟩
  ·rw [if_neg c3] at H; have c3b0 : (a0.toList == ([] : List UInt8)) = false := beq_eq_false_iff_ne.mpr c3; have c3b1 : (a0.toList != ([] : List UInt8)) = true := bne_iff_ne.mpr c3
   (first | rw [c3b0] | (simp only [i64_w, i32_w]; rw [c3b0]) | skip)
   have H' := Aside0.mk H; clear H; go_wp2
   go_meet
   case rel => exact ⟨_, (decide ((a0.size : Int) > 32)), (by first | rfl | (simp; done) | (simp [*]; done)), H', ⟨by first | omega | exact Nat.le_refl _⟩, by repeat (first | exact Drawn0.refl _ | apply Drawn0.step)⟩
 case rest =>
  clear HC2; (try clear c3); (try clear c3b0); (try clear c3b1); obtain ⟨kq, x10_1, rfl, HA, HJ1, ⟨mc1, rfl⟩⟩ := hcut; cases kq with
  | zero => exact absurd HA.out (by simp [fnv_Key.j0])
  | succ kj1 =>
   have H := HA.out; clear HA; simp only [fnv_Key.j0] at H
   by_cases c4 : x10_1 = true
   ·subst c4; rw [if_pos rfl] at H; obtain rfl := Option.some.inj H; go_wp2; go_ret
    exact ⟨by first | rfl | (simp; done) | (simp [*]; done), by repeat (first | exact Drawn0.refl _ | apply Drawn0.step)⟩
   ·replace c4 := Bool.eq_false_iff.mpr c4; subst c4; rw [if_neg (show ¬ (false = true) by decide)] at H; have H' := Aside0.mk H; clear H; go_wp2
    go_loopg [13] kj1 (fun kq v13 w' => ∃ (x13_2 : Int), v13 = .int .i64 x13_2 ∧ Aside0 (fnv_Key.l0 kq a0 (a0.size : Int) x13_2 = some r) ∧ Aside0 (kq ≤ kj1) ∧ Drawn0 w w')
    case atStart => exact ⟨(0), (by first | rfl | (simp; done) | (simp [*]; done)), H', ⟨Nat.le_refl _⟩, by repeat (first | exact Drawn0.refl _ | apply Drawn0.step)⟩
    case round =>
     clear H'; (try clear c3); (try clear c3b0); (try clear c3b1); (try clear c4); obtain ⟨x13_2, rfl, HA, HK2, ⟨m2, rfl⟩⟩ := hrel; cases gk with
     | zero => exact absurd HA.out (by simp [fnv_Key.l0])
     | succ k2 =>
      have H := HA.out; clear HA; simp only [fnv_Key.l0] at H
      by_cases c5 : x13_2 < (a0.size : Int)
      ·rw [if_pos c5] at H; have c5b0 : decide (x13_2 < (a0.size : Int)) = true := decide_eq_true c5; clear c5
       by_cases c6 : 0 ≤ x13_2
       ·rw [if_pos c6] at H; have c6b0 : decide (0 ≤ x13_2) = true := decide_eq_true c6; clear c6
        by_cases c7 : x13_2 < (a0.size : Int)
        ·rw [if_pos c7] at H; have c7b0 : decide (x13_2 < (a0.size : Int)) = true := decide_eq_true c7; clear c7
         by_cases c9 : (bt a0 x13_2) < 33
         ·rw [if_pos c9] at H; have c9b0 : decide ((bt a0 x13_2) < 33) = true := decide_eq_true c9; clear c9; obtain rfl := Option.some.inj H; have p8 : 0 ≤ (x13_2 : Int) := of_decide_eq_true (by first | (with_reducible assumption) | assumption); have q8 : x13_2 < (a0.size : Int) := of_decide_eq_true (by first | (with_reducible assumption) | assumption)
          have hx8 := bt_at a0 x13_2; replace p8 := eq_true p8; replace q8 := eq_true q8; go_wp2; go_ret
          exact ⟨by first | rfl | (simp; done) | (simp [*]; done), by repeat (first | exact Drawn0.refl _ | apply Drawn0.step)⟩
         ·rw [if_neg c9] at H; have c9b0 : decide ((bt a0 x13_2) < 33) = false := decide_eq_false c9; clear c9
          by_cases c11 : (bt a0 x13_2) > 126
          ·rw [if_pos c11] at H; have c11b0 : decide (126 < (bt a0 x13_2)) = true := decide_eq_true c11; clear c11; obtain rfl := Option.some.inj H; have p8 : 0 ≤ (x13_2 : Int) := of_decide_eq_true (by first | (with_reducible assumption) | assumption); have q8 : x13_2 < (a0.size : Int) := of_decide_eq_true (by first | (with_reducible assumption) | assumption)
           have hx8 := bt_at a0 x13_2; replace p8 := eq_true p8; replace q8 := eq_true q8; have p10 : 0 ≤ (x13_2 : Int) := of_decide_eq_true (by first | (with_reducible assumption) | assumption); have q10 : x13_2 < (a0.size : Int) := of_decide_eq_true (by first | (with_reducible assumption) | assumption)
           have hx10 := bt_at a0 x13_2; replace p10 := eq_true p10; replace q10 := eq_true q10; go_wp2; go_ret
           exact ⟨by first | rfl | (simp; done) | (simp [*]; done), by repeat (first | exact Drawn0.refl _ | apply Drawn0.step)⟩
          ·rw [if_neg c11] at H; have c11b0 : decide (126 < (bt a0 x13_2)) = false := decide_eq_false c11; clear c11; have H' := Aside0.mk H; clear H; have p8 : 0 ≤ (x13_2 : Int) := of_decide_eq_true (by first | (with_reducible assumption) | assumption); have q8 : x13_2 < (a0.size : Int) := of_decide_eq_true (by first | (with_reducible assumption) | assumption)
           have hx8 := bt_at a0 x13_2; replace p8 := eq_true p8; replace q8 := eq_true q8; have p10 : 0 ≤ (x13_2 : Int) := of_decide_eq_true (by first | (with_reducible assumption) | assumption); have q10 : x13_2 < (a0.size : Int) := of_decide_eq_true (by first | (with_reducible assumption) | assumption)
           have hx10 := bt_at a0 x13_2; replace p10 := eq_true p10; replace q10 := eq_true q10; go_wp2
           go_roundg k2
           case measure => have := HJ1.out; have := HK2.out; omega
           case rel => exact ⟨(wrap64 (x13_2 + 1)), (by first | rfl | (simp; done) | (simp [*]; done)), H', ⟨by have := HJ1.out; have := HK2.out; omega⟩, by repeat (first | exact Drawn0.refl _ | apply Drawn0.step)⟩
        ·rw [if_neg c7] at H; exact absurd H (by simp)
       ·rw [if_neg c6] at H; exact absurd H (by simp)
      ·rw [if_neg c5] at H; have c5b0 : decide (x13_2 < (a0.size : Int)) = false := decide_eq_false c5; clear c5; obtain rfl := Option.some.inj H; go_wp2; go_ret
       exact ⟨by first | rfl | (simp; done) | (simp [*]; done), by repeat (first | exact Drawn0.refl _ | apply Drawn0.step)⟩

/-! ### verb_Check_1: function 55 -/
def verb_Check_1.f (k : Nat) (a0 : ByteArray) : Option (Bool) := (fnv_Key.f k a0).bind fun t104 => (some (!t104))
theorem verb_Check_1.mono : ∀ a0 k, LeO (verb_Check_1.f k a0) (verb_Check_1.f (k + 1) a0) := by
 intro a0 k
 unfold verb_Check_1.f
 repeat' first | (with_reducible first | apply fnv_Key.mono | exact LeO.refl _ | exact LeO.none _ | refine LeO.ite ?_ ?_ | refine LeO.bind ?_ (fun _ => ?_)) | apply fnv_Key.mono | exact LeO.none _ | refine LeO.ite ?_ ?_ | refine LeO.bind ?_ (fun _ => ?_)
set_option maxHeartbeats 8000000 in
set_option maxRecDepth 100000 in
theorem verb_Check_1.calls (k : Nat) (a0 : ByteArray) (r : Bool) (w : World) (h : verb_Check_1.f k a0 = some r) :
  Calls Tryd.prog 55 #[.string a0] w fun e w' => e = .returned (.bool r) ∧ Drawn0 w w' := by
 have H : ((fnv_Key.f k a0).bind fun t104 => (some (!t104))) = some r := h; clear h; replace H := Option.bind_eq_some_iff.mp H; obtain ⟨t104, A20, H⟩ := H; (try dsimp only at H); have A2 := Aside0.mk A20; clear A20; obtain rfl := Option.some.inj H; go_enter Tryd.func55, Tryd.ntmps55
 go_wp2_with (first | ((with_reducible refine gate_callee (f := 56) rfl ?_); refine goesL_ (some 4) rfl rfl Tryd.func56 (by kernel_rfl) rfl #[.string a0] rfl (by (try simp only [List.map_toArray, List.map_cons, List.map_nil]); first | done | rfl | (simp only [List.length_drop, List.length_take]; rfl)) ?_; (with_reducible refine (fnv_Key.calls k a0 t104 _ A2.out).mono ?_); rintro e w' ⟨rfl, ⟨nd, rfl⟩⟩; refine ⟨_, rfl, ?_⟩))
 go_ret
 exact ⟨by first | rfl | (simp; done) | (simp [*]; done), by repeat (first | exact Drawn0.refl _ | apply Drawn0.step)⟩

-- NOT PRINTED: function 69 (slices_IndexFunc_string_string)

end Go.Proofs.YtbfgopinbpbddaaDoor.P
