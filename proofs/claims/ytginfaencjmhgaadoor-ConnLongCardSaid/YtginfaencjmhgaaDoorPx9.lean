/- Lean functions for the Go functions that the laws of this seat use, and the proofs that the Go code computes them; conditions: the readings that each theorem names. Written by a program. -/
import Derived.Test.YtginfaencjmhgaaDoorPx0
import Derived.Test.YtginfaencjmhgaaDoorPx5
import Derived.Test.YtginfaencjmhgaaDoorPx6
import Derived.Test.YtginfaencjmhgaaDoorPx8
import Derived.Test.YtginfaencjmhgaaDoorShort
namespace Go.Proofs.YtginfaencjmhgaaDoor.P
open Go.RowKit Go.Proofs.YtginfaencjmhgaaDoorW.PrintWords Go.Proofs.YtginfaencjmhgaaDoorW.PrintLast Go.Proofs.YtginfaencjmhgaaDoorW.PrintMore
attribute [local go_sem] min2_int min_two
set_option linter.unusedVariables false
set_option linter.unusedSimpArgs false

/-! ### digits_Signed: function 45 -/
def digits_Signed.j0 : Nat → Bool → Int → Int → Option (Int × Int)
 | 0, _, _, _ => none
 | k + 1, x5, x6, x8 => if x6 > x8 then (some (0, 1)) else (if x5 = true then (some (wrap64 (IntKind.u64.wrap (-x6)), 0)) else (some (wrap64 (x6), 0)))
def digits_Signed.f (k : Nat) (a0 : ByteArray) : Option (Int × Int) := (strings_CutPrefix.f a0 (⟨#[45]⟩ : ByteArray)).bind fun bt103 => ((digits_Parse.f bt103.1).bind fun bt105 => (if bt105.2 = 0 then (if bt103.2 = true then (digits_Signed.j0 k bt103.2 bt105.1 (9223372036854775807 + 1)) else (digits_Signed.j0 k bt103.2 bt105.1 9223372036854775807)) else (some (0, bt105.2))))
theorem digits_Signed.mono_l : ∀ k, (∀ y0 y1 y2, LeO (digits_Signed.j0 k y0 y1 y2) (digits_Signed.j0 (k + 1) y0 y1 y2))
 | 0 => fun _ _ _ r h => by simp [digits_Signed.j0] at h
 | k + 1 => by
  have ih0 := digits_Signed.mono_l k
  ·intro y0 y1 y2
   unfold digits_Signed.j0
   repeat' first | (with_reducible first | apply ih0 | exact LeO.refl _ | exact LeO.none _ | refine LeO.ite ?_ ?_ | refine LeO.bind ?_ (fun _ => ?_)) | apply ih0 | exact LeO.none _ | refine LeO.ite ?_ ?_ | refine LeO.bind ?_ (fun _ => ?_)
theorem digits_Signed.mono : ∀ a0 k, LeO (digits_Signed.f k a0) (digits_Signed.f (k + 1) a0) := by
 intro a0 k
 have ih0 := digits_Signed.mono_l k; unfold digits_Signed.f
 repeat' first | (with_reducible first | apply ih0 | exact LeO.refl _ | exact LeO.none _ | refine LeO.ite ?_ ?_ | refine LeO.bind ?_ (fun _ => ?_)) | apply ih0 | exact LeO.none _ | refine LeO.ite ?_ ?_ | refine LeO.bind ?_ (fun _ => ?_)
set_option maxHeartbeats 8000000 in
set_option maxRecDepth 100000 in
theorem digits_Signed.calls (k : Nat) (a0 : ByteArray) (r1 : Int) (r2 : Int) (w : World) (h : digits_Signed.f k a0 = some (r1, r2)) (hL : LdS w) :
  Calls Tryd.prog 45 #[.string a0] w fun e w' => e = .returned (.tuple #[.int .i64 r1, .int .i64 r2]) ∧ Below w.heap.size w w' := by
 have HL := Aside0.mk hL; clear hL; have HB := Aside0.mk (Below.refl w.heap.size w); have H : ((strings_CutPrefix.f a0 (⟨#[45]⟩ : ByteArray)).bind fun bt103 => ((digits_Parse.f bt103.1).bind fun bt105 => (if bt105.2 = 0 then (if bt103.2 = true then (digits_Signed.j0 k bt103.2 bt105.1 (9223372036854775807 + 1)) else (digits_Signed.j0 k bt103.2 bt105.1 9223372036854775807)) else (some (0, bt105.2))))) = some (r1, r2) := h; clear h; replace H := Option.bind_eq_some_iff.mp H; obtain ⟨⟨t103, t104⟩, A20, H⟩ := H; (try dsimp only at H); have A2 := Aside0.mk A20; clear A20; replace H := Option.bind_eq_some_iff.mp H; obtain ⟨⟨t105, t106⟩, A30, H⟩ := H; (try dsimp only at H); have A3 := Aside0.mk A30; clear A30
 by_cases c4 : t106 = 0
 ·rw [if_pos c4] at H; have c4b0 : (t106 == 0) = true := beq_iff_eq.mpr c4; have c4b1 : (t106 != 0) = false := bne_eq_false_iff_eq.mpr c4; clear c4; have HC5 := Aside0.mk H; clear H; go_enter Tryd.func45, Tryd.ntmps45
  go_upto_if 22 with (first | ((with_reducible refine gate_callee (f := 50) rfl ?_); refine goesL_ (some 11) rfl rfl Tryd.func50 (by kernel_rfl) rfl #[.string a0, .string (⟨#[45]⟩ : ByteArray)] rfl (by (try simp only [List.map_toArray, List.map_cons, List.map_nil]); first | done | rfl | (simp only [List.length_drop, List.length_take]; rfl)) ?_; (with_reducible refine (strings_CutPrefix.calls a0 (⟨#[45]⟩ : ByteArray) t103 t104 _ A2.out).mono ?_); rintro e w6 ⟨rfl, hb⟩; refine ⟨_, rfl, ?_⟩; replace HB := rS HB hb; (try clear hb); ) | ((with_reducible refine gate_callee (f := 48) rfl ?_); refine goesL_ (some 16) rfl rfl Tryd.func48 (by kernel_rfl) rfl #[.string t103] rfl (by (try simp only [List.map_toArray, List.map_cons, List.map_nil]); first | done | rfl | (simp only [List.length_drop, List.length_take]; rfl)) ?_; (with_reducible refine (digits_Parse.calls t103 t105 t106 _ A3.out (by first | exact HL.out | exact LdS.on HL.out (bH HB.out))).mono ?_); rintro e w7 ⟨rfl, hb⟩; refine ⟨_, rfl, ?_⟩; replace HB := rS HB hb; (try clear hb); ))
  (try simp only [Act.put, sA, sB, sC])
  go_cut [8] (fun v8 wc => ∃ (kq : Nat) (x8_4 : Int), v8 = .int .u64 x8_4 ∧ Aside0 (digits_Signed.j0 kq t104 t105 x8_4 = some (r1, r2)) ∧ Aside0 (kq ≤ k) ∧ Aside0 (Below w.heap.size w wc))
  case first =>
   have H := HC5.out; clear HC5
   by_cases c8 : t104 = true
   ·subst c8; rw [if_pos rfl] at H; have H' := Aside0.mk H; clear H; go_wp2
    go_meet
    case rel => exact ⟨_, (9223372036854775807 + 1), (by first | rfl | (simp; done) | (simp [*]; done)), H', ⟨by first | omega | exact Nat.le_refl _⟩, ⟨bH HB.out⟩⟩
   ·replace c8 := Bool.eq_false_iff.mpr c8; subst c8; rw [if_neg (show ¬ (false = true) by decide)] at H; have H' := Aside0.mk H; clear H; go_wp2
    go_meet
    case rel => exact ⟨_, (9223372036854775807), (by first | rfl | (simp; done) | (simp [*]; done)), H', ⟨by first | omega | exact Nat.le_refl _⟩, ⟨bH HB.out⟩⟩
  case rest =>
   clear HC5; (try clear c4); (try clear c4b0); (try clear c4b1); (try clear c8); obtain ⟨kq, x8_4, rfl, HA, HJ4, HB⟩ := hcut; cases kq with
   | zero => exact absurd HA.out (by simp [digits_Signed.j0])
   | succ kj4 =>
    have H := HA.out; clear HA; simp only [digits_Signed.j0] at H
    by_cases c9 : t105 > x8_4
    ·rw [if_pos c9] at H; have c9b0 : decide (x8_4 < t105) = true := decide_eq_true c9; clear c9; simp only [Option.some.injEq, Prod.mk.injEq] at H; obtain ⟨rfl, rfl⟩ := H; go_wp2
     go_ret2
     exact ⟨xR, bH HB.out⟩
    ·rw [if_neg c9] at H; have c9b0 : decide (x8_4 < t105) = false := decide_eq_false c9; clear c9
     by_cases c10 : t104 = true
     ·subst c10; rw [if_pos rfl] at H; simp only [Option.some.injEq, Prod.mk.injEq] at H; obtain ⟨rfl, rfl⟩ := H; go_wp2
      go_ret2
      exact ⟨xR, bH HB.out⟩
     ·replace c10 := Bool.eq_false_iff.mpr c10; subst c10; rw [if_neg (show ¬ (false = true) by decide)] at H; simp only [Option.some.injEq, Prod.mk.injEq] at H; obtain ⟨rfl, rfl⟩ := H; go_wp2
      go_ret2
      exact ⟨xR, bH HB.out⟩
 ·rw [if_neg c4] at H; have c4b0 : (t106 == 0) = false := beq_eq_false_iff_ne.mpr c4; have c4b1 : (t106 != 0) = true := bne_iff_ne.mpr c4; simp only [Option.some.injEq, Prod.mk.injEq] at H; obtain ⟨rfl, rfl⟩ := H; go_enter Tryd.func45, Tryd.ntmps45
  go_wp2_with (first | ((with_reducible refine gate_callee (f := 50) rfl ?_); refine goesL_ (some 11) rfl rfl Tryd.func50 (by kernel_rfl) rfl #[.string a0, .string (⟨#[45]⟩ : ByteArray)] rfl (by (try simp only [List.map_toArray, List.map_cons, List.map_nil]); first | done | rfl | (simp only [List.length_drop, List.length_take]; rfl)) ?_; (with_reducible refine (strings_CutPrefix.calls a0 (⟨#[45]⟩ : ByteArray) t103 t104 _ A2.out).mono ?_); rintro e w11 ⟨rfl, hb⟩; refine ⟨_, rfl, ?_⟩; replace HB := rS HB hb; (try clear hb); ) | ((with_reducible refine gate_callee (f := 48) rfl ?_); refine goesL_ (some 16) rfl rfl Tryd.func48 (by kernel_rfl) rfl #[.string t103] rfl (by (try simp only [List.map_toArray, List.map_cons, List.map_nil]); first | done | rfl | (simp only [List.length_drop, List.length_take]; rfl)) ?_; (with_reducible refine (digits_Parse.calls t103 t105 t106 _ A3.out (by first | exact HL.out | exact LdS.on HL.out (bH HB.out))).mono ?_); rintro e w12 ⟨rfl, hb⟩; refine ⟨_, rfl, ?_⟩; replace HB := rS HB hb; (try clear hb); ))
  go_ret2
  exact ⟨xR, bH HB.out⟩

-- NOT PRINTED: function 36 (line_reader_signed)

/-! ### line_reader_done: function 38 -/
/-! ### line_timed: function 43 -/
def line_timed.f (a0 : Int) : Option (Bool) := if a0 = 3 then (some true) else (some (a0 == 4))
set_option maxHeartbeats 8000000 in
set_option maxRecDepth 100000 in
theorem line_timed.calls (a0 : Int) (r : Bool) (w : World) (h : line_timed.f a0 = some r) :
  Calls Tryd.prog 43 #[.int .i64 a0] w fun e w' => e = .returned (.bool r) ∧ Drawn0 w w' := by
 have H : (if a0 = 3 then (some true) else (some (a0 == 4))) = some r := h; clear h
 by_cases c2 : a0 = 3
 ·rw [if_pos c2] at H; have c2b0 : (a0 == 3) = true := beq_iff_eq.mpr c2; have c2b1 : (a0 != 3) = false := bne_eq_false_iff_eq.mpr c2; clear c2; obtain rfl := Option.some.inj H; go_enter Tryd.func43, Tryd.ntmps43; go_wp2; go_ret
  exact ⟨by first | rfl | (simp; done) | (simp [*]; done), by repeat (first | exact Drawn0.refl _ | apply Drawn0.step)⟩
 ·rw [if_neg c2] at H; have c2b0 : (a0 == 3) = false := beq_eq_false_iff_ne.mpr c2; have c2b1 : (a0 != 3) = true := bne_iff_ne.mpr c2; obtain rfl := Option.some.inj H; go_enter Tryd.func43, Tryd.ntmps43; go_wp2; go_ret
  exact ⟨by first | rfl | (simp; done) | (simp [*]; done), by repeat (first | exact Drawn0.refl _ | apply Drawn0.step)⟩

-- NOT PRINTED: function 31 (line_reads)

end Go.Proofs.YtginfaencjmhgaaDoor.P
