/- Lean functions for the Go functions that the laws of this seat use, and the proofs that the Go code computes them; conditions: the readings that each theorem names. Written by a program. -/
import Derived.Test.YtbfgopinbpbddaaDoorPx0
import Derived.Test.YtbfgopinbpbddaaDoorPx23
import Derived.Test.YtbfgopinbpbddaaDoorPx24
import Derived.Test.YtbfgopinbpbddaaDoorPx26
import Derived.Test.YtbfgopinbpbddaaDoorShort
namespace Go.Proofs.YtbfgopinbpbddaaDoor.P
open Go.RowKit Go.Proofs.YtbfgopinbpbddaaDoorW.PrintWords Go.Proofs.YtbfgopinbpbddaaDoorW.PrintLast Go.Proofs.YtbfgopinbpbddaaDoorW.PrintMore
set_option linter.unusedVariables false
set_option linter.unusedSimpArgs false

/-! ### digits_Signed: function 66 -/
def digits_Signed.j0 : Nat → Bool → Int → Int → Option (Int × Int)
 | 0, _, _, _ => none
 | k + 1, x5, x6, x8 => if x6 > x8 then (some (0, 1)) else (if x5 = true then (some (wrap64 (IntKind.u64.wrap (-x6)), 0)) else (some (wrap64 (x6), 0)))
def digits_Signed.f (k : Nat) (a0 : ByteArray) : Option (Int × Int) := (strings_CutPrefix.f a0 (⟨#[45]⟩ : ByteArray)).bind fun bt224 => ((digits_Parse.f bt224.1).bind fun bt226 => (if bt226.2 = 0 then (if bt224.2 = true then (digits_Signed.j0 k bt224.2 bt226.1 (9223372036854775807 + 1)) else (digits_Signed.j0 k bt224.2 bt226.1 9223372036854775807)) else (some (0, bt226.2))))
theorem digits_Signed.mono_l : ∀ k, (∀ y0 y1 y2, LeO (digits_Signed.j0 k y0 y1 y2) (digits_Signed.j0 (k + 1) y0 y1 y2))
 | 0 => fun _ _ _ r h => by simp [digits_Signed.j0] at h
 | k + 1 => by
  have ih0 := digits_Signed.mono_l k
  ·intro y0 y1 y2
   unfold digits_Signed.j0
   repeat' first | (with_reducible first | apply ih0 | exact LeO.refl _ | exact LeO.none _ | refine LeO.ite ?_ ?_ | refine LeO.bind ?_ (fun _ => ?_)) | apply ih0 | exact LeO.none _ | refine LeO.ite ?_ ?_ | refine LeO.bind ?_ (fun _ => ?_)
theorem digits_Signed.mono : ∀ a0 k, LeO (digits_Signed.f k a0) (digits_Signed.f (k + 1) a0) := by
 intro a0 k
 have ih0 := digits_Signed.mono_l k; unfold digits_Signed.f
 repeat' first | (with_reducible first | apply ih0 | exact LeO.refl _ | exact LeO.none _ | refine LeO.ite ?_ ?_ | refine LeO.bind ?_ (fun _ => ?_)) | apply ih0 | exact LeO.none _ | refine LeO.ite ?_ ?_ | refine LeO.bind ?_ (fun _ => ?_)
set_option maxHeartbeats 8000000 in
set_option maxRecDepth 100000 in
theorem digits_Signed.calls (k : Nat) (a0 : ByteArray) (r1 : Int) (r2 : Int) (w : World) (h : digits_Signed.f k a0 = some (r1, r2)) (hL : LdS w) :
  Calls Tryd.prog 66 #[.string a0] w fun e w' => e = .returned (.tuple #[.int .i64 r1, .int .i64 r2]) ∧ Below w.heap.size w w' := by
 have HL := Aside0.mk hL; clear hL; have HB := Aside0.mk (Below.refl w.heap.size w); have H : ((strings_CutPrefix.f a0 (⟨#[45]⟩ : ByteArray)).bind fun bt224 => ((digits_Parse.f bt224.1).bind fun bt226 => (if bt226.2 = 0 then (if bt224.2 = true then (digits_Signed.j0 k bt224.2 bt226.1 (9223372036854775807 + 1)) else (digits_Signed.j0 k bt224.2 bt226.1 9223372036854775807)) else (some (0, bt226.2))))) = some (r1, r2) := h; clear h; replace H := Option.bind_eq_some_iff.mp H; obtain ⟨⟨t224, t225⟩, A20, H⟩ := H; (try dsimp only at H); have A2 := Aside0.mk A20; clear A20; replace H := Option.bind_eq_some_iff.mp H; obtain ⟨⟨t226, t227⟩, A30, H⟩ := H; (try dsimp only at H); have A3 := Aside0.mk A30; clear A30
 by_cases c4 : t227 = 0
 ·rw [if_pos c4] at H; have c4b0 : (t227 == 0) = true := beq_iff_eq.mpr c4; have c4b1 : (t227 != 0) = false := bne_eq_false_iff_eq.mpr c4; clear c4; have HC5 := Aside0.mk H; clear H; go_enter Tryd.func66, Tryd.ntmps66
  go_upto_if 22 with (first | ((with_reducible refine gate_callee (f := 74) rfl ?_); refine goesL_ (some 11) rfl rfl Tryd.func74 (by kernel_rfl) rfl #[.string a0, .string (⟨#[45]⟩ : ByteArray)] rfl (by (try simp only [List.map_toArray, List.map_cons, List.map_nil]); first | done | rfl | (simp only [List.length_drop, List.length_take]; rfl)) ?_; (with_reducible refine (strings_CutPrefix.calls a0 (⟨#[45]⟩ : ByteArray) t224 t225 _ A2.out).mono ?_); rintro e w6 ⟨rfl, hb⟩; refine ⟨_, rfl, ?_⟩; replace HB := rS HB hb; (try clear hb); ) | ((with_reducible refine gate_callee (f := 68) rfl ?_); refine goesL_ (some 16) rfl rfl Tryd.func68 (by kernel_rfl) rfl #[.string t224] rfl (by (try simp only [List.map_toArray, List.map_cons, List.map_nil]); first | done | rfl | (simp only [List.length_drop, List.length_take]; rfl)) ?_; (with_reducible refine (digits_Parse.calls t224 t226 t227 _ A3.out (by first | exact HL.out | exact LdS.on HL.out (bH HB.out))).mono ?_); rintro e w7 ⟨rfl, hb⟩; refine ⟨_, rfl, ?_⟩; replace HB := rS HB hb; (try clear hb); ))
  (try simp only [Act.put, sA, sB, sC])
  go_cut [8] (fun v8 wc => ∃ (kq : Nat) (x8_4 : Int), v8 = .int .u64 x8_4 ∧ Aside0 (digits_Signed.j0 kq t225 t226 x8_4 = some (r1, r2)) ∧ Aside0 (kq ≤ k) ∧ Aside0 (Below w.heap.size w wc))
  case first =>
   have H := HC5.out; clear HC5
   by_cases c8 : t225 = true
   ·subst c8; rw [if_pos rfl] at H; have H' := Aside0.mk H; clear H; go_wp2
    go_meet
    case rel => exact ⟨_, (9223372036854775807 + 1), (by first | rfl | (simp; done) | (simp [*]; done)), H', ⟨by first | omega | exact Nat.le_refl _⟩, ⟨bH HB.out⟩⟩
   ·replace c8 := Bool.eq_false_iff.mpr c8; subst c8; rw [if_neg (show ¬ (false = true) by decide)] at H; have H' := Aside0.mk H; clear H; go_wp2
    go_meet
    case rel => exact ⟨_, (9223372036854775807), (by first | rfl | (simp; done) | (simp [*]; done)), H', ⟨by first | omega | exact Nat.le_refl _⟩, ⟨bH HB.out⟩⟩
  case rest =>
   clear HC5; (try clear c4); (try clear c4b0); (try clear c4b1); (try clear c8); obtain ⟨kq, x8_4, rfl, HA, HJ4, HB⟩ := hcut; cases kq with
   | zero => exact absurd HA.out (by simp [digits_Signed.j0])
   | succ kj4 =>
    have H := HA.out; clear HA; simp only [digits_Signed.j0] at H
    by_cases c9 : t226 > x8_4
    ·rw [if_pos c9] at H; have c9b0 : decide (x8_4 < t226) = true := decide_eq_true c9; clear c9; simp only [Option.some.injEq, Prod.mk.injEq] at H; obtain ⟨rfl, rfl⟩ := H; go_wp2
     go_ret2
     exact ⟨xR, bH HB.out⟩
    ·rw [if_neg c9] at H; have c9b0 : decide (x8_4 < t226) = false := decide_eq_false c9; clear c9
     by_cases c10 : t225 = true
     ·subst c10; rw [if_pos rfl] at H; simp only [Option.some.injEq, Prod.mk.injEq] at H; obtain ⟨rfl, rfl⟩ := H; go_wp2
      go_ret2
      exact ⟨xR, bH HB.out⟩
     ·replace c10 := Bool.eq_false_iff.mpr c10; subst c10; rw [if_neg (show ¬ (false = true) by decide)] at H; simp only [Option.some.injEq, Prod.mk.injEq] at H; obtain ⟨rfl, rfl⟩ := H; go_wp2
      go_ret2
      exact ⟨xR, bH HB.out⟩
 ·rw [if_neg c4] at H; have c4b0 : (t227 == 0) = false := beq_eq_false_iff_ne.mpr c4; have c4b1 : (t227 != 0) = true := bne_iff_ne.mpr c4; simp only [Option.some.injEq, Prod.mk.injEq] at H; obtain ⟨rfl, rfl⟩ := H; go_enter Tryd.func66, Tryd.ntmps66
  go_wp2_with (first | ((with_reducible refine gate_callee (f := 74) rfl ?_); refine goesL_ (some 11) rfl rfl Tryd.func74 (by kernel_rfl) rfl #[.string a0, .string (⟨#[45]⟩ : ByteArray)] rfl (by (try simp only [List.map_toArray, List.map_cons, List.map_nil]); first | done | rfl | (simp only [List.length_drop, List.length_take]; rfl)) ?_; (with_reducible refine (strings_CutPrefix.calls a0 (⟨#[45]⟩ : ByteArray) t224 t225 _ A2.out).mono ?_); rintro e w11 ⟨rfl, hb⟩; refine ⟨_, rfl, ?_⟩; replace HB := rS HB hb; (try clear hb); ) | ((with_reducible refine gate_callee (f := 68) rfl ?_); refine goesL_ (some 16) rfl rfl Tryd.func68 (by kernel_rfl) rfl #[.string t224] rfl (by (try simp only [List.map_toArray, List.map_cons, List.map_nil]); first | done | rfl | (simp only [List.length_drop, List.length_take]; rfl)) ?_; (with_reducible refine (digits_Parse.calls t224 t226 t227 _ A3.out (by first | exact HL.out | exact LdS.on HL.out (bH HB.out))).mono ?_); rintro e w12 ⟨rfl, hb⟩; refine ⟨_, rfl, ?_⟩; replace HB := rS HB hb; (try clear hb); ))
  go_ret2
  exact ⟨xR, bH HB.out⟩

-- NOT PRINTED: function 38 (line_reader_signed)

/-! ### line_reader_done: function 40 -/
-- NOT PRINTED: function 34 (line_reads)

end Go.Proofs.YtbfgopinbpbddaaDoor.P
