/- Lean functions for the Go functions that the laws of this seat use, and the proofs that the Go code computes them; conditions: the readings that each theorem names. Written by a program. -/
import Derived.Test.YtdgpagocccabdaaDoorPx0
import Derived.Test.YtdgpagocccabdaaDoorLaws
import Derived.Test.YtdgpagocccabdaaDoorPx17
import Derived.Test.YtdgpagocccabdaaDoorShort
namespace Go.Proofs.YtdgpagocccabdaaDoor.P
open Go.RowKit Go.Proofs.YtdgpagocccabdaaDoorW.PrintWords Go.Proofs.YtdgpagocccabdaaDoorW.PrintLast Go.Proofs.YtdgpagocccabdaaDoorW.PrintMore
set_option linter.unusedVariables false
set_option linter.unusedSimpArgs false

/-! ### reply_number: function 30 -/
def reply_number.f (a0 : ByteArray) (a1 : Int) : Option (Int × Bool) := (digits_Parse.f a0).bind fun bt140 => (if bt140.2 = 0 then (if bt140.1 ≤ a1 then ((digits_Text.f bt140.1).bind fun t142 => (some (bt140.1, (t142.toList == a0.toList)))) else (some (bt140.1, false))) else (some (bt140.1, false)))
set_option maxHeartbeats 8000000 in
set_option maxRecDepth 100000 in
theorem reply_number.calls (a0 : ByteArray) (a1 : Int) (r1 : Int) (r2 : Bool) (w : World) (h : reply_number.f a0 a1 = some (r1, r2)) (hL : LdS w) :
  Calls Tryd.prog 30 #[.string a0, .int .u64 a1] w fun e w' => e = .returned (.tuple #[.int .u64 r1, .bool r2]) ∧ Below w.heap.size w w' := by
 have HL := Aside0.mk hL; clear hL; have HB := Aside0.mk (Below.refl w.heap.size w); have H : ((digits_Parse.f a0).bind fun bt140 => (if bt140.2 = 0 then (if bt140.1 ≤ a1 then ((digits_Text.f bt140.1).bind fun t142 => (some (bt140.1, (t142.toList == a0.toList)))) else (some (bt140.1, false))) else (some (bt140.1, false)))) = some (r1, r2) := h; clear h; replace H := Option.bind_eq_some_iff.mp H; obtain ⟨⟨t140, t141⟩, A30, H⟩ := H; (try dsimp only at H); have A3 := Aside0.mk A30; clear A30
 by_cases c4 : t141 = 0
 ·rw [if_pos c4] at H; have c4b0 : (t141 == 0) = true := beq_iff_eq.mpr c4; have c4b1 : (t141 != 0) = false := bne_eq_false_iff_eq.mpr c4; clear c4
  by_cases c5 : t140 ≤ a1
  ·rw [if_pos c5] at H; have c5b0 : decide (t140 ≤ a1) = true := decide_eq_true c5; clear c5; replace H := Option.bind_eq_some_iff.mp H; obtain ⟨t142, A60, H⟩ := H; (try dsimp only at H); have A6 := Aside0.mk A60; clear A60; simp only [Option.some.injEq, Prod.mk.injEq] at H; obtain ⟨rfl, rfl⟩ := H; go_enter Tryd.func30, Tryd.ntmps30
   go_wp2_with (first | ((with_reducible refine gate_callee (f := 40) rfl ?_); refine goesL_ (some 10) rfl rfl Tryd.func40 (by kernel_rfl) rfl #[.string a0] rfl (by (try simp only [List.map_toArray, List.map_cons, List.map_nil]); first | done | rfl | (simp only [List.length_drop, List.length_take]; rfl)) ?_; (with_reducible refine (digits_Parse.calls a0 t140 t141 _ A3.out (by first | exact HL.out | exact LdS.on HL.out (bH HB.out))).mono ?_); rintro e w7 ⟨rfl, hb⟩; refine ⟨_, rfl, ?_⟩; replace HB := rS HB hb; (try clear hb); ) | (go_at_call 21; (with_reducible refine (digits_Text.calls t140 t142 _ A6.out (by first | exact (LdS.t HL.out) | exact LdT.on (LdS.t HL.out) (bH HB.out))).mono ?_); rintro e w8 ⟨rfl, hb⟩; replace HB := rS HB hb; (try clear hb); ))
   go_ret2
   exact ⟨xR, bH HB.out⟩
  ·rw [if_neg c5] at H; have c5b0 : decide (t140 ≤ a1) = false := decide_eq_false c5; clear c5; simp only [Option.some.injEq, Prod.mk.injEq] at H; obtain ⟨rfl, rfl⟩ := H; go_enter Tryd.func30, Tryd.ntmps30
   go_wp2_with (first | ((with_reducible refine gate_callee (f := 40) rfl ?_); refine goesL_ (some 10) rfl rfl Tryd.func40 (by kernel_rfl) rfl #[.string a0] rfl (by (try simp only [List.map_toArray, List.map_cons, List.map_nil]); first | done | rfl | (simp only [List.length_drop, List.length_take]; rfl)) ?_; (with_reducible refine (digits_Parse.calls a0 t140 t141 _ A3.out (by first | exact HL.out | exact LdS.on HL.out (bH HB.out))).mono ?_); rintro e w9 ⟨rfl, hb⟩; refine ⟨_, rfl, ?_⟩; replace HB := rS HB hb; (try clear hb); ))
   go_ret2
   exact ⟨xR, bH HB.out⟩
 ·rw [if_neg c4] at H; have c4b0 : (t141 == 0) = false := beq_eq_false_iff_ne.mpr c4; have c4b1 : (t141 != 0) = true := bne_iff_ne.mpr c4; simp only [Option.some.injEq, Prod.mk.injEq] at H; obtain ⟨rfl, rfl⟩ := H; go_enter Tryd.func30, Tryd.ntmps30
  go_wp2_with (first | ((with_reducible refine gate_callee (f := 40) rfl ?_); refine goesL_ (some 10) rfl rfl Tryd.func40 (by kernel_rfl) rfl #[.string a0] rfl (by (try simp only [List.map_toArray, List.map_cons, List.map_nil]); first | done | rfl | (simp only [List.length_drop, List.length_take]; rfl)) ?_; (with_reducible refine (digits_Parse.calls a0 t140 t141 _ A3.out (by first | exact HL.out | exact LdS.on HL.out (bH HB.out))).mono ?_); rintro e w10 ⟨rfl, hb⟩; refine ⟨_, rfl, ?_⟩; replace HB := rS HB hb; (try clear hb); ))
  go_ret2
  exact ⟨xR, bH HB.out⟩

-- NOT PRINTED: function 52 (stringslite_HasPrefix)

-- NOT PRINTED: function 41 (stringslite_CutPrefix)

end Go.Proofs.YtdgpagocccabdaaDoor.P
