/- Lean functions for the Go functions that the laws of this seat use, and the proofs that the Go code computes them; conditions: the readings that each theorem names. Written by a program. -/
import Derived.Test.YtbaegkghngbecaaDoorPx0
import Derived.Test.YtbaegkghngbecaaDoorPx10
import Derived.Test.YtbaegkghngbecaaDoorPx11
import Derived.Test.YtbaegkghngbecaaDoorPx13
import Derived.Test.YtbaegkghngbecaaDoorShort
namespace Go.Proofs.YtbaegkghngbecaaDoor.P
open Go.RowKit Go.Proofs.YtbaegkghngbecaaDoorW.PrintWords Go.Proofs.YtbaegkghngbecaaDoorW.PrintLast Go.Proofs.YtbaegkghngbecaaDoorW.PrintMore
set_option linter.unusedVariables false
set_option linter.unusedSimpArgs false

/-! ### tallboylaw02_DigitsReads: function 4 -/
def tallboylaw02_DigitsReads.f (k : Nat) (a0 : ByteArray) : Option (Bool) := if (a0.size : Int) > 10000 then (some true) else ((digits_Parse.f a0).bind fun bt158 => ((tallboyref02_Parse.f k a0).bind fun bt160 => ((digits_Signed.f k a0).bind fun bt162 => ((tallboyref02_Signed.f k a0).bind fun bt164 => (if bt158.1 = bt160.1 then (if bt158.2 = bt160.2 then (if bt162.1 = bt164.1 then (some (bt162.2 == bt164.2)) else (none)) else (none)) else (none))))))
theorem tallboylaw02_DigitsReads.mono : ∀ a0 k, LeO (tallboylaw02_DigitsReads.f k a0) (tallboylaw02_DigitsReads.f (k + 1) a0) := by
 intro a0 k
 unfold tallboylaw02_DigitsReads.f
 repeat' first
   | (with_reducible exact digits_Signed.mono _ _)
   | (with_reducible exact tallboyref02_Parse.mono _ _)
   | (with_reducible exact tallboyref02_Signed.mono _ _)
   | (with_reducible exact LeO.refl _)
   | (with_reducible exact LeO.none _)
   | (with_reducible refine LeO.ite ?_ ?_)
   | (with_reducible refine LeO.bind ?_ (fun _ => ?_))
   | exact digits_Signed.mono _ _
   | exact tallboyref02_Parse.mono _ _
   | exact tallboyref02_Signed.mono _ _
   | exact LeO.none _
   | refine LeO.ite ?_ ?_
   | refine LeO.bind ?_ (fun _ => ?_)
set_option maxHeartbeats 8000000 in
set_option maxRecDepth 100000 in
theorem tallboylaw02_DigitsReads.calls (k : Nat) (a0 : ByteArray) (r : Bool) (w : World) (h : tallboylaw02_DigitsReads.f k a0 = some r) (hL : LdS w) :
  Calls Tryd.prog 4 #[.string a0] w fun e w' => e = .returned (.bool r) ∧ Below w.heap.size w w' := by
 have HL := Aside0.mk hL; clear hL; have HB := Aside0.mk (Below.refl w.heap.size w); have H : (if (a0.size : Int) > 10000 then (some true) else ((digits_Parse.f a0).bind fun bt158 => ((tallboyref02_Parse.f k a0).bind fun bt160 => ((digits_Signed.f k a0).bind fun bt162 => ((tallboyref02_Signed.f k a0).bind fun bt164 => (if bt158.1 = bt160.1 then (if bt158.2 = bt160.2 then (if bt162.1 = bt164.1 then (some (bt162.2 == bt164.2)) else (none)) else (none)) else (none))))))) = some r := h; clear h
 by_cases c2 : (a0.size : Int) > 10000
 ·rw [if_pos c2] at H; have c2b0 : decide (10000 < (a0.size : Int)) = true := decide_eq_true c2; have c2b1 : decide (10000 < a0.size) = true := decide_eq_true (by omega); clear c2; obtain rfl := Option.some.inj H; go_enter Tryd.func4, Tryd.ntmps4; go_wp2; go_ret
  exact ⟨by first | rfl | (simp [errW_none, errW_some] <;> rfl) | (simp [*, errW_none, errW_some] <;> rfl), by repeat (first | (with_reducible first | exact HB.out | apply eA | apply eN | apply eD) | exact HB.out)⟩
 ·rw [if_neg c2] at H; have c2b0 : decide (10000 < (a0.size : Int)) = false := decide_eq_false c2; have c2b1 : decide (10000 < a0.size) = false := decide_eq_false (by omega); clear c2; replace H := Option.bind_eq_some_iff.mp H; obtain ⟨⟨t158, t159⟩, A30, H⟩ := H; replace H : ((tallboyref02_Parse.f k a0).bind fun bt160 => ((digits_Signed.f k a0).bind fun bt162 => ((tallboyref02_Signed.f k a0).bind fun bt164 => (if t158 = bt160.1 then (if t159 = bt160.2 then (if bt162.1 = bt164.1 then (some (bt162.2 == bt164.2)) else (none)) else (none)) else (none))))) = some r := H; have A3 := Aside0.mk A30; clear A30; replace H := Option.bind_eq_some_iff.mp H; obtain ⟨⟨t160, t161⟩, A40, H⟩ := H; replace H : ((digits_Signed.f k a0).bind fun bt162 => ((tallboyref02_Signed.f k a0).bind fun bt164 => (if t158 = t160 then (if t159 = t161 then (if bt162.1 = bt164.1 then (some (bt162.2 == bt164.2)) else (none)) else (none)) else (none)))) = some r := H; have A4 := Aside0.mk A40; clear A40; replace H := Option.bind_eq_some_iff.mp H; obtain ⟨⟨t162, t163⟩, A50, H⟩ := H; replace H : ((tallboyref02_Signed.f k a0).bind fun bt164 => (if t158 = t160 then (if t159 = t161 then (if t162 = bt164.1 then (some (t163 == bt164.2)) else (none)) else (none)) else (none))) = some r := H; have A5 := Aside0.mk A50; clear A50; replace H := Option.bind_eq_some_iff.mp H; obtain ⟨⟨t164, t165⟩, A60, H⟩ := H; replace H : (if t158 = t160 then (if t159 = t161 then (if t162 = t164 then (some (t163 == t165)) else (none)) else (none)) else (none)) = some r := H; have A6 := Aside0.mk A60; clear A60
  by_cases c7 : t158 = t160
  ·rw [if_pos c7] at H; have c7b0 : (t158 == t160) = true := beq_iff_eq.mpr c7; have c7b1 : (t158 != t160) = false := bne_eq_false_iff_eq.mpr c7; clear c7
   by_cases c8 : t159 = t161
   ·rw [if_pos c8] at H; have c8b0 : (t159 == t161) = true := beq_iff_eq.mpr c8; have c8b1 : (t159 != t161) = false := bne_eq_false_iff_eq.mpr c8; clear c8
    by_cases c9 : t162 = t164
    ·rw [if_pos c9] at H; have c9b0 : (t162 == t164) = true := beq_iff_eq.mpr c9; have c9b1 : (t162 != t164) = false := bne_eq_false_iff_eq.mpr c9; clear c9; obtain rfl := Option.some.inj H; go_enter Tryd.func4, Tryd.ntmps4
     go_wp2_with (first | ((with_reducible refine gate_callee (f := 14) rfl ?_); refine goesL_ (some 16) rfl rfl Tryd.func14 (by kernel_rfl) rfl #[.string a0] rfl (by (try simp only [List.map_toArray, List.map_cons, List.map_nil]); first | done | rfl | (simp only [List.length_drop, List.length_take]; rfl)) ?_; (with_reducible refine (digits_Parse.calls a0 t158 t159 _ A3.out (by first | exact HL.out | exact LdS.on HL.out (by repeat (first | (with_reducible first | exact HB.out | apply eA | apply eN | apply eD) | exact HB.out)))).mono ?_); rintro e w10 ⟨rfl, hb⟩; refine ⟨_, rfl, ?_⟩; have n0_ := Aside0.mk (below_step (by repeat (first | (with_reducible first | exact HB.out | apply eA | apply eN | apply eD) | exact HB.out)) hb); clear HB; have HB := n0_; clear n0_; (try clear hb); (try clear hb2); (try clear hk); (try clear hi)) | ((with_reducible refine gate_callee (f := 15) rfl ?_); refine goesL_ (some 21) rfl rfl Tryd.func15 (by kernel_rfl) rfl #[.string a0] rfl (by (try simp only [List.map_toArray, List.map_cons, List.map_nil]); first | done | rfl | (simp only [List.length_drop, List.length_take]; rfl)) ?_; (with_reducible refine (tallboyref02_Parse.calls k a0 t160 t161 _ A4.out).mono ?_); rintro e w' ⟨rfl, ⟨nd, rfl⟩⟩; refine ⟨_, rfl, ?_⟩) | ((with_reducible refine gate_callee (f := 16) rfl ?_); refine goesL_ (some 26) rfl rfl Tryd.func16 (by kernel_rfl) rfl #[.string a0] rfl (by (try simp only [List.map_toArray, List.map_cons, List.map_nil]); first | done | rfl | (simp only [List.length_drop, List.length_take]; rfl)) ?_; (with_reducible refine (digits_Signed.calls k a0 t162 t163 _ A5.out (by first | exact HL.out | exact LdS.on HL.out (by repeat (first | (with_reducible first | exact HB.out | apply eA | apply eN | apply eD) | exact HB.out)))).mono ?_); rintro e w11 ⟨rfl, hb⟩; refine ⟨_, rfl, ?_⟩; have n0_ := Aside0.mk (below_step (by repeat (first | (with_reducible first | exact HB.out | apply eA | apply eN | apply eD) | exact HB.out)) hb); clear HB; have HB := n0_; clear n0_; (try clear hb); (try clear hb2); (try clear hk); (try clear hi)) | ((with_reducible refine gate_callee (f := 17) rfl ?_); refine goesL_ (some 31) rfl rfl Tryd.func17 (by kernel_rfl) rfl #[.string a0] rfl (by (try simp only [List.map_toArray, List.map_cons, List.map_nil]); first | done | rfl | (simp only [List.length_drop, List.length_take]; rfl)) ?_; (with_reducible refine (tallboyref02_Signed.calls k a0 t164 t165 _ A6.out).mono ?_); rintro e w' ⟨rfl, ⟨nd, rfl⟩⟩; refine ⟨_, rfl, ?_⟩))
     go_ret
     exact ⟨by first | rfl | (simp [errW_none, errW_some] <;> rfl) | (simp [*, errW_none, errW_some] <;> rfl), by repeat (first | (with_reducible first | exact HB.out | apply eA | apply eN | apply eD) | exact HB.out)⟩
    ·rw [if_neg c9] at H; exact absurd H (by simp)
   ·rw [if_neg c8] at H; exact absurd H (by simp)
  ·rw [if_neg c7] at H; exact absurd H (by simp)

end Go.Proofs.YtbaegkghngbecaaDoor.P
