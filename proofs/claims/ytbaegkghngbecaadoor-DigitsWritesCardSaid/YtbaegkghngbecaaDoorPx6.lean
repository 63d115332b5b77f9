/- Lean functions for the Go functions that the laws of this seat use, and the proofs that the Go code computes them; conditions: the readings that each theorem names. Written by a program. -/
import Derived.Test.YtbaegkghngbecaaDoorPx0
import Derived.Test.YtbaegkghngbecaaDoorPx3
import Derived.Test.YtbaegkghngbecaaDoorPx5
import Derived.Test.YtbaegkghngbecaaDoorShort
namespace Go.Proofs.YtbaegkghngbecaaDoor.P
open Go.RowKit Go.Proofs.YtbaegkghngbecaaDoorW.PrintWords Go.Proofs.YtbaegkghngbecaaDoorW.PrintLast Go.Proofs.YtbaegkghngbecaaDoorW.PrintMore
set_option linter.unusedVariables false
set_option linter.unusedSimpArgs false

/-! ### tallboylaw02_DigitsWrites: function 3 -/
def tallboylaw02_DigitsWrites.f (k : Nat) (a0 : Int) : Option (Bool) := (digits_Text.f a0).bind fun t130 => ((tallboyref02_Text.f k a0).bind fun t131 => (if t130.toList = t131.toList then ((digits_TextSigned.f (wrap64 (a0))).bind fun t132 => ((tallboyref02_TextSigned.f k (wrap64 (a0))).bind fun t133 => (some (t132.toList == t133.toList)))) else (none)))
theorem tallboylaw02_DigitsWrites.mono : ∀ a0 k, LeO (tallboylaw02_DigitsWrites.f k a0) (tallboylaw02_DigitsWrites.f (k + 1) a0) := by
 intro a0 k
 unfold tallboylaw02_DigitsWrites.f
 repeat' first
   | (with_reducible exact tallboyref02_Text.mono _ _)
   | (with_reducible exact tallboyref02_TextSigned.mono _ _)
   | (with_reducible exact LeO.refl _)
   | (with_reducible exact LeO.none _)
   | (with_reducible refine LeO.ite ?_ ?_)
   | (with_reducible refine LeO.bind ?_ (fun _ => ?_))
   | exact tallboyref02_Text.mono _ _
   | exact tallboyref02_TextSigned.mono _ _
   | exact LeO.none _
   | refine LeO.ite ?_ ?_
   | refine LeO.bind ?_ (fun _ => ?_)
set_option maxHeartbeats 8000000 in
set_option maxRecDepth 100000 in
theorem tallboylaw02_DigitsWrites.calls (k : Nat) (a0 : Int) (r : Bool) (w : World) (h : tallboylaw02_DigitsWrites.f k a0 = some r) (hL : LdT w) :
  Calls Tryd.prog 3 #[.int .u64 a0] w fun e w' => e = .returned (.bool r) ∧ Below w.heap.size w w' := by
 have HL := Aside0.mk hL; clear hL; have HB := Aside0.mk (Below.refl w.heap.size w); have H : ((digits_Text.f a0).bind fun t130 => ((tallboyref02_Text.f k a0).bind fun t131 => (if t130.toList = t131.toList then ((digits_TextSigned.f (wrap64 (a0))).bind fun t132 => ((tallboyref02_TextSigned.f k (wrap64 (a0))).bind fun t133 => (some (t132.toList == t133.toList)))) else (none)))) = some r := h; clear h; replace H := Option.bind_eq_some_iff.mp H; obtain ⟨t130, A20, H⟩ := H; replace H : ((tallboyref02_Text.f k a0).bind fun t131 => (if t130.toList = t131.toList then ((digits_TextSigned.f (wrap64 (a0))).bind fun t132 => ((tallboyref02_TextSigned.f k (wrap64 (a0))).bind fun t133 => (some (t132.toList == t133.toList)))) else (none))) = some r := H; have A2 := Aside0.mk A20; clear A20; replace H := Option.bind_eq_some_iff.mp H; obtain ⟨t131, A30, H⟩ := H; replace H : (if t130.toList = t131.toList then ((digits_TextSigned.f (wrap64 (a0))).bind fun t132 => ((tallboyref02_TextSigned.f k (wrap64 (a0))).bind fun t133 => (some (t132.toList == t133.toList)))) else (none)) = some r := H; have A3 := Aside0.mk A30; clear A30
 by_cases c4 : t130.toList = t131.toList
 ·rw [if_pos c4] at H; have c4b0 : (t130.toList == t131.toList) = true := beq_iff_eq.mpr c4; have c4b1 : (t130.toList != t131.toList) = false := bne_eq_false_iff_eq.mpr c4; clear c4; replace H := Option.bind_eq_some_iff.mp H; obtain ⟨t132, A50, H⟩ := H; replace H : ((tallboyref02_TextSigned.f k (wrap64 (a0))).bind fun t133 => (some (t132.toList == t133.toList))) = some r := H; have A5 := Aside0.mk A50; clear A50; replace H := Option.bind_eq_some_iff.mp H; obtain ⟨t133, A60, H⟩ := H; replace H : (some (t132.toList == t133.toList)) = some r := H; have A6 := Aside0.mk A60; clear A60; obtain rfl := Option.some.inj H; go_enter Tryd.func3, Tryd.ntmps3
  go_wp2_with (first | ((with_reducible refine gate_callee (f := 10) rfl ?_); refine goesL_ (some 4) rfl rfl Tryd.func10 (by kernel_rfl) rfl #[.int .u64 a0] rfl (by (try simp only [List.map_toArray, List.map_cons, List.map_nil]); first | done | rfl | (simp only [List.length_drop, List.length_take]; rfl)) ?_; (with_reducible refine (digits_Text.calls a0 t130 _ A2.out (by first | exact HL.out | exact LdT.on HL.out (by repeat (first | (with_reducible first | exact HB.out | apply eA | apply eN | apply eD) | exact HB.out)))).mono ?_); rintro e w7 ⟨rfl, hb⟩; refine ⟨_, rfl, ?_⟩; have n0_ := Aside0.mk (below_step (by repeat (first | (with_reducible first | exact HB.out | apply eA | apply eN | apply eD) | exact HB.out)) hb); clear HB; have HB := n0_; clear n0_; (try clear hb); (try clear hb2); (try clear hk); (try clear hi)) | ((with_reducible refine gate_callee (f := 11) rfl ?_); refine goesL_ (some 6) rfl rfl Tryd.func11 (by kernel_rfl) rfl #[.int .u64 a0] rfl (by (try simp only [List.map_toArray, List.map_cons, List.map_nil]); first | done | rfl | (simp only [List.length_drop, List.length_take]; rfl)) ?_; (with_reducible refine (tallboyref02_Text.calls k a0 t131 _ A3.out).mono ?_); rintro e w8 ⟨rfl, hb⟩; refine ⟨_, rfl, ?_⟩; have n0_ := Aside0.mk (below_step (by repeat (first | (with_reducible first | exact HB.out | apply eA | apply eN | apply eD) | exact HB.out)) hb); clear HB; have HB := n0_; clear n0_; (try clear hb); (try clear hb2); (try clear hk); (try clear hi)) | (go_at_call 12; (with_reducible refine (digits_TextSigned.calls (wrap64 (a0)) t132 _ A5.out (by first | exact HL.out | exact LdT.on HL.out (by repeat (first | (with_reducible first | exact HB.out | apply eA | apply eN | apply eD) | exact HB.out)))).mono ?_); rintro e w9 ⟨rfl, hb⟩; have n0_ := Aside0.mk (below_step (by repeat (first | (with_reducible first | exact HB.out | apply eA | apply eN | apply eD) | exact HB.out)) hb); clear HB; have HB := n0_; clear n0_; (try clear hb); (try clear hb2); (try clear hk); (try clear hi)) | (go_at_call 13; (with_reducible refine (tallboyref02_TextSigned.calls k (wrap64 (a0)) t133 _ A6.out).mono ?_); rintro e w10 ⟨rfl, hb⟩; have n0_ := Aside0.mk (below_step (by repeat (first | (with_reducible first | exact HB.out | apply eA | apply eN | apply eD) | exact HB.out)) hb); clear HB; have HB := n0_; clear n0_; (try clear hb); (try clear hb2); (try clear hk); (try clear hi)))
  go_ret
  exact ⟨by first | rfl | (simp [errW_none, errW_some] <;> rfl) | (simp [*, errW_none, errW_some] <;> rfl), by repeat (first | (with_reducible first | exact HB.out | apply eA | apply eN | apply eD) | exact HB.out)⟩
 ·rw [if_neg c4] at H; exact absurd H (by simp)

end Go.Proofs.YtbaegkghngbecaaDoor.P
