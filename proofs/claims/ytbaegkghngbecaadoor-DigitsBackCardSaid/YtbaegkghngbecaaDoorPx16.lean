/- Lean functions for the Go functions that the laws of this seat use, and the proofs that the Go code computes them; conditions: the readings that each theorem names. Written by a program. -/
import Derived.Test.YtbaegkghngbecaaDoorPx0
import Derived.Test.YtbaegkghngbecaaDoorPx3
import Derived.Test.YtbaegkghngbecaaDoorPx5
import Derived.Test.YtbaegkghngbecaaDoorPx10
import Derived.Test.YtbaegkghngbecaaDoorPx13
import Derived.Test.YtbaegkghngbecaaDoorPx15
import Derived.Test.YtbaegkghngbecaaDoorShort
namespace Go.Proofs.YtbaegkghngbecaaDoor.P
open Go.RowKit Go.Proofs.YtbaegkghngbecaaDoorW.PrintWords Go.Proofs.YtbaegkghngbecaaDoorW.PrintLast Go.Proofs.YtbaegkghngbecaaDoorW.PrintMore
set_option linter.unusedVariables false
set_option linter.unusedSimpArgs false

/-! ### tallboylaw02_DigitsBack: function 5 -/
mutual
def tallboylaw02_DigitsBack.j0 : Nat → ByteArray → Bool → Option (Bool)
 | 0, _, _ => none
 | k + 1, x1, x46 => if x46 = true then (none) else ((digits_Parse.f x1).bind fun bt183 => (if bt183.2 = 0 then (tallboylaw02_DigitsBack.l0 k x1 bt183.1 0) else (some (bt183.1 == 0))))
def tallboylaw02_DigitsBack.l0 : Nat → ByteArray → Int → Int → Option (Bool)
 | 0, _, _, _ => none
 | k + 1, x1, x9, x11 => if x11 < (wrap64 ((x1.size : Int) - 1)) then (if 0 ≤ x11 then (if x11 < (x1.size : Int) then (if (bt x1 x11) = 48 then (tallboylaw02_DigitsBack.l0 k x1 x9 (wrap64 (x11 + 1))) else ((digits_Text.f x9).bind fun t185 => (if x11 ≤ (x1.size : Int) then (some (t185.toList == (x1.extract (x11 : Int).toNat x1.size).toList)) else (none)))) else (none)) else (none)) else ((digits_Text.f x9).bind fun t186 => (if 0 ≤ x11 then (if x11 ≤ (x1.size : Int) then (some (t186.toList == (x1.extract (x11 : Int).toNat x1.size).toList)) else (none)) else (none)))
end
def tallboylaw02_DigitsBack.f (k : Nat) (a0 : Int) (a1 : ByteArray) : Option (Bool) := (tallboylaw02_works.f k).bind fun t176 => (if t176 = true then (if (a1.size : Int) > 10000 then (some true) else ((digits_Text.f a0).bind fun t177 => ((digits_Parse.f t177).bind fun bt178 => ((digits_TextSigned.f (wrap64 (a0))).bind fun t180 => ((digits_Signed.f k t180).bind fun bt181 => (if bt178.2 = 0 then (if bt178.1 = a0 then (if bt181.2 = 0 then (tallboylaw02_DigitsBack.j0 k a1 (bt181.1 != (wrap64 (a0)))) else (tallboylaw02_DigitsBack.j0 k a1 true)) else (tallboylaw02_DigitsBack.j0 k a1 true)) else (tallboylaw02_DigitsBack.j0 k a1 true))))))) else (none))
theorem tallboylaw02_DigitsBack.mono_l : ∀ k, (∀ y0 y1, LeO (tallboylaw02_DigitsBack.j0 k y0 y1) (tallboylaw02_DigitsBack.j0 (k + 1) y0 y1)) ∧ (∀ y0 y1 y2, LeO (tallboylaw02_DigitsBack.l0 k y0 y1 y2) (tallboylaw02_DigitsBack.l0 (k + 1) y0 y1 y2))
 | 0 => ⟨fun _ _ r h => by simp [tallboylaw02_DigitsBack.j0] at h, fun _ _ _ r h => by simp [tallboylaw02_DigitsBack.l0] at h⟩
 | k + 1 => by
  obtain ⟨ih0, ih1⟩ := tallboylaw02_DigitsBack.mono_l k; refine ⟨?_, ?_⟩
  ·intro y0 y1
   unfold tallboylaw02_DigitsBack.j0
   repeat' first
   | (with_reducible exact ih0 _ _)
   | (with_reducible exact ih1 _ _ _)
   | (with_reducible exact digits_Signed.mono _ _)
   | (with_reducible exact tallboylaw02_works.mono _)
   | (with_reducible exact LeO.refl _)
   | (with_reducible exact LeO.none _)
   | (with_reducible refine LeO.ite ?_ ?_)
   | (with_reducible refine LeO.bind ?_ (fun _ => ?_))
   | exact ih0 _ _
   | exact ih1 _ _ _
   | exact digits_Signed.mono _ _
   | exact tallboylaw02_works.mono _
   | exact LeO.none _
   | refine LeO.ite ?_ ?_
   | refine LeO.bind ?_ (fun _ => ?_)
  ·intro y0 y1 y2
   unfold tallboylaw02_DigitsBack.l0
   repeat' first
   | (with_reducible exact ih0 _ _)
   | (with_reducible exact ih1 _ _ _)
   | (with_reducible exact digits_Signed.mono _ _)
   | (with_reducible exact tallboylaw02_works.mono _)
   | (with_reducible exact LeO.refl _)
   | (with_reducible exact LeO.none _)
   | (with_reducible refine LeO.ite ?_ ?_)
   | (with_reducible refine LeO.bind ?_ (fun _ => ?_))
   | exact ih0 _ _
   | exact ih1 _ _ _
   | exact digits_Signed.mono _ _
   | exact tallboylaw02_works.mono _
   | exact LeO.none _
   | refine LeO.ite ?_ ?_
   | refine LeO.bind ?_ (fun _ => ?_)
theorem tallboylaw02_DigitsBack.mono : ∀ a0 a1 k, LeO (tallboylaw02_DigitsBack.f k a0 a1) (tallboylaw02_DigitsBack.f (k + 1) a0 a1) := by
 intro a0 a1 k
 obtain ⟨ih0, ih1⟩ := tallboylaw02_DigitsBack.mono_l k; unfold tallboylaw02_DigitsBack.f
 repeat' first
   | (with_reducible exact ih0 _ _)
   | (with_reducible exact ih1 _ _ _)
   | (with_reducible exact digits_Signed.mono _ _)
   | (with_reducible exact tallboylaw02_works.mono _)
   | (with_reducible exact LeO.refl _)
   | (with_reducible exact LeO.none _)
   | (with_reducible refine LeO.ite ?_ ?_)
   | (with_reducible refine LeO.bind ?_ (fun _ => ?_))
   | exact ih0 _ _
   | exact ih1 _ _ _
   | exact digits_Signed.mono _ _
   | exact tallboylaw02_works.mono _
   | exact LeO.none _
   | refine LeO.ite ?_ ?_
   | refine LeO.bind ?_ (fun _ => ?_)
set_option maxHeartbeats 8000000 in
set_option maxRecDepth 100000 in
theorem tallboylaw02_DigitsBack.calls (k : Nat) (a0 : Int) (a1 : ByteArray) (r : Bool) (w : World) (h : tallboylaw02_DigitsBack.f k a0 a1 = some r) (hL : LdS w) :
  Calls Tryd.prog 5 #[.int .u64 a0, .string a1] w fun e w' => e = .returned (.bool r) ∧ Below w.heap.size w w' := by
 have HL := Aside0.mk hL; clear hL; have HB := Aside0.mk (Below.refl w.heap.size w); have H : ((tallboylaw02_works.f k).bind fun t176 => (if t176 = true then (if (a1.size : Int) > 10000 then (some true) else ((digits_Text.f a0).bind fun t177 => ((digits_Parse.f t177).bind fun bt178 => ((digits_TextSigned.f (wrap64 (a0))).bind fun t180 => ((digits_Signed.f k t180).bind fun bt181 => (if bt178.2 = 0 then (if bt178.1 = a0 then (if bt181.2 = 0 then (tallboylaw02_DigitsBack.j0 k a1 (bt181.1 != (wrap64 (a0)))) else (tallboylaw02_DigitsBack.j0 k a1 true)) else (tallboylaw02_DigitsBack.j0 k a1 true)) else (tallboylaw02_DigitsBack.j0 k a1 true))))))) else (none))) = some r := h; clear h; replace H := Option.bind_eq_some_iff.mp H; obtain ⟨t176, A30, H⟩ := H; replace H : (if t176 = true then (if (a1.size : Int) > 10000 then (some true) else ((digits_Text.f a0).bind fun t177 => ((digits_Parse.f t177).bind fun bt178 => ((digits_TextSigned.f (wrap64 (a0))).bind fun t180 => ((digits_Signed.f k t180).bind fun bt181 => (if bt178.2 = 0 then (if bt178.1 = a0 then (if bt181.2 = 0 then (tallboylaw02_DigitsBack.j0 k a1 (bt181.1 != (wrap64 (a0)))) else (tallboylaw02_DigitsBack.j0 k a1 true)) else (tallboylaw02_DigitsBack.j0 k a1 true)) else (tallboylaw02_DigitsBack.j0 k a1 true))))))) else (none)) = some r := H; have A3 := Aside0.mk A30; clear A30
 by_cases c4 : t176 = true
 ·subst c4; have H1 : (if (a1.size : Int) > 10000 then (some true) else ((digits_Text.f a0).bind fun t177 => ((digits_Parse.f t177).bind fun bt178 => ((digits_TextSigned.f (wrap64 (a0))).bind fun t180 => ((digits_Signed.f k t180).bind fun bt181 => (if bt178.2 = 0 then (if bt178.1 = a0 then (if bt181.2 = 0 then (tallboylaw02_DigitsBack.j0 k a1 (bt181.1 != (wrap64 (a0)))) else (tallboylaw02_DigitsBack.j0 k a1 true)) else (tallboylaw02_DigitsBack.j0 k a1 true)) else (tallboylaw02_DigitsBack.j0 k a1 true))))))) = some r := by rw [if_pos rfl] at H; exact H
  clear H; have H := H1; clear H1
  by_cases c5 : (a1.size : Int) > 10000
  ·rw [if_pos c5] at H; have c5b0 : decide (10000 < (a1.size : Int)) = true := decide_eq_true c5; have c5b1 : decide (10000 < a1.size) = true := decide_eq_true (by omega); clear c5; obtain rfl := Option.some.inj H; go_enter Tryd.func5, Tryd.ntmps5
   go_wp2_with (first | ((with_reducible refine gate_callee (f := 18) rfl ?_); refine goesL_ (some 12) rfl rfl Tryd.func18 (by kernel_rfl) rfl #[] rfl (by (try simp only [List.map_toArray, List.map_cons, List.map_nil]); first | done | rfl | (simp only [List.length_drop, List.length_take]; rfl)) ?_; (with_reducible refine (tallboylaw02_works.calls k  true _ A3.out (by first | exact HL.out | exact LdS.on HL.out (by repeat (first | (with_reducible first | exact HB.out | apply eA | apply eN | apply eD) | exact HB.out)))).mono ?_); rintro e w6 ⟨rfl, hb⟩; refine ⟨_, rfl, ?_⟩; have n0_ := Aside0.mk (below_step (by repeat (first | (with_reducible first | exact HB.out | apply eA | apply eN | apply eD) | exact HB.out)) hb); clear HB; have HB := n0_; clear n0_; (try clear hb); (try clear hb2); (try clear hk); (try clear hi)))
   go_ret
   exact ⟨by first | rfl | (simp [errW_none, errW_some] <;> rfl) | (simp [*, errW_none, errW_some] <;> rfl), by repeat (first | (with_reducible first | exact HB.out | apply eA | apply eN | apply eD) | exact HB.out)⟩
  ·rw [if_neg c5] at H; have c5b0 : decide (10000 < (a1.size : Int)) = false := decide_eq_false c5; have c5b1 : decide (10000 < a1.size) = false := decide_eq_false (by omega); clear c5; replace H := Option.bind_eq_some_iff.mp H; obtain ⟨t177, A70, H⟩ := H; replace H : ((digits_Parse.f t177).bind fun bt178 => ((digits_TextSigned.f (wrap64 (a0))).bind fun t180 => ((digits_Signed.f k t180).bind fun bt181 => (if bt178.2 = 0 then (if bt178.1 = a0 then (if bt181.2 = 0 then (tallboylaw02_DigitsBack.j0 k a1 (bt181.1 != (wrap64 (a0)))) else (tallboylaw02_DigitsBack.j0 k a1 true)) else (tallboylaw02_DigitsBack.j0 k a1 true)) else (tallboylaw02_DigitsBack.j0 k a1 true))))) = some r := H; have A7 := Aside0.mk A70; clear A70; replace H := Option.bind_eq_some_iff.mp H; obtain ⟨⟨t178, t179⟩, A80, H⟩ := H; replace H : ((digits_TextSigned.f (wrap64 (a0))).bind fun t180 => ((digits_Signed.f k t180).bind fun bt181 => (if t179 = 0 then (if t178 = a0 then (if bt181.2 = 0 then (tallboylaw02_DigitsBack.j0 k a1 (bt181.1 != (wrap64 (a0)))) else (tallboylaw02_DigitsBack.j0 k a1 true)) else (tallboylaw02_DigitsBack.j0 k a1 true)) else (tallboylaw02_DigitsBack.j0 k a1 true)))) = some r := H; have A8 := Aside0.mk A80; clear A80; replace H := Option.bind_eq_some_iff.mp H; obtain ⟨t180, A90, H⟩ := H; replace H : ((digits_Signed.f k t180).bind fun bt181 => (if t179 = 0 then (if t178 = a0 then (if bt181.2 = 0 then (tallboylaw02_DigitsBack.j0 k a1 (bt181.1 != (wrap64 (a0)))) else (tallboylaw02_DigitsBack.j0 k a1 true)) else (tallboylaw02_DigitsBack.j0 k a1 true)) else (tallboylaw02_DigitsBack.j0 k a1 true))) = some r := H; have A9 := Aside0.mk A90; clear A90; replace H := Option.bind_eq_some_iff.mp H; obtain ⟨⟨t181, t182⟩, A100, H⟩ := H; replace H : (if t179 = 0 then (if t178 = a0 then (if t182 = 0 then (tallboylaw02_DigitsBack.j0 k a1 (t181 != (wrap64 (a0)))) else (tallboylaw02_DigitsBack.j0 k a1 true)) else (tallboylaw02_DigitsBack.j0 k a1 true)) else (tallboylaw02_DigitsBack.j0 k a1 true)) = some r := H; have A10 := Aside0.mk A100; clear A100; have HC11 := Aside0.mk H; clear H; go_enter Tryd.func5, Tryd.ntmps5
   go_upto_region 7 with (first | ((with_reducible refine gate_callee (f := 18) rfl ?_); refine goesL_ (some 12) rfl rfl Tryd.func18 (by kernel_rfl) rfl #[] rfl (by (try simp only [List.map_toArray, List.map_cons, List.map_nil]); first | done | rfl | (simp only [List.length_drop, List.length_take]; rfl)) ?_; (with_reducible refine (tallboylaw02_works.calls k  true _ A3.out (by first | exact HL.out | exact LdS.on HL.out (by repeat (first | (with_reducible first | exact HB.out | apply eA | apply eN | apply eD) | exact HB.out)))).mono ?_); rintro e w12 ⟨rfl, hb⟩; refine ⟨_, rfl, ?_⟩; have n0_ := Aside0.mk (below_step (by repeat (first | (with_reducible first | exact HB.out | apply eA | apply eN | apply eD) | exact HB.out)) hb); clear HB; have HB := n0_; clear n0_; (try clear hb); (try clear hb2); (try clear hk); (try clear hi)) | ((with_reducible refine gate_callee (f := 10) rfl ?_); refine goesL_ (some 19) rfl rfl Tryd.func10 (by kernel_rfl) rfl #[.int .u64 a0] rfl (by (try simp only [List.map_toArray, List.map_cons, List.map_nil]); first | done | rfl | (simp only [List.length_drop, List.length_take]; rfl)) ?_; (with_reducible refine (digits_Text.calls a0 t177 _ A7.out (by first | exact (LdS.t HL.out) | exact LdT.on (LdS.t HL.out) (by repeat (first | (with_reducible first | exact HB.out | apply eA | apply eN | apply eD) | exact HB.out)))).mono ?_); rintro e w13 ⟨rfl, hb⟩; refine ⟨_, rfl, ?_⟩; have n0_ := Aside0.mk (below_step (by repeat (first | (with_reducible first | exact HB.out | apply eA | apply eN | apply eD) | exact HB.out)) hb); clear HB; have HB := n0_; clear n0_; (try clear hb); (try clear hb2); (try clear hk); (try clear hi)) | ((with_reducible refine gate_callee (f := 14) rfl ?_); refine goesL_ (some 20) rfl rfl Tryd.func14 (by kernel_rfl) rfl #[.string t177] rfl (by (try simp only [List.map_toArray, List.map_cons, List.map_nil]); first | done | rfl | (simp only [List.length_drop, List.length_take]; rfl)) ?_; (with_reducible refine (digits_Parse.calls t177 t178 t179 _ A8.out (by first | exact HL.out | exact LdS.on HL.out (by repeat (first | (with_reducible first | exact HB.out | apply eA | apply eN | apply eD) | exact HB.out)))).mono ?_); rintro e w14 ⟨rfl, hb⟩; refine ⟨_, rfl, ?_⟩; have n0_ := Aside0.mk (below_step (by repeat (first | (with_reducible first | exact HB.out | apply eA | apply eN | apply eD) | exact HB.out)) hb); clear HB; have HB := n0_; clear n0_; (try clear hb); (try clear hb2); (try clear hk); (try clear hi)) | ((with_reducible refine gate_callee (f := 12) rfl ?_); refine goesL_ (some 26) rfl rfl Tryd.func12 (by kernel_rfl) rfl #[.int .i64 (wrap64 (a0))] rfl (by (try simp only [List.map_toArray, List.map_cons, List.map_nil]); first | done | rfl | (simp only [List.length_drop, List.length_take]; rfl)) ?_; (with_reducible refine (digits_TextSigned.calls (wrap64 (a0)) t180 _ A9.out (by first | exact (LdS.t HL.out) | exact LdT.on (LdS.t HL.out) (by repeat (first | (with_reducible first | exact HB.out | apply eA | apply eN | apply eD) | exact HB.out)))).mono ?_); rintro e w15 ⟨rfl, hb⟩; refine ⟨_, rfl, ?_⟩; have n0_ := Aside0.mk (below_step (by repeat (first | (with_reducible first | exact HB.out | apply eA | apply eN | apply eD) | exact HB.out)) hb); clear HB; have HB := n0_; clear n0_; (try clear hb); (try clear hb2); (try clear hk); (try clear hi)) | ((with_reducible refine gate_callee (f := 16) rfl ?_); refine goesL_ (some 27) rfl rfl Tryd.func16 (by kernel_rfl) rfl #[.string t180] rfl (by (try simp only [List.map_toArray, List.map_cons, List.map_nil]); first | done | rfl | (simp only [List.length_drop, List.length_take]; rfl)) ?_; (with_reducible refine (digits_Signed.calls k t180 t181 t182 _ A10.out (by first | exact HL.out | exact LdS.on HL.out (by repeat (first | (with_reducible first | exact HB.out | apply eA | apply eN | apply eD) | exact HB.out)))).mono ?_); rintro e w16 ⟨rfl, hb⟩; refine ⟨_, rfl, ?_⟩; have n0_ := Aside0.mk (below_step (by repeat (first | (with_reducible first | exact HB.out | apply eA | apply eN | apply eD) | exact HB.out)) hb); clear HB; have HB := n0_; clear n0_; (try clear hb); (try clear hb2); (try clear hk); (try clear hi)))
   (try simp only [Act.put, sA, sB, sC])
   go_cut [46] (fun v46 wc => ∃ (kq : Nat) (x46_10 : Bool), v46 = .bool x46_10 ∧ Aside0 (tallboylaw02_DigitsBack.j0 kq a1 x46_10 = some r) ∧ Aside0 (kq ≤ k) ∧ Aside0 (Below w.heap.size w wc))
   case first =>
    have H := HC11.out; clear HC11
    by_cases c17 : t179 = 0
    ·rw [if_pos c17] at H; have c17b0 : (t179 == 0) = true := beq_iff_eq.mpr c17; have c17b1 : (t179 != 0) = false := bne_eq_false_iff_eq.mpr c17; clear c17
     (first | rw [c17b0] | (simp only [i64_w, i32_w]; rw [c17b0]) | skip)
     by_cases c18 : t178 = a0
     ·rw [if_pos c18] at H; have c18b0 : (t178 == a0) = true := beq_iff_eq.mpr c18; have c18b1 : (t178 != a0) = false := bne_eq_false_iff_eq.mpr c18; clear c18
      by_cases c19 : t182 = 0
      ·rw [if_pos c19] at H; have c19b0 : (t182 == 0) = true := beq_iff_eq.mpr c19; have c19b1 : (t182 != 0) = false := bne_eq_false_iff_eq.mpr c19; clear c19; have H' := Aside0.mk H; clear H; go_wp2
       go_meet
       case rel => exact ⟨_, ((t181 != (wrap64 (a0)))), (by first | rfl | (simp; done) | (simp [*]; done)), H', ⟨by first | omega | exact Nat.le_refl _⟩, ⟨by repeat (first | (with_reducible first | exact HB.out | apply eA | apply eN | apply eD) | exact HB.out)⟩⟩
      ·rw [if_neg c19] at H; have c19b0 : (t182 == 0) = false := beq_eq_false_iff_ne.mpr c19; have c19b1 : (t182 != 0) = true := bne_iff_ne.mpr c19; have H' := Aside0.mk H; clear H; go_wp2
       go_meet
       case rel => exact ⟨_, (true), (by first | rfl | (simp; done) | (simp [*]; done)), H', ⟨by first | omega | exact Nat.le_refl _⟩, ⟨by repeat (first | (with_reducible first | exact HB.out | apply eA | apply eN | apply eD) | exact HB.out)⟩⟩
     ·rw [if_neg c18] at H; have c18b0 : (t178 == a0) = false := beq_eq_false_iff_ne.mpr c18; have c18b1 : (t178 != a0) = true := bne_iff_ne.mpr c18; have H' := Aside0.mk H; clear H; go_wp2
      go_meet
      case rel => exact ⟨_, (true), (by first | rfl | (simp; done) | (simp [*]; done)), H', ⟨by first | omega | exact Nat.le_refl _⟩, ⟨by repeat (first | (with_reducible first | exact HB.out | apply eA | apply eN | apply eD) | exact HB.out)⟩⟩
    ·rw [if_neg c17] at H; have c17b0 : (t179 == 0) = false := beq_eq_false_iff_ne.mpr c17; have c17b1 : (t179 != 0) = true := bne_iff_ne.mpr c17
     (first | rw [c17b0] | (simp only [i64_w, i32_w]; rw [c17b0]) | skip)
     have H' := Aside0.mk H; clear H; go_wp2
     go_meet
     case rel => exact ⟨_, (true), (by first | rfl | (simp; done) | (simp [*]; done)), H', ⟨by first | omega | exact Nat.le_refl _⟩, ⟨by repeat (first | (with_reducible first | exact HB.out | apply eA | apply eN | apply eD) | exact HB.out)⟩⟩
   case rest =>
    clear HC11; (try clear c1); (try clear p2); (try clear c4); (try clear c5); (try clear c5b0); (try clear c5b1); (try clear p6); (try clear c10); (try clear c12); (try clear c14); (try clear c16); (try clear c17); (try clear c17b0); (try clear c17b1); (try clear c18); (try clear c18b0); (try clear c18b1); (try clear c19); (try clear c19b0); (try clear c19b1); obtain ⟨kq, x46_10, rfl, HA, HJ10, HB⟩ := hcut; cases kq with
    | zero => exact absurd HA.out (by simp [tallboylaw02_DigitsBack.j0])
    | succ kj10 =>
     have H := HA.out; clear HA; simp only [tallboylaw02_DigitsBack.j0] at H
     by_cases c20 : x46_10 = true
     ·subst c20; have H1 : (none) = some r := by rw [if_pos rfl] at H; exact H
      clear H; have H := H1; clear H1; exact absurd H (by simp)
     ·replace c20 := Bool.eq_false_iff.mpr c20; subst c20; have H1 : ((digits_Parse.f a1).bind fun bt183 => (if bt183.2 = 0 then (tallboylaw02_DigitsBack.l0 kj10 a1 bt183.1 0) else (some (bt183.1 == 0)))) = some r := by rw [if_neg (show ¬ (false = true) by decide)] at H; exact H
      clear H; have H := H1; clear H1; replace H := Option.bind_eq_some_iff.mp H; obtain ⟨⟨t183, t184⟩, A210, H⟩ := H; replace H : (if t184 = 0 then (tallboylaw02_DigitsBack.l0 kj10 a1 t183 0) else (some (t183 == 0))) = some r := H; have A21 := Aside0.mk A210; clear A210
      by_cases c22 : t184 = 0
      ·rw [if_pos c22] at H; have c22b0 : (t184 == 0) = true := beq_iff_eq.mpr c22; have c22b1 : (t184 != 0) = false := bne_eq_false_iff_eq.mpr c22; clear c22; have H' := Aside0.mk H; clear H
       go_wp2_with (first | ((with_reducible refine gate_callee (f := 14) rfl ?_); refine goesL_ (some 49) rfl rfl Tryd.func14 (by kernel_rfl) rfl #[.string a1] rfl (by (try simp only [List.map_toArray, List.map_cons, List.map_nil]); first | done | rfl | (simp only [List.length_drop, List.length_take]; rfl)) ?_; (with_reducible refine (digits_Parse.calls a1 t183 t184 _ A21.out (by first | exact HL.out | exact LdS.on HL.out (by repeat (first | (with_reducible first | exact HB.out | apply eA | apply eN | apply eD) | exact HB.out)))).mono ?_); rintro e w23 ⟨rfl, hb⟩; refine ⟨_, rfl, ?_⟩; have n0_ := Aside0.mk (below_step (by repeat (first | (with_reducible first | exact HB.out | apply eA | apply eN | apply eD) | exact HB.out)) hb); clear HB; have HB := n0_; clear n0_; (try clear hb); (try clear hb2); (try clear hk); (try clear hi)))
       go_loopg [11] kj10 (fun kq v11 w' => ∃ (x11_2 : Int), v11 = .int .i64 x11_2 ∧ Aside0 (tallboylaw02_DigitsBack.l0 kq a1 t183 x11_2 = some r) ∧ Aside0 (kq ≤ kj10) ∧ Aside0 (Below w.heap.size w w'))
       case atStart => exact ⟨(0), (by first | rfl | (simp; done) | (simp [*]; done)), H', ⟨Nat.le_refl _⟩, ⟨by repeat (first | (with_reducible first | exact HB.out | apply eA | apply eN | apply eD) | exact HB.out)⟩⟩
       case round =>
        clear H'; (try clear c1); (try clear c2); (try clear p2); (try clear c4); (try clear c5); (try clear c5b0); (try clear c5b1); (try clear p6); (try clear c10); (try clear c12); (try clear c14); (try clear c16); (try clear c17); (try clear c17b0); (try clear c17b1); (try clear c18); (try clear c18b0); (try clear c18b1); (try clear c19); (try clear c19b0); (try clear c19b1); (try clear c20); (try clear c22); (try clear c22b0); (try clear c22b1); (try clear p2); (try clear p6); obtain ⟨x11_2, rfl, HA, HK2, HB⟩ := hrel; cases gk with
        | zero => exact absurd HA.out (by simp [tallboylaw02_DigitsBack.l0])
        | succ k2 =>
         have H := HA.out; clear HA; simp only [tallboylaw02_DigitsBack.l0] at H
         by_cases c24 : x11_2 < (wrap64 ((a1.size : Int) - 1))
         ·rw [if_pos c24] at H; have c24b0 : decide (x11_2 < (wrap64 ((a1.size : Int) - 1))) = true := decide_eq_true c24; clear c24
          by_cases c25 : 0 ≤ x11_2
          ·rw [if_pos c25] at H; have c25b0 : decide (0 ≤ x11_2) = true := decide_eq_true c25; clear c25
           by_cases c26 : x11_2 < (a1.size : Int)
           ·rw [if_pos c26] at H; have c26b0 : decide (x11_2 < (a1.size : Int)) = true := decide_eq_true c26; clear c26
            by_cases c28 : (bt a1 x11_2) = 48
            ·rw [if_pos c28] at H; have c28b0 : ((bt a1 x11_2) == 48) = true := beq_iff_eq.mpr c28; have c28b1 : ((bt a1 x11_2) != 48) = false := bne_eq_false_iff_eq.mpr c28; clear c28; have H' := Aside0.mk H; clear H; have p27 : 0 ≤ (x11_2 : Int) := of_decide_eq_true (by first | (with_reducible assumption) | assumption); have q27 : x11_2 < (a1.size : Int) := of_decide_eq_true (by first | (with_reducible assumption) | assumption)
             have hx27 := bt_at a1 x11_2; replace p27 := eq_true p27; replace q27 := eq_true q27; go_wp2
             go_roundg k2
             case measure => have := HJ10.out; have := HK2.out; omega
             case rel => exact ⟨(wrap64 (x11_2 + 1)), (by first | rfl | (simp; done) | (simp [*]; done)), H', ⟨by have := HJ10.out; have := HK2.out; omega⟩, ⟨by repeat (first | (with_reducible first | exact HB.out | apply eA | apply eN | apply eD) | exact HB.out)⟩⟩
            ·rw [if_neg c28] at H; have c28b0 : ((bt a1 x11_2) == 48) = false := beq_eq_false_iff_ne.mpr c28; have c28b1 : ((bt a1 x11_2) != 48) = true := bne_iff_ne.mpr c28; replace H := Option.bind_eq_some_iff.mp H; obtain ⟨t185, A290, H⟩ := H; replace H : (if x11_2 ≤ (a1.size : Int) then (some (t185.toList == (a1.extract (x11_2 : Int).toNat a1.size).toList)) else (none)) = some r := H; have A29 := Aside0.mk A290; clear A290; have c30b0 := eq_true (of_decide_eq_true (by first | (with_reducible assumption) | assumption) : 0 ≤ x11_2)
             by_cases c31 : x11_2 ≤ (a1.size : Int)
             ·rw [if_pos c31] at H; have c31b0 := eq_true c31; have c31b1 : decide (x11_2 ≤ (a1.size : Int)) = true := decide_eq_true c31; clear c31; obtain rfl := Option.some.inj H; have p27 : 0 ≤ (x11_2 : Int) := of_decide_eq_true (by first | (with_reducible assumption) | assumption); have q27 : x11_2 < (a1.size : Int) := of_decide_eq_true (by first | (with_reducible assumption) | assumption)
              have hx27 := bt_at a1 x11_2; replace p27 := eq_true p27; replace q27 := eq_true q27
              try go_wp2
              have n0_ := Aside0.mk (eD HB.out); clear HB; have HB := n0_; clear n0_; refine start_ (n := 7) (S := fun w' => True) (ds := []) #[false, false, false, false, false, false, false] (by kernel_rfl) rfl rfl trivial (fun hHeld => ?_)
              generalize wr.drew = w32 at HB hHeld ⊢; refine pure_ (i := 0) (N := some 69) (v := ?_) (a' := ?_) #[true, false, false, false, false, false, false] rfl rfl (by kernel_rfl) (fun _ _ _ h => h) (Or.inl ⟨by rfl, ?_⟩) ?_ ?_
              rotate_left
              ·intro w'
               go_simp
               with_reducible rfl
              rotate_left
              ·simp only [Act.put, sA, sB, sC, i64_w, i32_w]
               rfl
              refine pure_ (i := 2) (N := some 71) (v := ?_) (a' := ?_) #[true, false, true, false, false, false, false] rfl rfl (by kernel_rfl) (fun _ _ _ h => h) (Or.inl ⟨by rfl, ?_⟩) ?_ ?_
              rotate_left
              ·intro w'
               go_simp
               with_reducible rfl
              rotate_left
              ·simp only [Act.put, sA, sB, sC, i64_w, i32_w]
               rfl
              refine pure_ (i := 3) (N := some 72) (v := ?_) (a' := ?_) #[true, false, true, true, false, false, false] rfl rfl (by kernel_rfl) (fun _ _ _ h => h) (Or.inl ⟨by rfl, ?_⟩) ?_ ?_
              rotate_left
              ·intro w'
               go_simp
               with_reducible rfl
              rotate_left
              ·simp only [Act.put, sA, sB, sC, i64_w, i32_w]
               rfl
              refine pure_ (i := 4) (N := some 73) (v := ?_) (a' := ?_) #[true, false, true, true, true, false, false] rfl rfl (by kernel_rfl) (fun _ _ _ h => h) (Or.inl ⟨by rfl, ?_⟩) ?_ ?_
              rotate_left
              ·intro w'
               go_simp
               with_reducible rfl
              rotate_left
              ·simp only [Act.put, sA, sB, sC, i64_w, i32_w]
               rfl
              refine one_ (i := 1) (N := some 70) #[true, true, true, true, true, false, false] rfl rfl (by kernel_rfl) (by decide) (fun K hK => ?_)
              refine goes_ Tryd.func10 (by kernel_rfl) rfl #[.int .u64 t183] (by rfl) rfl rfl (by (try simp only [List.map_toArray, List.map_cons, List.map_nil]); first | done | rfl | (simp only [List.length_drop, List.length_take]; rfl)) ?_
              with_reducible refine (digits_Text.calls t183 t185 _ A29.out (by first | exact (LdS.t HL.out) | exact LdT.on (LdS.t HL.out) (by repeat (first | (with_reducible first | exact HB.out | apply eA | apply eN | apply eD) | exact HB.out)))).mono ?_
              rintro e w33 ⟨rfl, hb⟩
              refine ⟨_, rfl, ?_⟩
              have n0_ := Aside0.mk (below_step (by repeat (first | (with_reducible first | exact HB.out | apply eA | apply eN | apply eD) | exact HB.out)) hb); clear HB; have HB := n0_; clear n0_
              (try clear hb)
              (try clear hb2)
              (try clear hk)
              (try clear hi)
              refine hK.out _ _ trivial (fun hHeld => ?_)
              clear hK K; refine norm_ (a' := ?_) ?_ ?_
              rotate_left
              ·show Act.put _ (some 70) _ = _
               simp only [Act.put, sA, sB, sC, i64_w, i32_w]
               rfl
              refine pure_ (i := 5) (N := some 74) (v := ?_) (a' := ?_) #[true, true, true, true, true, true, false] rfl rfl (by kernel_rfl) (fun _ _ _ h => h) (Or.inl ⟨by rfl, ?_⟩) ?_ ?_
              rotate_left
              ·intro w'
               go_simp
               with_reducible rfl
              rotate_left
              ·simp only [Act.put, sA, sB, sC, i64_w, i32_w]
               rfl
              refine pure_ (i := 6) (N := some 4) (v := ?_) (a' := ?_) #[true, true, true, true, true, true, true] rfl rfl (by kernel_rfl) (fun _ _ _ h => h) (Or.inl ⟨by rfl, ?_⟩) ?_ ?_
              rotate_left
              ·intro w'
               go_simp
               with_reducible rfl
              rotate_left
              ·simp only [Act.put, sA, sB, sC, i64_w, i32_w]
               rfl
              refine done_ (by kernel_rfl) ?_
              try go_wp2
              go_ret
              exact ⟨by first | rfl | (simp [errW_none, errW_some] <;> rfl) | (simp [*, errW_none, errW_some] <;> rfl), by repeat (first | (with_reducible first | exact HB.out | apply eA | apply eN | apply eD) | exact HB.out)⟩
             ·rw [if_neg c31] at H; exact absurd H (by simp)
           ·rw [if_neg c26] at H; exact absurd H (by simp)
          ·rw [if_neg c25] at H; exact absurd H (by simp)
         ·rw [if_neg c24] at H; have c24b0 : decide (x11_2 < (wrap64 ((a1.size : Int) - 1))) = false := decide_eq_false c24; clear c24; replace H := Option.bind_eq_some_iff.mp H; obtain ⟨t186, A340, H⟩ := H; replace H : (if 0 ≤ x11_2 then (if x11_2 ≤ (a1.size : Int) then (some (t186.toList == (a1.extract (x11_2 : Int).toNat a1.size).toList)) else (none)) else (none)) = some r := H; have A34 := Aside0.mk A340; clear A340
          by_cases c35 : 0 ≤ x11_2
          ·rw [if_pos c35] at H; have c35b0 := eq_true c35; have c35b1 : decide (0 ≤ x11_2) = true := decide_eq_true c35; clear c35
           by_cases c36 : x11_2 ≤ (a1.size : Int)
           ·rw [if_pos c36] at H; have c36b0 := eq_true c36; have c36b1 : decide (x11_2 ≤ (a1.size : Int)) = true := decide_eq_true c36; clear c36; obtain rfl := Option.some.inj H
            try go_wp2
            have n0_ := Aside0.mk (eD HB.out); clear HB; have HB := n0_; clear n0_; refine start_ (n := 7) (S := fun w' => True) (ds := []) #[false, false, false, false, false, false, false] (by kernel_rfl) rfl rfl trivial (fun hHeld => ?_)
            generalize wr.drew = w37 at HB hHeld ⊢; refine pure_ (i := 0) (N := some 69) (v := ?_) (a' := ?_) #[true, false, false, false, false, false, false] rfl rfl (by kernel_rfl) (fun _ _ _ h => h) (Or.inl ⟨by rfl, ?_⟩) ?_ ?_
            rotate_left
            ·intro w'
             go_simp
             with_reducible rfl
            rotate_left
            ·simp only [Act.put, sA, sB, sC, i64_w, i32_w]
             rfl
            refine pure_ (i := 2) (N := some 71) (v := ?_) (a' := ?_) #[true, false, true, false, false, false, false] rfl rfl (by kernel_rfl) (fun _ _ _ h => h) (Or.inl ⟨by rfl, ?_⟩) ?_ ?_
            rotate_left
            ·intro w'
             go_simp
             with_reducible rfl
            rotate_left
            ·simp only [Act.put, sA, sB, sC, i64_w, i32_w]
             rfl
            refine pure_ (i := 3) (N := some 72) (v := ?_) (a' := ?_) #[true, false, true, true, false, false, false] rfl rfl (by kernel_rfl) (fun _ _ _ h => h) (Or.inl ⟨by rfl, ?_⟩) ?_ ?_
            rotate_left
            ·intro w'
             go_simp
             with_reducible rfl
            rotate_left
            ·simp only [Act.put, sA, sB, sC, i64_w, i32_w]
             rfl
            refine pure_ (i := 4) (N := some 73) (v := ?_) (a' := ?_) #[true, false, true, true, true, false, false] rfl rfl (by kernel_rfl) (fun _ _ _ h => h) (Or.inl ⟨by rfl, ?_⟩) ?_ ?_
            rotate_left
            ·intro w'
             go_simp
             with_reducible rfl
            rotate_left
            ·simp only [Act.put, sA, sB, sC, i64_w, i32_w]
             rfl
            refine one_ (i := 1) (N := some 70) #[true, true, true, true, true, false, false] rfl rfl (by kernel_rfl) (by decide) (fun K hK => ?_)
            refine goes_ Tryd.func10 (by kernel_rfl) rfl #[.int .u64 t183] (by rfl) rfl rfl (by (try simp only [List.map_toArray, List.map_cons, List.map_nil]); first | done | rfl | (simp only [List.length_drop, List.length_take]; rfl)) ?_
            with_reducible refine (digits_Text.calls t183 t186 _ A34.out (by first | exact (LdS.t HL.out) | exact LdT.on (LdS.t HL.out) (by repeat (first | (with_reducible first | exact HB.out | apply eA | apply eN | apply eD) | exact HB.out)))).mono ?_
            rintro e w38 ⟨rfl, hb⟩
            refine ⟨_, rfl, ?_⟩
            have n0_ := Aside0.mk (below_step (by repeat (first | (with_reducible first | exact HB.out | apply eA | apply eN | apply eD) | exact HB.out)) hb); clear HB; have HB := n0_; clear n0_
            (try clear hb)
            (try clear hb2)
            (try clear hk)
            (try clear hi)
            refine hK.out _ _ trivial (fun hHeld => ?_)
            clear hK K; refine norm_ (a' := ?_) ?_ ?_
            rotate_left
            ·show Act.put _ (some 70) _ = _
             simp only [Act.put, sA, sB, sC, i64_w, i32_w]
             rfl
            refine pure_ (i := 5) (N := some 74) (v := ?_) (a' := ?_) #[true, true, true, true, true, true, false] rfl rfl (by kernel_rfl) (fun _ _ _ h => h) (Or.inl ⟨by rfl, ?_⟩) ?_ ?_
            rotate_left
            ·intro w'
             go_simp
             with_reducible rfl
            rotate_left
            ·simp only [Act.put, sA, sB, sC, i64_w, i32_w]
             rfl
            refine pure_ (i := 6) (N := some 4) (v := ?_) (a' := ?_) #[true, true, true, true, true, true, true] rfl rfl (by kernel_rfl) (fun _ _ _ h => h) (Or.inl ⟨by rfl, ?_⟩) ?_ ?_
            rotate_left
            ·intro w'
             go_simp
             with_reducible rfl
            rotate_left
            ·simp only [Act.put, sA, sB, sC, i64_w, i32_w]
             rfl
            refine done_ (by kernel_rfl) ?_
            try go_wp2
            go_ret
            exact ⟨by first | rfl | (simp [errW_none, errW_some] <;> rfl) | (simp [*, errW_none, errW_some] <;> rfl), by repeat (first | (with_reducible first | exact HB.out | apply eA | apply eN | apply eD) | exact HB.out)⟩
           ·rw [if_neg c36] at H; exact absurd H (by simp)
          ·rw [if_neg c35] at H; exact absurd H (by simp)
      ·rw [if_neg c22] at H; have c22b0 : (t184 == 0) = false := beq_eq_false_iff_ne.mpr c22; have c22b1 : (t184 != 0) = true := bne_iff_ne.mpr c22; obtain rfl := Option.some.inj H
       go_wp2_with (first | ((with_reducible refine gate_callee (f := 14) rfl ?_); refine goesL_ (some 49) rfl rfl Tryd.func14 (by kernel_rfl) rfl #[.string a1] rfl (by (try simp only [List.map_toArray, List.map_cons, List.map_nil]); first | done | rfl | (simp only [List.length_drop, List.length_take]; rfl)) ?_; (with_reducible refine (digits_Parse.calls a1 t183 t184 _ A21.out (by first | exact HL.out | exact LdS.on HL.out (by repeat (first | (with_reducible first | exact HB.out | apply eA | apply eN | apply eD) | exact HB.out)))).mono ?_); rintro e w39 ⟨rfl, hb⟩; refine ⟨_, rfl, ?_⟩; have n0_ := Aside0.mk (below_step (by repeat (first | (with_reducible first | exact HB.out | apply eA | apply eN | apply eD) | exact HB.out)) hb); clear HB; have HB := n0_; clear n0_; (try clear hb); (try clear hb2); (try clear hk); (try clear hi)))
       go_ret
       exact ⟨by first | rfl | (simp [errW_none, errW_some] <;> rfl) | (simp [*, errW_none, errW_some] <;> rfl), by repeat (first | (with_reducible first | exact HB.out | apply eA | apply eN | apply eD) | exact HB.out)⟩
 ·replace c4 := Bool.eq_false_iff.mpr c4; subst c4; have H1 : (none) = some r := by rw [if_neg (show ¬ (false = true) by decide)] at H; exact H
  clear H; have H := H1; clear H1; exact absurd H (by simp)

end Go.Proofs.YtbaegkghngbecaaDoor.P
