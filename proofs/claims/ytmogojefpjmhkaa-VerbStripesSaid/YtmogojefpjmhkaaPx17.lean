/- Lean functions for the Go functions that the laws of this seat use, and the proofs that the Go code computes them; conditions: the readings that each theorem names. Written by a program. -/
import Derived.Test.YtmogojefpjmhkaaPx0
import Derived.Test.YtmogojefpjmhkaaPx3
import Derived.Test.YtmogojefpjmhkaaPx5
import Derived.Test.YtmogojefpjmhkaaPx6
import Derived.Test.YtmogojefpjmhkaaPx9
import Derived.Test.YtmogojefpjmhkaaPx10
import Derived.Test.YtmogojefpjmhkaaPx11
import Derived.Test.YtmogojefpjmhkaaPx14
import Derived.Test.YtmogojefpjmhkaaPx15
import Derived.Test.YtmogojefpjmhkaaShort
namespace Go.Proofs.Ytmogojefpjmhkaa.P
open Go.RowKit Go.Proofs.YtmogojefpjmhkaaW.PrintWords Go.Proofs.YtmogojefpjmhkaaW.PrintLast Go.Proofs.YtmogojefpjmhkaaW.PrintMore
set_option linter.unusedVariables false
set_option linter.unusedSimpArgs false

/-! ### tallboylaw15_works: function 23 -/
def tallboylaw15_works.f (k : Nat)  : Option (Bool) := (verb_Check.f k 5 ([] : List ByteArray) 0 0 (⟨#[]⟩ : ByteArray) 0 0 false).bind fun t185 => (if t185 = 6 then ((verb_Check.f k 5 (([(⟨#[107]⟩ : ByteArray)] : List ByteArray)) 0 5 (⟨#[118]⟩ : ByteArray) 0 0 false).bind fun t189 => (if t189 = 0 then ((verb_Check.f k 1 (([(⟨#[107]⟩ : ByteArray)] : List ByteArray)) 0 5 (⟨#[]⟩ : ByteArray) 0 0 false).bind fun t193 => (if t193 = 6 then ((verb_Check.f k 0 ([] : List ByteArray) 0 0 (⟨#[]⟩ : ByteArray) 0 0 false).bind fun t194 => (if t194 = 70 then ((verb_Kind.f (⟨#[102, 108, 117, 115, 104, 95, 97, 108, 108]⟩ : ByteArray)).bind fun t195 => (if t195 = 15 then ((verb_Name.f 1).bind fun t196 => (if t196.toList = ([103, 101, 116] : List UInt8) then ((verb_Stripes.f k 15 ([] : List ByteArray) 0 0 (⟨#[]⟩ : ByteArray) 0 0 false).bind fun t197 => ((tallboyref06_Same.f k t197 (([0, 1, 2, 3] : List Int))).bind fun t203 => (if t203 = true then ((verb_Stores.f 10).bind fun t204 => (if t204 = true then ((verb_Stores.f 14).bind fun t205 => (some (!t205))) else (none))) else (none)))) else (none))) else (none))) else (none))) else (none))) else (none))) else (none))
theorem tallboylaw15_works.mono : ∀ k, LeO (tallboylaw15_works.f k ) (tallboylaw15_works.f (k + 1) ) := by
 intro  k
 unfold tallboylaw15_works.f
 repeat' first
   | (with_reducible exact tallboyref06_Same.mono _ _ _)
   | (with_reducible exact verb_Check.mono _ _ _ _ _ _ _ _ _)
   | (with_reducible exact verb_Stripes.mono _ _ _ _ _ _ _ _ _)
   | (with_reducible exact LeO.refl _)
   | (with_reducible exact LeO.none _)
   | (with_reducible refine LeO.ite ?_ ?_)
   | (with_reducible refine LeO.bind ?_ (fun _ => ?_))
   | exact tallboyref06_Same.mono _ _ _
   | exact verb_Check.mono _ _ _ _ _ _ _ _ _
   | exact verb_Stripes.mono _ _ _ _ _ _ _ _ _
   | exact LeO.none _
   | refine LeO.ite ?_ ?_
   | refine LeO.bind ?_ (fun _ => ?_)
set_option maxHeartbeats 8000000 in
set_option maxRecDepth 100000 in
theorem tallboylaw15_works.calls (k : Nat)  (r : Bool) (w : World) (h : tallboylaw15_works.f k  = some r) :
  Calls Try.prog 23 #[] w fun e w' => e = .returned (.bool r) ∧ Below w.heap.size w w' := by
 have hu30 := Try.underlying30; have HB := Aside0.mk (Below.refl w.heap.size w); have H : ((verb_Check.f k 5 ([] : List ByteArray) 0 0 (⟨#[]⟩ : ByteArray) 0 0 false).bind fun t185 => (if t185 = 6 then ((verb_Check.f k 5 (([(⟨#[107]⟩ : ByteArray)] : List ByteArray)) 0 5 (⟨#[118]⟩ : ByteArray) 0 0 false).bind fun t189 => (if t189 = 0 then ((verb_Check.f k 1 (([(⟨#[107]⟩ : ByteArray)] : List ByteArray)) 0 5 (⟨#[]⟩ : ByteArray) 0 0 false).bind fun t193 => (if t193 = 6 then ((verb_Check.f k 0 ([] : List ByteArray) 0 0 (⟨#[]⟩ : ByteArray) 0 0 false).bind fun t194 => (if t194 = 70 then ((verb_Kind.f (⟨#[102, 108, 117, 115, 104, 95, 97, 108, 108]⟩ : ByteArray)).bind fun t195 => (if t195 = 15 then ((verb_Name.f 1).bind fun t196 => (if t196.toList = ([103, 101, 116] : List UInt8) then ((verb_Stripes.f k 15 ([] : List ByteArray) 0 0 (⟨#[]⟩ : ByteArray) 0 0 false).bind fun t197 => ((tallboyref06_Same.f k t197 (([0, 1, 2, 3] : List Int))).bind fun t203 => (if t203 = true then ((verb_Stores.f 10).bind fun t204 => (if t204 = true then ((verb_Stores.f 14).bind fun t205 => (some (!t205))) else (none))) else (none)))) else (none))) else (none))) else (none))) else (none))) else (none))) else (none))) = some r := h; clear h; replace H := Option.bind_eq_some_iff.mp H; obtain ⟨t185, A10, H⟩ := H; replace H : (if t185 = 6 then ((verb_Check.f k 5 (([(⟨#[107]⟩ : ByteArray)] : List ByteArray)) 0 5 (⟨#[118]⟩ : ByteArray) 0 0 false).bind fun t189 => (if t189 = 0 then ((verb_Check.f k 1 (([(⟨#[107]⟩ : ByteArray)] : List ByteArray)) 0 5 (⟨#[]⟩ : ByteArray) 0 0 false).bind fun t193 => (if t193 = 6 then ((verb_Check.f k 0 ([] : List ByteArray) 0 0 (⟨#[]⟩ : ByteArray) 0 0 false).bind fun t194 => (if t194 = 70 then ((verb_Kind.f (⟨#[102, 108, 117, 115, 104, 95, 97, 108, 108]⟩ : ByteArray)).bind fun t195 => (if t195 = 15 then ((verb_Name.f 1).bind fun t196 => (if t196.toList = ([103, 101, 116] : List UInt8) then ((verb_Stripes.f k 15 ([] : List ByteArray) 0 0 (⟨#[]⟩ : ByteArray) 0 0 false).bind fun t197 => ((tallboyref06_Same.f k t197 (([0, 1, 2, 3] : List Int))).bind fun t203 => (if t203 = true then ((verb_Stores.f 10).bind fun t204 => (if t204 = true then ((verb_Stores.f 14).bind fun t205 => (some (!t205))) else (none))) else (none)))) else (none))) else (none))) else (none))) else (none))) else (none))) else (none)) = some r := H; have A1 := Aside0.mk A10; clear A10
 by_cases c2 : t185 = 6
 ·rw [if_pos c2] at H; have c2b0 : (t185 == 6) = true := beq_iff_eq.mpr c2; have c2b1 : (t185 != 6) = false := bne_eq_false_iff_eq.mpr c2; clear c2; obtain ⟨y186, hy186⟩ : ∃ y_ : List ByteArray, y_ = (([(⟨#[107]⟩ : ByteArray)] : List ByteArray)) := ⟨_, rfl⟩; replace H : ((verb_Check.f k 5 y186 0 5 (⟨#[118]⟩ : ByteArray) 0 0 false).bind fun t189 => (if t189 = 0 then ((verb_Check.f k 1 (([(⟨#[107]⟩ : ByteArray)] : List ByteArray)) 0 5 (⟨#[]⟩ : ByteArray) 0 0 false).bind fun t193 => (if t193 = 6 then ((verb_Check.f k 0 ([] : List ByteArray) 0 0 (⟨#[]⟩ : ByteArray) 0 0 false).bind fun t194 => (if t194 = 70 then ((verb_Kind.f (⟨#[102, 108, 117, 115, 104, 95, 97, 108, 108]⟩ : ByteArray)).bind fun t195 => (if t195 = 15 then ((verb_Name.f 1).bind fun t196 => (if t196.toList = ([103, 101, 116] : List UInt8) then ((verb_Stripes.f k 15 ([] : List ByteArray) 0 0 (⟨#[]⟩ : ByteArray) 0 0 false).bind fun t197 => ((tallboyref06_Same.f k t197 (([0, 1, 2, 3] : List Int))).bind fun t203 => (if t203 = true then ((verb_Stores.f 10).bind fun t204 => (if t204 = true then ((verb_Stores.f 14).bind fun t205 => (some (!t205))) else (none))) else (none)))) else (none))) else (none))) else (none))) else (none))) else (none))) = some r := by first | (rw [hy186]; with_reducible exact H) | (have H2_ := (Option.bind_some _ _).symm.trans H; rw [hy186]; with_reducible exact H2_) | (have H2_ := (Option.bind_some _ _).symm.trans H; with_reducible exact H2_) | with_reducible exact H | (rw [hy186]; exact H) | exact H
  have Ny186 := Aside0.mk hy186; clear hy186; replace H := Option.bind_eq_some_iff.mp H; obtain ⟨t189, A30, H⟩ := H; replace H : (if t189 = 0 then ((verb_Check.f k 1 (([(⟨#[107]⟩ : ByteArray)] : List ByteArray)) 0 5 (⟨#[]⟩ : ByteArray) 0 0 false).bind fun t193 => (if t193 = 6 then ((verb_Check.f k 0 ([] : List ByteArray) 0 0 (⟨#[]⟩ : ByteArray) 0 0 false).bind fun t194 => (if t194 = 70 then ((verb_Kind.f (⟨#[102, 108, 117, 115, 104, 95, 97, 108, 108]⟩ : ByteArray)).bind fun t195 => (if t195 = 15 then ((verb_Name.f 1).bind fun t196 => (if t196.toList = ([103, 101, 116] : List UInt8) then ((verb_Stripes.f k 15 ([] : List ByteArray) 0 0 (⟨#[]⟩ : ByteArray) 0 0 false).bind fun t197 => ((tallboyref06_Same.f k t197 (([0, 1, 2, 3] : List Int))).bind fun t203 => (if t203 = true then ((verb_Stores.f 10).bind fun t204 => (if t204 = true then ((verb_Stores.f 14).bind fun t205 => (some (!t205))) else (none))) else (none)))) else (none))) else (none))) else (none))) else (none))) else (none)) = some r := H; have A3 := Aside0.mk A30; clear A30
  by_cases c4 : t189 = 0
  ·rw [if_pos c4] at H; have c4b0 : (t189 == 0) = true := beq_iff_eq.mpr c4; have c4b1 : (t189 != 0) = false := bne_eq_false_iff_eq.mpr c4; clear c4; obtain ⟨y190, hy190⟩ : ∃ y_ : List ByteArray, y_ = (([(⟨#[107]⟩ : ByteArray)] : List ByteArray)) := ⟨_, rfl⟩; replace H : ((verb_Check.f k 1 y190 0 5 (⟨#[]⟩ : ByteArray) 0 0 false).bind fun t193 => (if t193 = 6 then ((verb_Check.f k 0 ([] : List ByteArray) 0 0 (⟨#[]⟩ : ByteArray) 0 0 false).bind fun t194 => (if t194 = 70 then ((verb_Kind.f (⟨#[102, 108, 117, 115, 104, 95, 97, 108, 108]⟩ : ByteArray)).bind fun t195 => (if t195 = 15 then ((verb_Name.f 1).bind fun t196 => (if t196.toList = ([103, 101, 116] : List UInt8) then ((verb_Stripes.f k 15 ([] : List ByteArray) 0 0 (⟨#[]⟩ : ByteArray) 0 0 false).bind fun t197 => ((tallboyref06_Same.f k t197 (([0, 1, 2, 3] : List Int))).bind fun t203 => (if t203 = true then ((verb_Stores.f 10).bind fun t204 => (if t204 = true then ((verb_Stores.f 14).bind fun t205 => (some (!t205))) else (none))) else (none)))) else (none))) else (none))) else (none))) else (none))) = some r := by first | (rw [hy190]; with_reducible exact H) | (have H2_ := (Option.bind_some _ _).symm.trans H; rw [hy190]; with_reducible exact H2_) | (have H2_ := (Option.bind_some _ _).symm.trans H; with_reducible exact H2_) | with_reducible exact H | (rw [hy190]; exact H) | exact H
   have Ny190 := Aside0.mk hy190; clear hy190; replace H := Option.bind_eq_some_iff.mp H; obtain ⟨t193, A50, H⟩ := H; replace H : (if t193 = 6 then ((verb_Check.f k 0 ([] : List ByteArray) 0 0 (⟨#[]⟩ : ByteArray) 0 0 false).bind fun t194 => (if t194 = 70 then ((verb_Kind.f (⟨#[102, 108, 117, 115, 104, 95, 97, 108, 108]⟩ : ByteArray)).bind fun t195 => (if t195 = 15 then ((verb_Name.f 1).bind fun t196 => (if t196.toList = ([103, 101, 116] : List UInt8) then ((verb_Stripes.f k 15 ([] : List ByteArray) 0 0 (⟨#[]⟩ : ByteArray) 0 0 false).bind fun t197 => ((tallboyref06_Same.f k t197 (([0, 1, 2, 3] : List Int))).bind fun t203 => (if t203 = true then ((verb_Stores.f 10).bind fun t204 => (if t204 = true then ((verb_Stores.f 14).bind fun t205 => (some (!t205))) else (none))) else (none)))) else (none))) else (none))) else (none))) else (none)) = some r := H; have A5 := Aside0.mk A50; clear A50
   by_cases c6 : t193 = 6
   ·rw [if_pos c6] at H; have c6b0 : (t193 == 6) = true := beq_iff_eq.mpr c6; have c6b1 : (t193 != 6) = false := bne_eq_false_iff_eq.mpr c6; clear c6; replace H := Option.bind_eq_some_iff.mp H; obtain ⟨t194, A70, H⟩ := H; replace H : (if t194 = 70 then ((verb_Kind.f (⟨#[102, 108, 117, 115, 104, 95, 97, 108, 108]⟩ : ByteArray)).bind fun t195 => (if t195 = 15 then ((verb_Name.f 1).bind fun t196 => (if t196.toList = ([103, 101, 116] : List UInt8) then ((verb_Stripes.f k 15 ([] : List ByteArray) 0 0 (⟨#[]⟩ : ByteArray) 0 0 false).bind fun t197 => ((tallboyref06_Same.f k t197 (([0, 1, 2, 3] : List Int))).bind fun t203 => (if t203 = true then ((verb_Stores.f 10).bind fun t204 => (if t204 = true then ((verb_Stores.f 14).bind fun t205 => (some (!t205))) else (none))) else (none)))) else (none))) else (none))) else (none)) = some r := H; have A7 := Aside0.mk A70; clear A70
    by_cases c8 : t194 = 70
    ·rw [if_pos c8] at H; have c8b0 : (t194 == 70) = true := beq_iff_eq.mpr c8; have c8b1 : (t194 != 70) = false := bne_eq_false_iff_eq.mpr c8; clear c8; replace H := Option.bind_eq_some_iff.mp H; obtain ⟨t195, A90, H⟩ := H; replace H : (if t195 = 15 then ((verb_Name.f 1).bind fun t196 => (if t196.toList = ([103, 101, 116] : List UInt8) then ((verb_Stripes.f k 15 ([] : List ByteArray) 0 0 (⟨#[]⟩ : ByteArray) 0 0 false).bind fun t197 => ((tallboyref06_Same.f k t197 (([0, 1, 2, 3] : List Int))).bind fun t203 => (if t203 = true then ((verb_Stores.f 10).bind fun t204 => (if t204 = true then ((verb_Stores.f 14).bind fun t205 => (some (!t205))) else (none))) else (none)))) else (none))) else (none)) = some r := H; have A9 := Aside0.mk A90; clear A90
     by_cases c10 : t195 = 15
     ·rw [if_pos c10] at H; have c10b0 : (t195 == 15) = true := beq_iff_eq.mpr c10; have c10b1 : (t195 != 15) = false := bne_eq_false_iff_eq.mpr c10; clear c10; replace H := Option.bind_eq_some_iff.mp H; obtain ⟨t196, A110, H⟩ := H; replace H : (if t196.toList = ([103, 101, 116] : List UInt8) then ((verb_Stripes.f k 15 ([] : List ByteArray) 0 0 (⟨#[]⟩ : ByteArray) 0 0 false).bind fun t197 => ((tallboyref06_Same.f k t197 (([0, 1, 2, 3] : List Int))).bind fun t203 => (if t203 = true then ((verb_Stores.f 10).bind fun t204 => (if t204 = true then ((verb_Stores.f 14).bind fun t205 => (some (!t205))) else (none))) else (none)))) else (none)) = some r := H; have A11 := Aside0.mk A110; clear A110
      by_cases c12 : t196.toList = ([103, 101, 116] : List UInt8)
      ·rw [if_pos c12] at H; have c12b0 : (t196.toList == ([103, 101, 116] : List UInt8)) = true := beq_iff_eq.mpr c12; have c12b1 : (t196.toList != ([103, 101, 116] : List UInt8)) = false := bne_eq_false_iff_eq.mpr c12; clear c12; replace H := Option.bind_eq_some_iff.mp H; obtain ⟨t197, A130, H⟩ := H; replace H : ((tallboyref06_Same.f k t197 (([0, 1, 2, 3] : List Int))).bind fun t203 => (if t203 = true then ((verb_Stores.f 10).bind fun t204 => (if t204 = true then ((verb_Stores.f 14).bind fun t205 => (some (!t205))) else (none))) else (none))) = some r := H; have A13 := Aside0.mk A130; clear A130; obtain ⟨y200, hy200⟩ : ∃ y_ : List Int, y_ = (([0, 1, 2, 3] : List Int)) := ⟨_, rfl⟩; replace H : ((tallboyref06_Same.f k t197 y200).bind fun t203 => (if t203 = true then ((verb_Stores.f 10).bind fun t204 => (if t204 = true then ((verb_Stores.f 14).bind fun t205 => (some (!t205))) else (none))) else (none))) = some r := by first | (rw [hy200]; with_reducible exact H) | (have H2_ := (Option.bind_some _ _).symm.trans H; rw [hy200]; with_reducible exact H2_) | (have H2_ := (Option.bind_some _ _).symm.trans H; with_reducible exact H2_) | with_reducible exact H | (rw [hy200]; exact H) | exact H
       have Ny200 := Aside0.mk hy200; clear hy200; replace H := Option.bind_eq_some_iff.mp H; obtain ⟨t203, A140, H⟩ := H; replace H : (if t203 = true then ((verb_Stores.f 10).bind fun t204 => (if t204 = true then ((verb_Stores.f 14).bind fun t205 => (some (!t205))) else (none))) else (none)) = some r := H; have A14 := Aside0.mk A140; clear A140
       by_cases c15 : t203 = true
       ·subst c15; have H1 : ((verb_Stores.f 10).bind fun t204 => (if t204 = true then ((verb_Stores.f 14).bind fun t205 => (some (!t205))) else (none))) = some r := by rw [if_pos rfl] at H; exact H
        clear H; have H := H1; clear H1; replace H := Option.bind_eq_some_iff.mp H; obtain ⟨t204, A160, H⟩ := H; replace H : (if t204 = true then ((verb_Stores.f 14).bind fun t205 => (some (!t205))) else (none)) = some r := H; have A16 := Aside0.mk A160; clear A160
        by_cases c17 : t204 = true
        ·subst c17; have H1 : ((verb_Stores.f 14).bind fun t205 => (some (!t205))) = some r := by rw [if_pos rfl] at H; exact H
         clear H; have H := H1; clear H1; replace H := Option.bind_eq_some_iff.mp H; obtain ⟨t205, A180, H⟩ := H; replace H : (some (!t205)) = some r := H; have A18 := Aside0.mk A180; clear A180; obtain rfl := Option.some.inj H; go_enter Try.func23, Try.ntmps23
         go_wp2_with (first | ((with_reducible refine gate_callee (f := 17) rfl ?_); refine goesL_ (some 2) rfl rfl Try.func17 (by kernel_rfl) rfl #[.agg #[.int .i64 5, .slice none 0 0, .int .u32 0, .int .i64 0, .string (⟨#[]⟩ : ByteArray), .int .u64 0, .int .u64 0, .bool false]] rfl (by (try simp only [List.map_toArray, List.map_cons, List.map_nil]); first | done | rfl | (simp only [List.length_drop, List.length_take]; rfl)) ?_; (refine (verb_Check.calls k 5 _ _ ([] : List ByteArray) 0 0 (⟨#[]⟩ : ByteArray) 0 0 false t185 _ ?side1 ?side2 A1.out).mono ?_); (case side1 => exact Kd.C_nil _ _); (case side2 => exact Nat.le_refl _); rintro e w19 ⟨rfl, hb⟩; refine ⟨_, rfl, ?_⟩; have n0_ := Aside0.mk (below_step (by repeat (first | (with_reducible first | exact HB.out | apply eA | apply eN | apply eD) | exact HB.out)) hb); clear HB; have HB := n0_; clear n0_; (try clear hb); (try clear hb2); (try clear hk); (try clear hi)) | ((with_reducible refine gate_dst (N := 5) rfl ?_); (try (refine gate_guard (by rfl) ?_; dsimp only)); refine Kd.R_lit Kd.string _ 9 ?hg (N := 5) ?hd (xs := ([(⟨#[107]⟩ : ByteArray)] : List ByteArray)) (inner := [.string (⟨#[107]⟩ : ByteArray)]) (ok := fun _ => True) (okp := fun _ => True) ?hr ?hp (fun _ hk => hk) trivial (Below.refl _ _) (Nat.le_refl _) (by simp) ?_; (case hd => rfl); (case hg => rfl); (case hr => first | (go_simp; done) | (go_simp; rfl)); (case hp => exact (Reps.one (show Kd.M Kd.string _ _ _ (⟨#[107]⟩ : ByteArray) [.string (⟨#[107]⟩ : ByteArray)] from rfl) (Reps.none _ _))); intro v187 w20 ho21 hb hg_ hnew_; clear hg_ hnew_; (first | rw [← Ny186.out] at ho21 | (simp only [Int.reduceToNat] at ho21; rw [← Ny186.out] at ho21)); have n0_ := Aside0.mk (Kd.R_lower ho21 (below_size (by repeat (first | (with_reducible first | exact HB.out | apply eA | apply eN | apply eD) | exact HB.out)))); have n1_ := Aside0.mk (below_step (by repeat (first | (with_reducible first | exact HB.out | apply eA | apply eN | apply eD) | exact HB.out)) hb); clear HB; have HO188 := n0_; have HB := n1_; clear n0_ n1_; clear hb ho21; obtain ⟨Ao22, co22, eo22⟩ := Kd.R_slice HO188.out; subst eo22) | (go_at_call 17; (with_reducible refine (verb_Check.calls k 5 _ _ y186 0 5 (⟨#[118]⟩ : ByteArray) 0 0 false t189 _ ?side1 ?side2 A3.out).mono ?_); (case side1 => repeat (first | exact (Kd.R_reads' HO188.out).2.2 | (with_reducible refine Kd.C_alloc ?_ _) | (with_reducible refine Kd.C_drewN ?_ _) | (with_reducible refine Kd.C_drew ?_))); (case side2 => exact (Kd.R_reads' HO188.out).2.1); rintro e w23 ⟨rfl, hb⟩; have n0_ := Aside0.mk (Kd.R_below (by (with_reducible repeat (first | apply Kd.R_alloc | apply Kd.R_drewN | apply Kd.R_drew)); exact HO188.out) hb); have n1_ := Aside0.mk (below_step (by repeat (first | (with_reducible first | exact HB.out | apply eA | apply eN | apply eD) | exact HB.out)) hb); clear HO188; clear HB; have HO188 := n0_; have HB := n1_; clear n0_ n1_; (try clear hb); (try clear hb2); (try clear hk); (try clear hi)) | ((with_reducible refine gate_dst (N := 11) rfl ?_); (try (refine gate_guard (by rfl) ?_; dsimp only)); refine Kd.R_lit Kd.string _ 9 ?hg (N := 11) ?hd (xs := ([(⟨#[107]⟩ : ByteArray)] : List ByteArray)) (inner := [.string (⟨#[107]⟩ : ByteArray)]) (ok := fun _ => True) (okp := fun _ => True) ?hr ?hp (fun _ hk => hk) trivial (Below.refl _ _) (Nat.le_refl _) (by simp) ?_; (case hd => rfl); (case hg => rfl); (case hr => first | (go_simp; done) | (go_simp; rfl)); (case hp => exact (Reps.one (show Kd.M Kd.string _ _ _ (⟨#[107]⟩ : ByteArray) [.string (⟨#[107]⟩ : ByteArray)] from rfl) (Reps.none _ _))); intro v191 w24 ho25 hb hg_ hnew_; clear hg_ hnew_; (first | rw [← Ny190.out] at ho25 | (simp only [Int.reduceToNat] at ho25; rw [← Ny190.out] at ho25)); have n0_ := Aside0.mk (Kd.R_elder' (by (with_reducible repeat (first | apply Kd.R_alloc | apply Kd.R_drewN | apply Kd.R_drew)); exact HO188.out) (Kd.R_base ho25) hb); have n1_ := Aside0.mk (Kd.R_lower (Kd.R_new' ho25 (Kd.R_lt (by (with_reducible repeat (first | apply Kd.R_alloc | apply Kd.R_drewN | apply Kd.R_drew)); exact HO188.out))) (below_size (by repeat (first | (with_reducible first | exact HB.out | apply eA | apply eN | apply eD) | exact HB.out)))); have n2_ := Aside0.mk (below_step (by repeat (first | (with_reducible first | exact HB.out | apply eA | apply eN | apply eD) | exact HB.out)) hb); clear HO188; clear HB; have HO188 := n0_; have HO192 := n1_; have HB := n2_; clear n0_ n1_ n2_; clear hb ho25; obtain ⟨Ao26, co26, eo26⟩ := Kd.R_slice HO192.out; subst eo26) | (go_at_call 17; (with_reducible refine (verb_Check.calls k 1 _ _ y190 0 5 (⟨#[]⟩ : ByteArray) 0 0 false t193 _ ?side1 ?side2 A5.out).mono ?_); (case side1 => repeat (first | exact (Kd.R_reads' HO192.out).2.2 | (with_reducible refine Kd.C_alloc ?_ _) | (with_reducible refine Kd.C_drewN ?_ _) | (with_reducible refine Kd.C_drew ?_))); (case side2 => exact (Kd.R_reads' HO192.out).2.1); rintro e w27 ⟨rfl, hb⟩; have n0_ := Aside0.mk (Kd.R_below (by (with_reducible repeat (first | apply Kd.R_alloc | apply Kd.R_drewN | apply Kd.R_drew)); exact HO188.out) hb); have n1_ := Aside0.mk (Kd.R_below (by (with_reducible repeat (first | apply Kd.R_alloc | apply Kd.R_drewN | apply Kd.R_drew)); exact HO192.out) hb); have n2_ := Aside0.mk (below_step (by repeat (first | (with_reducible first | exact HB.out | apply eA | apply eN | apply eD) | exact HB.out)) hb); clear HO188; clear HO192; clear HB; have HO188 := n0_; have HO192 := n1_; have HB := n2_; clear n0_ n1_ n2_; (try clear hb); (try clear hb2); (try clear hk); (try clear hi)) | (go_at_call 17; (refine (verb_Check.calls k 0 _ _ ([] : List ByteArray) 0 0 (⟨#[]⟩ : ByteArray) 0 0 false t194 _ ?side1 ?side2 A7.out).mono ?_); (case side1 => exact Kd.C_nil _ _); (case side2 => exact Nat.le_refl _); rintro e w28 ⟨rfl, hb⟩; have n0_ := Aside0.mk (Kd.R_below (by (with_reducible repeat (first | apply Kd.R_alloc | apply Kd.R_drewN | apply Kd.R_drew)); exact HO188.out) hb); have n1_ := Aside0.mk (Kd.R_below (by (with_reducible repeat (first | apply Kd.R_alloc | apply Kd.R_drewN | apply Kd.R_drew)); exact HO192.out) hb); have n2_ := Aside0.mk (below_step (by repeat (first | (with_reducible first | exact HB.out | apply eA | apply eN | apply eD) | exact HB.out)) hb); clear HO188; clear HO192; clear HB; have HO188 := n0_; have HO192 := n1_; have HB := n2_; clear n0_ n1_ n2_; (try clear hb); (try clear hb2); (try clear hk); (try clear hi)) | (go_at_call 10; (with_reducible refine (verb_Kind.calls (⟨#[102, 108, 117, 115, 104, 95, 97, 108, 108]⟩ : ByteArray) t195 _ A9.out).mono ?_); rintro e w29 ⟨rfl, hb⟩; have n0_ := Aside0.mk (Kd.R_below (by (with_reducible repeat (first | apply Kd.R_alloc | apply Kd.R_drewN | apply Kd.R_drew)); exact HO188.out) hb); have n1_ := Aside0.mk (Kd.R_below (by (with_reducible repeat (first | apply Kd.R_alloc | apply Kd.R_drewN | apply Kd.R_drew)); exact HO192.out) hb); have n2_ := Aside0.mk (below_step (by repeat (first | (with_reducible first | exact HB.out | apply eA | apply eN | apply eD) | exact HB.out)) hb); clear HO188; clear HO192; clear HB; have HO188 := n0_; have HO192 := n1_; have HB := n2_; clear n0_ n1_ n2_; (try clear hb); (try clear hb2); (try clear hk); (try clear hi)) | (go_at_call 8; (with_reducible refine (verb_Name.calls 1 t196 _ A11.out).mono ?_); rintro e w30 ⟨rfl, hb⟩; have n0_ := Aside0.mk (Kd.R_below (by (with_reducible repeat (first | apply Kd.R_alloc | apply Kd.R_drewN | apply Kd.R_drew)); exact HO188.out) hb); have n1_ := Aside0.mk (Kd.R_below (by (with_reducible repeat (first | apply Kd.R_alloc | apply Kd.R_drewN | apply Kd.R_drew)); exact HO192.out) hb); have n2_ := Aside0.mk (below_step (by repeat (first | (with_reducible first | exact HB.out | apply eA | apply eN | apply eD) | exact HB.out)) hb); clear HO188; clear HO192; clear HB; have HO188 := n0_; have HO192 := n1_; have HB := n2_; clear n0_ n1_ n2_; (try clear hb); (try clear hb2); (try clear hk); (try clear hi)) | (go_at_call 21; (refine (verb_Stripes.calls k 15 _ _ ([] : List ByteArray) 0 0 (⟨#[]⟩ : ByteArray) 0 0 false t197 _ ?side1 ?side2 A13.out).mono ?_); (case side1 => exact Kd.C_nil _ _); (case side2 => exact Nat.le_refl _); rintro e w31 ⟨v198, rfl, ho0, hb⟩; have n0_ := Aside0.mk (Kd.R_below (by (with_reducible repeat (first | apply Kd.R_alloc | apply Kd.R_drewN | apply Kd.R_drew)); exact HO188.out) hb); have n1_ := Aside0.mk (Kd.R_below (by (with_reducible repeat (first | apply Kd.R_alloc | apply Kd.R_drewN | apply Kd.R_drew)); exact HO192.out) hb); have n2_ := Aside0.mk (Kd.R_lower ho0 (below_size (by repeat (first | (with_reducible first | exact HB.out | apply eA | apply eN | apply eD) | exact HB.out)))); have n3_ := Aside0.mk (below_step (by repeat (first | (with_reducible first | exact HB.out | apply eA | apply eN | apply eD) | exact HB.out)) hb); clear HO188; clear HO192; clear HB; have HO188 := n0_; have HO192 := n1_; have HO199 := n2_; have HB := n3_; clear n0_ n1_ n2_ n3_; (try clear hb); (try clear hb2); (try clear hk); (try clear hi); (try clear ho0)) | ((with_reducible refine gate_dst (N := 32) rfl ?_); (try (refine gate_guard (by rfl) ?_; dsimp only)); refine Kd.R_lit (Kd.int .i64) _ 3 ?hg (N := 32) ?hd (xs := ([0, 1, 2, 3] : List Int)) (inner := [.int .i64 0, .int .i64 1, .int .i64 2, .int .i64 3]) (ok := fun _ => True) (okp := fun _ => True) ?hr ?hp (fun _ hk => hk) trivial (Below.refl _ _) (Nat.le_refl _) (by simp) ?_; (case hd => rfl); (case hg => rfl); (case hr => first | (go_simp; done) | (go_simp; rfl)); (case hp => exact (Reps.one (show Kd.M (Kd.int .i64) _ _ _ 0 [.int .i64 0] from rfl) (Reps.one (show Kd.M (Kd.int .i64) _ _ _ 1 [.int .i64 1] from rfl) (Reps.one (show Kd.M (Kd.int .i64) _ _ _ 2 [.int .i64 2] from rfl) (Reps.one (show Kd.M (Kd.int .i64) _ _ _ 3 [.int .i64 3] from rfl) (Reps.none _ _)))))); intro v201 w32 ho33 hb hg_ hnew_; clear hg_ hnew_; (first | rw [← Ny200.out] at ho33 | (simp only [Int.reduceToNat] at ho33; rw [← Ny200.out] at ho33)); have n0_ := Aside0.mk (Kd.R_below (by (with_reducible repeat (first | apply Kd.R_alloc | apply Kd.R_drewN | apply Kd.R_drew)); exact HO188.out) hb); have n1_ := Aside0.mk (Kd.R_below (by (with_reducible repeat (first | apply Kd.R_alloc | apply Kd.R_drewN | apply Kd.R_drew)); exact HO192.out) hb); have n2_ := Aside0.mk (Kd.R_elder' (by (with_reducible repeat (first | apply Kd.R_alloc | apply Kd.R_drewN | apply Kd.R_drew)); exact HO199.out) (Kd.R_base ho33) hb); have n3_ := Aside0.mk (Kd.R_lower (Kd.R_new' ho33 (Kd.R_lt (by (with_reducible repeat (first | apply Kd.R_alloc | apply Kd.R_drewN | apply Kd.R_drew)); exact HO199.out))) (below_size (by repeat (first | (with_reducible first | exact HB.out | apply eA | apply eN | apply eD) | exact HB.out)))); have n4_ := Aside0.mk (below_step (by repeat (first | (with_reducible first | exact HB.out | apply eA | apply eN | apply eD) | exact HB.out)) hb); clear HO188; clear HO192; clear HO199; clear HB; have HO188 := n0_; have HO192 := n1_; have HO199 := n2_; have HO202 := n3_; have HB := n4_; clear n0_ n1_ n2_ n3_ n4_; clear hb ho33; obtain ⟨Ao34, co34, eo34⟩ := Kd.R_slice HO199.out; subst eo34; obtain ⟨Ao35, co35, eo35⟩ := Kd.R_slice HO202.out; subst eo35) | (go_at_call 20; (with_reducible refine (tallboyref06_Same.calls k _ _ t197 _ _ y200 true _ ?side1 ?side2 ?side3 ?side4 A14.out).mono ?_); (case side1 => repeat (first | exact (Kd.R_reads' HO199.out).2.2 | (with_reducible refine Kd.C_alloc ?_ _) | (with_reducible refine Kd.C_drewN ?_ _) | (with_reducible refine Kd.C_drew ?_))); (case side2 => exact (Kd.R_reads' HO199.out).2.1); (case side3 => repeat (first | exact (Kd.R_reads' HO202.out).2.2 | (with_reducible refine Kd.C_alloc ?_ _) | (with_reducible refine Kd.C_drewN ?_ _) | (with_reducible refine Kd.C_drew ?_))); (case side4 => exact (Kd.R_reads' HO202.out).2.1); rintro e w' ⟨rfl, ⟨nd, rfl⟩⟩) | (go_at_call 12; (with_reducible refine (verb_Stores.calls 10 true _ A16.out).mono ?_); rintro e w' ⟨rfl, ⟨nd, rfl⟩⟩) | (go_at_call 12; (with_reducible refine (verb_Stores.calls 14 t205 _ A18.out).mono ?_); rintro e w' ⟨rfl, ⟨nd, rfl⟩⟩))
         go_ret
         exact ⟨by first | rfl | (simp [errW_none, errW_some] <;> rfl) | (simp [*, errW_none, errW_some] <;> rfl), by repeat (first | (with_reducible first | exact HB.out | apply eA | apply eN | apply eD) | exact HB.out)⟩
        ·replace c17 := Bool.eq_false_iff.mpr c17; subst c17; have H1 : (none) = some r := by rw [if_neg (show ¬ (false = true) by decide)] at H; exact H
         clear H; have H := H1; clear H1; exact absurd H (by simp)
       ·replace c15 := Bool.eq_false_iff.mpr c15; subst c15; have H1 : (none) = some r := by rw [if_neg (show ¬ (false = true) by decide)] at H; exact H
        clear H; have H := H1; clear H1; exact absurd H (by simp)
      ·rw [if_neg c12] at H; exact absurd H (by simp)
     ·rw [if_neg c10] at H; exact absurd H (by simp)
    ·rw [if_neg c8] at H; exact absurd H (by simp)
   ·rw [if_neg c6] at H; exact absurd H (by simp)
  ·rw [if_neg c4] at H; exact absurd H (by simp)
 ·rw [if_neg c2] at H; exact absurd H (by simp)

/-! ### tallboylaw15_VerbBack: function 5 -/
def tallboylaw15_VerbBack.j0 : Nat → ByteArray → Bool → Option (Bool)
 | 0, _, _ => none
 | k + 1, x1, x37 => if x37 = true then (none) else ((verb_Kind.f x1).bind fun t211 => (if t211 = 0 then (some true) else ((verb_Name.f t211).bind fun t212 => (some (t212.toList == x1.toList)))))
def tallboylaw15_VerbBack.f (k : Nat) (a0 : Int) (a1 : ByteArray) (a2 : Int) : Option (Bool) := (tallboylaw15_works.f k).bind fun t206 => (if t206 = true then ((verb_Name.f (wrap64 (1 + (wrap64 (Int.tmod (IntKind.u64.wrap (a0)) 15))))).bind fun t207 => ((verb_Kind.f t207).bind fun t208 => (if t208 = (wrap64 (1 + (wrap64 (Int.tmod (IntKind.u64.wrap (a0)) 15)))) then ((verb_Name.f (wrap64 (1 + (wrap64 (Int.tmod (IntKind.u64.wrap (a0)) 15))))).bind fun t209 => ((verb_Name.f (wrap64 (1 + (wrap64 (Int.tmod (IntKind.u64.wrap (a2)) 15))))).bind fun t210 => (tallboylaw15_VerbBack.j0 k a1 ((t209.toList == t210.toList) != ((wrap64 (1 + (wrap64 (Int.tmod (IntKind.u64.wrap (a0)) 15)))) == (wrap64 (1 + (wrap64 (Int.tmod (IntKind.u64.wrap (a2)) 15))))))))) else (tallboylaw15_VerbBack.j0 k a1 true)))) else (none))
theorem tallboylaw15_VerbBack.mono_l : ∀ k, (∀ y0 y1, LeO (tallboylaw15_VerbBack.j0 k y0 y1) (tallboylaw15_VerbBack.j0 (k + 1) y0 y1))
 | 0 => fun _ _ r h => by simp [tallboylaw15_VerbBack.j0] at h
 | k + 1 => by
  have ih0 := tallboylaw15_VerbBack.mono_l k
  ·intro y0 y1
   unfold tallboylaw15_VerbBack.j0
   repeat' first
   | (with_reducible exact ih0 _ _)
   | (with_reducible exact tallboylaw15_works.mono _)
   | (with_reducible exact LeO.refl _)
   | (with_reducible exact LeO.none _)
   | (with_reducible refine LeO.ite ?_ ?_)
   | (with_reducible refine LeO.bind ?_ (fun _ => ?_))
   | exact ih0 _ _
   | exact tallboylaw15_works.mono _
   | exact LeO.none _
   | refine LeO.ite ?_ ?_
   | refine LeO.bind ?_ (fun _ => ?_)
theorem tallboylaw15_VerbBack.mono : ∀ a0 a1 a2 k, LeO (tallboylaw15_VerbBack.f k a0 a1 a2) (tallboylaw15_VerbBack.f (k + 1) a0 a1 a2) := by
 intro a0 a1 a2 k
 have ih0 := tallboylaw15_VerbBack.mono_l k; unfold tallboylaw15_VerbBack.f
 repeat' first
   | (with_reducible exact ih0 _ _)
   | (with_reducible exact tallboylaw15_works.mono _)
   | (with_reducible exact LeO.refl _)
   | (with_reducible exact LeO.none _)
   | (with_reducible refine LeO.ite ?_ ?_)
   | (with_reducible refine LeO.bind ?_ (fun _ => ?_))
   | exact ih0 _ _
   | exact tallboylaw15_works.mono _
   | exact LeO.none _
   | refine LeO.ite ?_ ?_
   | refine LeO.bind ?_ (fun _ => ?_)
set_option maxHeartbeats 8000000 in
set_option maxRecDepth 100000 in
theorem tallboylaw15_VerbBack.calls (k : Nat) (a0 : Int) (a1 : ByteArray) (a2 : Int) (r : Bool) (w : World) (h : tallboylaw15_VerbBack.f k a0 a1 a2 = some r) :
  Calls Try.prog 5 #[.int .i64 a0, .string a1, .int .i64 a2] w fun e w' => e = .returned (.bool r) ∧ Below w.heap.size w w' := by
 have HB := Aside0.mk (Below.refl w.heap.size w); have H : ((tallboylaw15_works.f k).bind fun t206 => (if t206 = true then ((verb_Name.f (wrap64 (1 + (wrap64 (Int.tmod (IntKind.u64.wrap (a0)) 15))))).bind fun t207 => ((verb_Kind.f t207).bind fun t208 => (if t208 = (wrap64 (1 + (wrap64 (Int.tmod (IntKind.u64.wrap (a0)) 15)))) then ((verb_Name.f (wrap64 (1 + (wrap64 (Int.tmod (IntKind.u64.wrap (a0)) 15))))).bind fun t209 => ((verb_Name.f (wrap64 (1 + (wrap64 (Int.tmod (IntKind.u64.wrap (a2)) 15))))).bind fun t210 => (tallboylaw15_VerbBack.j0 k a1 ((t209.toList == t210.toList) != ((wrap64 (1 + (wrap64 (Int.tmod (IntKind.u64.wrap (a0)) 15)))) == (wrap64 (1 + (wrap64 (Int.tmod (IntKind.u64.wrap (a2)) 15))))))))) else (tallboylaw15_VerbBack.j0 k a1 true)))) else (none))) = some r := h; clear h; replace H := Option.bind_eq_some_iff.mp H; obtain ⟨t206, A40, H⟩ := H; replace H : (if t206 = true then ((verb_Name.f (wrap64 (1 + (wrap64 (Int.tmod (IntKind.u64.wrap (a0)) 15))))).bind fun t207 => ((verb_Kind.f t207).bind fun t208 => (if t208 = (wrap64 (1 + (wrap64 (Int.tmod (IntKind.u64.wrap (a0)) 15)))) then ((verb_Name.f (wrap64 (1 + (wrap64 (Int.tmod (IntKind.u64.wrap (a0)) 15))))).bind fun t209 => ((verb_Name.f (wrap64 (1 + (wrap64 (Int.tmod (IntKind.u64.wrap (a2)) 15))))).bind fun t210 => (tallboylaw15_VerbBack.j0 k a1 ((t209.toList == t210.toList) != ((wrap64 (1 + (wrap64 (Int.tmod (IntKind.u64.wrap (a0)) 15)))) == (wrap64 (1 + (wrap64 (Int.tmod (IntKind.u64.wrap (a2)) 15))))))))) else (tallboylaw15_VerbBack.j0 k a1 true)))) else (none)) = some r := H; have A4 := Aside0.mk A40; clear A40
 by_cases c5 : t206 = true
 ·subst c5; have H1 : ((verb_Name.f (wrap64 (1 + (wrap64 (Int.tmod (IntKind.u64.wrap (a0)) 15))))).bind fun t207 => ((verb_Kind.f t207).bind fun t208 => (if t208 = (wrap64 (1 + (wrap64 (Int.tmod (IntKind.u64.wrap (a0)) 15)))) then ((verb_Name.f (wrap64 (1 + (wrap64 (Int.tmod (IntKind.u64.wrap (a0)) 15))))).bind fun t209 => ((verb_Name.f (wrap64 (1 + (wrap64 (Int.tmod (IntKind.u64.wrap (a2)) 15))))).bind fun t210 => (tallboylaw15_VerbBack.j0 k a1 ((t209.toList == t210.toList) != ((wrap64 (1 + (wrap64 (Int.tmod (IntKind.u64.wrap (a0)) 15)))) == (wrap64 (1 + (wrap64 (Int.tmod (IntKind.u64.wrap (a2)) 15))))))))) else (tallboylaw15_VerbBack.j0 k a1 true)))) = some r := by rw [if_pos rfl] at H; exact H
  clear H; have H := H1; clear H1; have HC6 := Aside0.mk H; clear H; go_enter Try.func5, Try.ntmps5
  go_upto_region 4 with (first | ((with_reducible refine gate_callee (f := 23) rfl ?_); refine goesL_ (some 10) rfl rfl Try.func23 (by kernel_rfl) rfl #[] rfl (by (try simp only [List.map_toArray, List.map_cons, List.map_nil]); first | done | rfl | (simp only [List.length_drop, List.length_take]; rfl)) ?_; (with_reducible refine (tallboylaw15_works.calls k  true _ A4.out).mono ?_); rintro e w7 ⟨rfl, hb⟩; refine ⟨_, rfl, ?_⟩; have n0_ := Aside0.mk (below_step (by repeat (first | (with_reducible first | exact HB.out | apply eA | apply eN | apply eD) | exact HB.out)) hb); clear HB; have HB := n0_; clear n0_; (try clear hb); (try clear hb2); (try clear hk); (try clear hi)))
  (try simp only [Act.put, sA, sB, sC])
  go_cut [37] (fun v37 wc => ∃ (kq : Nat) (x37_5 : Bool), v37 = .bool x37_5 ∧ Aside0 (tallboylaw15_VerbBack.j0 kq a1 x37_5 = some r) ∧ Aside0 (kq ≤ k) ∧ Aside0 (Below w.heap.size w wc))
  case first =>
   have H := HC6.out; clear HC6; replace H := Option.bind_eq_some_iff.mp H; obtain ⟨t207, A80, H⟩ := H; replace H : ((verb_Kind.f t207).bind fun t208 => (if t208 = (wrap64 (1 + (wrap64 (Int.tmod (IntKind.u64.wrap (a0)) 15)))) then ((verb_Name.f (wrap64 (1 + (wrap64 (Int.tmod (IntKind.u64.wrap (a0)) 15))))).bind fun t209 => ((verb_Name.f (wrap64 (1 + (wrap64 (Int.tmod (IntKind.u64.wrap (a2)) 15))))).bind fun t210 => (tallboylaw15_VerbBack.j0 k a1 ((t209.toList == t210.toList) != ((wrap64 (1 + (wrap64 (Int.tmod (IntKind.u64.wrap (a0)) 15)))) == (wrap64 (1 + (wrap64 (Int.tmod (IntKind.u64.wrap (a2)) 15))))))))) else (tallboylaw15_VerbBack.j0 k a1 true))) = some r := H; have A8 := Aside0.mk A80; clear A80; replace H := Option.bind_eq_some_iff.mp H; obtain ⟨t208, A90, H⟩ := H; replace H : (if t208 = (wrap64 (1 + (wrap64 (Int.tmod (IntKind.u64.wrap (a0)) 15)))) then ((verb_Name.f (wrap64 (1 + (wrap64 (Int.tmod (IntKind.u64.wrap (a0)) 15))))).bind fun t209 => ((verb_Name.f (wrap64 (1 + (wrap64 (Int.tmod (IntKind.u64.wrap (a2)) 15))))).bind fun t210 => (tallboylaw15_VerbBack.j0 k a1 ((t209.toList == t210.toList) != ((wrap64 (1 + (wrap64 (Int.tmod (IntKind.u64.wrap (a0)) 15)))) == (wrap64 (1 + (wrap64 (Int.tmod (IntKind.u64.wrap (a2)) 15))))))))) else (tallboylaw15_VerbBack.j0 k a1 true)) = some r := H; have A9 := Aside0.mk A90; clear A90
   by_cases c10 : t208 = (wrap64 (1 + (wrap64 (Int.tmod (IntKind.u64.wrap (a0)) 15))))
   ·rw [if_pos c10] at H; have c10b0 : (t208 == (wrap64 (1 + (wrap64 (Int.tmod (IntKind.u64.wrap (a0)) 15))))) = true := beq_iff_eq.mpr c10; have c10b1 : (t208 != (wrap64 (1 + (wrap64 (Int.tmod (IntKind.u64.wrap (a0)) 15))))) = false := bne_eq_false_iff_eq.mpr c10; clear c10
    (first | rw [c10b0] | (simp only [i64_w, i32_w]; rw [c10b0]) | skip)
    replace H := Option.bind_eq_some_iff.mp H; obtain ⟨t209, A110, H⟩ := H; replace H : ((verb_Name.f (wrap64 (1 + (wrap64 (Int.tmod (IntKind.u64.wrap (a2)) 15))))).bind fun t210 => (tallboylaw15_VerbBack.j0 k a1 ((t209.toList == t210.toList) != ((wrap64 (1 + (wrap64 (Int.tmod (IntKind.u64.wrap (a0)) 15)))) == (wrap64 (1 + (wrap64 (Int.tmod (IntKind.u64.wrap (a2)) 15)))))))) = some r := H; have A11 := Aside0.mk A110; clear A110; replace H := Option.bind_eq_some_iff.mp H; obtain ⟨t210, A120, H⟩ := H; replace H : (tallboylaw15_VerbBack.j0 k a1 ((t209.toList == t210.toList) != ((wrap64 (1 + (wrap64 (Int.tmod (IntKind.u64.wrap (a0)) 15)))) == (wrap64 (1 + (wrap64 (Int.tmod (IntKind.u64.wrap (a2)) 15))))))) = some r := H; have A12 := Aside0.mk A120; clear A120; have H' := Aside0.mk H; clear H
    go_wp2_with (first | ((with_reducible refine gate_callee (f := 8) rfl ?_); refine goesL_ (some 23) rfl rfl Try.func8 (by kernel_rfl) rfl #[.int .i64 (wrap64 (1 + (wrap64 (Int.tmod (IntKind.u64.wrap (a0)) 15))))] rfl (by (try simp only [List.map_toArray, List.map_cons, List.map_nil]); first | done | rfl | (simp only [List.length_drop, List.length_take]; rfl)) ?_; (with_reducible refine (verb_Name.calls (wrap64 (1 + (wrap64 (Int.tmod (IntKind.u64.wrap (a0)) 15)))) t207 _ A8.out).mono ?_); rintro e w13 ⟨rfl, hb⟩; refine ⟨_, rfl, ?_⟩; have n0_ := Aside0.mk (below_step (by repeat (first | (with_reducible first | exact HB.out | apply eA | apply eN | apply eD) | exact HB.out)) hb); clear HB; have HB := n0_; clear n0_; (try clear hb); (try clear hb2); (try clear hk); (try clear hi)) | ((with_reducible refine gate_callee (f := 10) rfl ?_); refine goesL_ (some 24) rfl rfl Try.func10 (by kernel_rfl) rfl #[.string t207] rfl (by (try simp only [List.map_toArray, List.map_cons, List.map_nil]); first | done | rfl | (simp only [List.length_drop, List.length_take]; rfl)) ?_; (with_reducible refine (verb_Kind.calls t207 t208 _ A9.out).mono ?_); rintro e w14 ⟨rfl, hb⟩; refine ⟨_, rfl, ?_⟩; have n0_ := Aside0.mk (below_step (by repeat (first | (with_reducible first | exact HB.out | apply eA | apply eN | apply eD) | exact HB.out)) hb); clear HB; have HB := n0_; clear n0_; (try clear hb); (try clear hb2); (try clear hk); (try clear hi)) | (go_at_call 8; (with_reducible refine (verb_Name.calls (wrap64 (1 + (wrap64 (Int.tmod (IntKind.u64.wrap (a0)) 15)))) t209 _ A11.out).mono ?_); rintro e w15 ⟨rfl, hb⟩; have n0_ := Aside0.mk (below_step (by repeat (first | (with_reducible first | exact HB.out | apply eA | apply eN | apply eD) | exact HB.out)) hb); clear HB; have HB := n0_; clear n0_; (try clear hb); (try clear hb2); (try clear hk); (try clear hi)) | (go_at_call 8; (with_reducible refine (verb_Name.calls (wrap64 (1 + (wrap64 (Int.tmod (IntKind.u64.wrap (a2)) 15)))) t210 _ A12.out).mono ?_); rintro e w16 ⟨rfl, hb⟩; have n0_ := Aside0.mk (below_step (by repeat (first | (with_reducible first | exact HB.out | apply eA | apply eN | apply eD) | exact HB.out)) hb); clear HB; have HB := n0_; clear n0_; (try clear hb); (try clear hb2); (try clear hk); (try clear hi)))
    go_meet
    case rel => exact ⟨_, (((t209.toList == t210.toList) != ((wrap64 (1 + (wrap64 (Int.tmod (IntKind.u64.wrap (a0)) 15)))) == (wrap64 (1 + (wrap64 (Int.tmod (IntKind.u64.wrap (a2)) 15))))))), (by first | rfl | (simp; done) | (simp [*]; done)), H', ⟨by first | omega | exact Nat.le_refl _⟩, ⟨by repeat (first | (with_reducible first | exact HB.out | apply eA | apply eN | apply eD) | exact HB.out)⟩⟩
   ·rw [if_neg c10] at H; have c10b0 : (t208 == (wrap64 (1 + (wrap64 (Int.tmod (IntKind.u64.wrap (a0)) 15))))) = false := beq_eq_false_iff_ne.mpr c10; have c10b1 : (t208 != (wrap64 (1 + (wrap64 (Int.tmod (IntKind.u64.wrap (a0)) 15))))) = true := bne_iff_ne.mpr c10
    (first | rw [c10b0] | (simp only [i64_w, i32_w]; rw [c10b0]) | skip)
    have H' := Aside0.mk H; clear H
    go_wp2_with (first | ((with_reducible refine gate_callee (f := 8) rfl ?_); refine goesL_ (some 23) rfl rfl Try.func8 (by kernel_rfl) rfl #[.int .i64 (wrap64 (1 + (wrap64 (Int.tmod (IntKind.u64.wrap (a0)) 15))))] rfl (by (try simp only [List.map_toArray, List.map_cons, List.map_nil]); first | done | rfl | (simp only [List.length_drop, List.length_take]; rfl)) ?_; (with_reducible refine (verb_Name.calls (wrap64 (1 + (wrap64 (Int.tmod (IntKind.u64.wrap (a0)) 15)))) t207 _ A8.out).mono ?_); rintro e w17 ⟨rfl, hb⟩; refine ⟨_, rfl, ?_⟩; have n0_ := Aside0.mk (below_step (by repeat (first | (with_reducible first | exact HB.out | apply eA | apply eN | apply eD) | exact HB.out)) hb); clear HB; have HB := n0_; clear n0_; (try clear hb); (try clear hb2); (try clear hk); (try clear hi)) | ((with_reducible refine gate_callee (f := 10) rfl ?_); refine goesL_ (some 24) rfl rfl Try.func10 (by kernel_rfl) rfl #[.string t207] rfl (by (try simp only [List.map_toArray, List.map_cons, List.map_nil]); first | done | rfl | (simp only [List.length_drop, List.length_take]; rfl)) ?_; (with_reducible refine (verb_Kind.calls t207 t208 _ A9.out).mono ?_); rintro e w18 ⟨rfl, hb⟩; refine ⟨_, rfl, ?_⟩; have n0_ := Aside0.mk (below_step (by repeat (first | (with_reducible first | exact HB.out | apply eA | apply eN | apply eD) | exact HB.out)) hb); clear HB; have HB := n0_; clear n0_; (try clear hb); (try clear hb2); (try clear hk); (try clear hi)))
    go_meet
    case rel => exact ⟨_, (true), (by first | rfl | (simp; done) | (simp [*]; done)), H', ⟨by first | omega | exact Nat.le_refl _⟩, ⟨by repeat (first | (with_reducible first | exact HB.out | apply eA | apply eN | apply eD) | exact HB.out)⟩⟩
  case rest =>
   clear HC6; (try clear c1); (try clear c2); (try clear p2); (try clear c5); (try clear p6); (try clear c8); (try clear c10); (try clear c10b0); (try clear c10b1); obtain ⟨kq, x37_5, rfl, HA, HJ5, HB⟩ := hcut; cases kq with
   | zero => exact absurd HA.out (by simp [tallboylaw15_VerbBack.j0])
   | succ kj5 =>
    have H := HA.out; clear HA; simp only [tallboylaw15_VerbBack.j0] at H
    by_cases c19 : x37_5 = true
    ·subst c19; have H1 : (none) = some r := by rw [if_pos rfl] at H; exact H
     clear H; have H := H1; clear H1; exact absurd H (by simp)
    ·replace c19 := Bool.eq_false_iff.mpr c19; subst c19; have H1 : ((verb_Kind.f a1).bind fun t211 => (if t211 = 0 then (some true) else ((verb_Name.f t211).bind fun t212 => (some (t212.toList == a1.toList))))) = some r := by rw [if_neg (show ¬ (false = true) by decide)] at H; exact H
     clear H; have H := H1; clear H1; replace H := Option.bind_eq_some_iff.mp H; obtain ⟨t211, A200, H⟩ := H; replace H : (if t211 = 0 then (some true) else ((verb_Name.f t211).bind fun t212 => (some (t212.toList == a1.toList)))) = some r := H; have A20 := Aside0.mk A200; clear A200
     by_cases c21 : t211 = 0
     ·rw [if_pos c21] at H; have c21b0 : (t211 == 0) = true := beq_iff_eq.mpr c21; have c21b1 : (t211 != 0) = false := bne_eq_false_iff_eq.mpr c21; clear c21; obtain rfl := Option.some.inj H
      go_wp2_with (first | ((with_reducible refine gate_callee (f := 10) rfl ?_); refine goesL_ (some 39) rfl rfl Try.func10 (by kernel_rfl) rfl #[.string a1] rfl (by (try simp only [List.map_toArray, List.map_cons, List.map_nil]); first | done | rfl | (simp only [List.length_drop, List.length_take]; rfl)) ?_; (with_reducible refine (verb_Kind.calls a1 t211 _ A20.out).mono ?_); rintro e w22 ⟨rfl, hb⟩; refine ⟨_, rfl, ?_⟩; have n0_ := Aside0.mk (below_step (by repeat (first | (with_reducible first | exact HB.out | apply eA | apply eN | apply eD) | exact HB.out)) hb); clear HB; have HB := n0_; clear n0_; (try clear hb); (try clear hb2); (try clear hk); (try clear hi)))
      go_ret
      exact ⟨by first | rfl | (simp [errW_none, errW_some] <;> rfl) | (simp [*, errW_none, errW_some] <;> rfl), by repeat (first | (with_reducible first | exact HB.out | apply eA | apply eN | apply eD) | exact HB.out)⟩
     ·rw [if_neg c21] at H; have c21b0 : (t211 == 0) = false := beq_eq_false_iff_ne.mpr c21; have c21b1 : (t211 != 0) = true := bne_iff_ne.mpr c21; replace H := Option.bind_eq_some_iff.mp H; obtain ⟨t212, A230, H⟩ := H; replace H : (some (t212.toList == a1.toList)) = some r := H; have A23 := Aside0.mk A230; clear A230; obtain rfl := Option.some.inj H
      go_wp2_with (first | ((with_reducible refine gate_callee (f := 10) rfl ?_); refine goesL_ (some 39) rfl rfl Try.func10 (by kernel_rfl) rfl #[.string a1] rfl (by (try simp only [List.map_toArray, List.map_cons, List.map_nil]); first | done | rfl | (simp only [List.length_drop, List.length_take]; rfl)) ?_; (with_reducible refine (verb_Kind.calls a1 t211 _ A20.out).mono ?_); rintro e w24 ⟨rfl, hb⟩; refine ⟨_, rfl, ?_⟩; have n0_ := Aside0.mk (below_step (by repeat (first | (with_reducible first | exact HB.out | apply eA | apply eN | apply eD) | exact HB.out)) hb); clear HB; have HB := n0_; clear n0_; (try clear hb); (try clear hb2); (try clear hk); (try clear hi)) | (go_at_call 8; (with_reducible refine (verb_Name.calls t211 t212 _ A23.out).mono ?_); rintro e w25 ⟨rfl, hb⟩; have n0_ := Aside0.mk (below_step (by repeat (first | (with_reducible first | exact HB.out | apply eA | apply eN | apply eD) | exact HB.out)) hb); clear HB; have HB := n0_; clear n0_; (try clear hb); (try clear hb2); (try clear hk); (try clear hi)))
      go_ret
      exact ⟨by first | rfl | (simp [errW_none, errW_some] <;> rfl) | (simp [*, errW_none, errW_some] <;> rfl), by repeat (first | (with_reducible first | exact HB.out | apply eA | apply eN | apply eD) | exact HB.out)⟩
 ·replace c5 := Bool.eq_false_iff.mpr c5; subst c5; have H1 : (none) = some r := by rw [if_neg (show ¬ (false = true) by decide)] at H; exact H
  clear H; have H := H1; clear H1; exact absurd H (by simp)

/-- THE ONE PURE STATEMENT of tallboylaw15_VerbBack: yours. -/
def tallboylaw15_VerbBack.Pure : Prop := ∀ (a0 : Int) (a1 : ByteArray) (a2 : Int), (Lit.int .i64 a0).wf = true → a1.size ≤ 140737488351232 → (Lit.int .i64 a2).wf = true → ∃ k, tallboylaw15_VerbBack.f k a0 a1 a2 = some true
theorem tallboylaw15_VerbBack.walk (P : tallboylaw15_VerbBack.Pure) (a0 : Int) (a1 : ByteArray) (a2 : Int) (w : World) (w0 : (Lit.int .i64 a0).wf = true) (w1 : a1.size ≤ 140737488351232) (w2 : (Lit.int .i64 a2).wf = true) :
  Calls Try.prog 5 #[.int .i64 a0, .string a1, .int .i64 a2] w fun e w' => e = .returned (.bool true) ∧ Below w.heap.size w w' := by
 obtain ⟨k, h⟩ := P a0 a1 a2 w0 w1 w2; refine (tallboylaw15_VerbBack.calls k a0 a1 a2 true w h).mono ?_
 rintro e w' ⟨rfl, hd⟩
 exact ⟨rfl, hd⟩

/-! ### tallboylaw15_VerbStripes: function 6 -/
mutual
def tallboylaw15_VerbStripes.j0 : Nat → Bool → Int → List ByteArray → Int → Int → ByteArray → Int → Int → Bool → Int → List ByteArray → Int → Int → ByteArray → Int → Int → Bool → Option (Bool)
 | 0, _, _, _, _, _, _, _, _, _, _, _, _, _, _, _, _, _ => none
 | k + 1, x21, x214000, x214001, x214002, x214003, x214004, x214005, x214006, x214007, x215000, x215001, x215002, x215003, x215004, x215005, x215006, x215007 => if x21 = true then (some true) else ((tallboylaw15_Own.f x214000 x214001 x214002 x214003 x214004 x214005 x214006 x214007).bind fun bt218 => ((verb_Stripes.f k bt218.1 bt218.2.1 bt218.2.2.1 bt218.2.2.2.1 bt218.2.2.2.2.1 bt218.2.2.2.2.2.1 bt218.2.2.2.2.2.2.1 bt218.2.2.2.2.2.2.2).bind fun t228 => ((tallboylaw15_Own.f x214000 x214001 x214002 x214003 x214004 x214005 x214006 x214007).bind fun bt231 => ((verb_Check.f k bt231.1 bt231.2.1 bt231.2.2.1 bt231.2.2.2.1 bt231.2.2.2.2.1 bt231.2.2.2.2.2.1 bt231.2.2.2.2.2.2.1 bt231.2.2.2.2.2.2.2).bind fun t241 => (if t241 = 0 then (tallboylaw15_VerbStripes.j1 k t228 ((t228.length : Int) == 0) x214000 x214001 x214002 x214003 x214004 x214005 x214006 x214007 x215000 x215001 x215002 x215003 x215004 x215005 x215006 x215007) else (tallboylaw15_VerbStripes.j1 k t228 false x214000 x214001 x214002 x214003 x214004 x214005 x214006 x214007 x215000 x215001 x215002 x215003 x215004 x215005 x215006 x215007))))))
def tallboylaw15_VerbStripes.j1 : Nat → List Int → Bool → Int → List ByteArray → Int → Int → ByteArray → Int → Int → Bool → Int → List ByteArray → Int → Int → ByteArray → Int → Int → Bool → Option (Bool)
 | 0, _, _, _, _, _, _, _, _, _, _, _, _, _, _, _, _, _, _ => none
 | k + 1, x5, x33, x214000, x214001, x214002, x214003, x214004, x214005, x214006, x214007, x215000, x215001, x215002, x215003, x215004, x215005, x215006, x215007 => if x33 = true then (none) else (tallboylaw15_VerbStripes.l0 k x5 0 x214000 x214001 x214002 x214003 x214004 x214005 x214006 x214007 x215000 x215001 x215002 x215003 x215004 x215005 x215006 x215007)
def tallboylaw15_VerbStripes.l0 : Nat → List Int → Int → Int → List ByteArray → Int → Int → ByteArray → Int → Int → Bool → Int → List ByteArray → Int → Int → ByteArray → Int → Int → Bool → Option (Bool)
 | 0, _, _, _, _, _, _, _, _, _, _, _, _, _, _, _, _, _, _ => none
 | k + 1, x5, x6, x214000, x214001, x214002, x214003, x214004, x214005, x214006, x214007, x215000, x215001, x215002, x215003, x215004, x215005, x215006, x215007 => if x6 < (x5.length : Int) then (if 0 ≤ x6 then (if (rd x5 x6) < 0 then (tallboylaw15_VerbStripes.j3 k x5 x6 true x214000 x214001 x214002 x214003 x214004 x214005 x214006 x214007 x215000 x215001 x215002 x215003 x215004 x215005 x215006 x215007) else (if (rd x5 x6) > 3 then (tallboylaw15_VerbStripes.j3 k x5 x6 true x214000 x214001 x214002 x214003 x214004 x214005 x214006 x214007 x215000 x215001 x215002 x215003 x215004 x215005 x215006 x215007) else (if x6 > 0 then (if 0 ≤ (wrap64 (x6 - 1)) then (if (wrap64 (x6 - 1)) < (x5.length : Int) then (tallboylaw15_VerbStripes.j3 k x5 x6 (decide ((rd x5 x6) ≤ (rd x5 (wrap64 (x6 - 1))))) x214000 x214001 x214002 x214003 x214004 x214005 x214006 x214007 x215000 x215001 x215002 x215003 x215004 x215005 x215006 x215007) else (none)) else (none)) else (tallboylaw15_VerbStripes.j3 k x5 x6 false x214000 x214001 x214002 x214003 x214004 x214005 x214006 x214007 x215000 x215001 x215002 x215003 x215004 x215005 x215006 x215007)))) else (none)) else ((tallboylaw15_Own.f x215000 x215001 x215002 x215003 x215004 x215005 x215006 x215007).bind fun bt246 => ((verb_Stripes.f k bt246.1 bt246.2.1 bt246.2.2.1 bt246.2.2.2.1 bt246.2.2.2.2.1 bt246.2.2.2.2.2.1 bt246.2.2.2.2.2.2.1 bt246.2.2.2.2.2.2.2).bind fun t256 => ((some (([] : List ByteArray) : List ByteArray)).bind fun y259 => (if y259.length + x214001.length < 8796093022208 then ((some (y259 ++ x214001 : List ByteArray)).bind fun y262 => (if y262.length + x215001.length < 8796093022208 then ((some (y262 ++ x215001 : List ByteArray)).bind fun y265 => (if x214000 = 15 then (tallboylaw15_VerbStripes.j4 k x5 t256 true 1 y265 0 0 (⟨#[]⟩ : ByteArray) 0 0 false) else (tallboylaw15_VerbStripes.j4 k x5 t256 (x215000 == 15) 1 y265 0 0 (⟨#[]⟩ : ByteArray) 0 0 false))) else (none))) else (none)))))
def tallboylaw15_VerbStripes.j3 : Nat → List Int → Int → Bool → Int → List ByteArray → Int → Int → ByteArray → Int → Int → Bool → Int → List ByteArray → Int → Int → ByteArray → Int → Int → Bool → Option (Bool)
 | 0, _, _, _, _, _, _, _, _, _, _, _, _, _, _, _, _, _, _, _ => none
 | k + 1, x5, x6, x67, x214000, x214001, x214002, x214003, x214004, x214005, x214006, x214007, x215000, x215001, x215002, x215003, x215004, x215005, x215006, x215007 => if x67 = true then (none) else (tallboylaw15_VerbStripes.l0 k x5 (wrap64 (x6 + 1)) x214000 x214001 x214002 x214003 x214004 x214005 x214006 x214007 x215000 x215001 x215002 x215003 x215004 x215005 x215006 x215007)
def tallboylaw15_VerbStripes.j4 : Nat → List Int → List Int → Bool → Int → List ByteArray → Int → Int → ByteArray → Int → Int → Bool → Option (Bool)
 | 0, _, _, _, _, _, _, _, _, _, _, _ => none
 | k + 1, x5, x7, x86, x269000, x269001, x269002, x269003, x269004, x269005, x269006, x269007 => if x86 = true then (some true) else (tallboylaw15_VerbStripes.l1 k x5 x7 ([] : List Int) 0 x269000 x269001 x269002 x269003 x269004 x269005 x269006 x269007)
def tallboylaw15_VerbStripes.l1 : Nat → List Int → List Int → List Int → Int → Int → List ByteArray → Int → Int → ByteArray → Int → Int → Bool → Option (Bool)
 | 0, _, _, _, _, _, _, _, _, _, _, _, _ => none
 | k + 1, x5, x7, x9, x10, x269000, x269001, x269002, x269003, x269004, x269005, x269006, x269007 => if x10 < 4 then (tallboylaw15_VerbStripes.l2 k x5 x7 x9 x10 false 0 x269000 x269001 x269002 x269003 x269004 x269005 x269006 x269007) else ((verb_Stripes.f k x269000 x269001 x269002 x269003 x269004 x269005 x269006 x269007).bind fun t274 => ((tallboyref06_Same.f k t274 x9).bind fun t277 => (some t277)))
def tallboylaw15_VerbStripes.l2 : Nat → List Int → List Int → List Int → Int → Bool → Int → Int → List ByteArray → Int → Int → ByteArray → Int → Int → Bool → Option (Bool)
 | 0, _, _, _, _, _, _, _, _, _, _, _, _, _, _ => none
 | k + 1, x5, x7, x9, x10, x11, x12, x269000, x269001, x269002, x269003, x269004, x269005, x269006, x269007 => if x12 < (x5.length : Int) then (if x11 = true then (tallboylaw15_VerbStripes.l2 k x5 x7 x9 x10 true (wrap64 (x12 + 1)) x269000 x269001 x269002 x269003 x269004 x269005 x269006 x269007) else (if 0 ≤ x12 then (tallboylaw15_VerbStripes.l2 k x5 x7 x9 x10 ((rd x5 x12) == x10) (wrap64 (x12 + 1)) x269000 x269001 x269002 x269003 x269004 x269005 x269006 x269007) else (none))) else (tallboylaw15_VerbStripes.l3 k x5 x7 x9 x10 x11 0 x269000 x269001 x269002 x269003 x269004 x269005 x269006 x269007)
def tallboylaw15_VerbStripes.l3 : Nat → List Int → List Int → List Int → Int → Bool → Int → Int → List ByteArray → Int → Int → ByteArray → Int → Int → Bool → Option (Bool)
 | 0, _, _, _, _, _, _, _, _, _, _, _, _, _, _ => none
 | k + 1, x5, x7, x9, x10, x11, x13, x269000, x269001, x269002, x269003, x269004, x269005, x269006, x269007 => if x13 < (x7.length : Int) then (if x11 = true then (tallboylaw15_VerbStripes.l3 k x5 x7 x9 x10 true (wrap64 (x13 + 1)) x269000 x269001 x269002 x269003 x269004 x269005 x269006 x269007) else (if 0 ≤ x13 then (tallboylaw15_VerbStripes.l3 k x5 x7 x9 x10 ((rd x7 x13) == x10) (wrap64 (x13 + 1)) x269000 x269001 x269002 x269003 x269004 x269005 x269006 x269007) else (none))) else (if x11 = true then (if x9.length < 17592186044416 then (tallboylaw15_VerbStripes.l1 k x5 x7 (x9 ++ [x10]) (wrap64 (x10 + 1)) x269000 x269001 x269002 x269003 x269004 x269005 x269006 x269007) else (none)) else (tallboylaw15_VerbStripes.l1 k x5 x7 x9 (wrap64 (x10 + 1)) x269000 x269001 x269002 x269003 x269004 x269005 x269006 x269007))
end
def tallboylaw15_VerbStripes.f (k : Nat) (a0_0 : Int) (l0_1 : List ByteArray) (a0_2 : Int) (a0_3 : Int) (a0_4 : ByteArray) (a0_5 : Int) (a0_6 : Int) (a0_7 : Bool) (a1_0 : Int) (l1_1 : List ByteArray) (a1_2 : Int) (a1_3 : Int) (a1_4 : ByteArray) (a1_5 : Int) (a1_6 : Int) (a1_7 : Bool) : Option (Bool) := (tallboylaw15_works.f k).bind fun t215 => (if t215 = true then ((tallboylaw15_Great.f k a0_0 l0_1 a0_2 a0_3 a0_4 a0_5 a0_6 a0_7).bind fun t216 => (if t216 = true then (tallboylaw15_VerbStripes.j0 k true a0_0 l0_1 a0_2 a0_3 a0_4 a0_5 a0_6 a0_7 a1_0 l1_1 a1_2 a1_3 a1_4 a1_5 a1_6 a1_7) else ((tallboylaw15_Great.f k a1_0 l1_1 a1_2 a1_3 a1_4 a1_5 a1_6 a1_7).bind fun t217 => (tallboylaw15_VerbStripes.j0 k t217 a0_0 l0_1 a0_2 a0_3 a0_4 a0_5 a0_6 a0_7 a1_0 l1_1 a1_2 a1_3 a1_4 a1_5 a1_6 a1_7)))) else (none))
theorem tallboylaw15_VerbStripes.mono_l : ∀ k, (∀ y0 y1 y2 y3 y4 y5 y6 y7 y8 y9 y10 y11 y12 y13 y14 y15 y16, LeO (tallboylaw15_VerbStripes.j0 k y0 y1 y2 y3 y4 y5 y6 y7 y8 y9 y10 y11 y12 y13 y14 y15 y16) (tallboylaw15_VerbStripes.j0 (k + 1) y0 y1 y2 y3 y4 y5 y6 y7 y8 y9 y10 y11 y12 y13 y14 y15 y16)) ∧ (∀ y0 y1 y2 y3 y4 y5 y6 y7 y8 y9 y10 y11 y12 y13 y14 y15 y16 y17, LeO (tallboylaw15_VerbStripes.j1 k y0 y1 y2 y3 y4 y5 y6 y7 y8 y9 y10 y11 y12 y13 y14 y15 y16 y17) (tallboylaw15_VerbStripes.j1 (k + 1) y0 y1 y2 y3 y4 y5 y6 y7 y8 y9 y10 y11 y12 y13 y14 y15 y16 y17)) ∧ (∀ y0 y1 y2 y3 y4 y5 y6 y7 y8 y9 y10 y11 y12 y13 y14 y15 y16 y17, LeO (tallboylaw15_VerbStripes.l0 k y0 y1 y2 y3 y4 y5 y6 y7 y8 y9 y10 y11 y12 y13 y14 y15 y16 y17) (tallboylaw15_VerbStripes.l0 (k + 1) y0 y1 y2 y3 y4 y5 y6 y7 y8 y9 y10 y11 y12 y13 y14 y15 y16 y17)) ∧ (∀ y0 y1 y2 y3 y4 y5 y6 y7 y8 y9 y10 y11 y12 y13 y14 y15 y16 y17 y18, LeO (tallboylaw15_VerbStripes.j3 k y0 y1 y2 y3 y4 y5 y6 y7 y8 y9 y10 y11 y12 y13 y14 y15 y16 y17 y18) (tallboylaw15_VerbStripes.j3 (k + 1) y0 y1 y2 y3 y4 y5 y6 y7 y8 y9 y10 y11 y12 y13 y14 y15 y16 y17 y18)) ∧ (∀ y0 y1 y2 y3 y4 y5 y6 y7 y8 y9 y10, LeO (tallboylaw15_VerbStripes.j4 k y0 y1 y2 y3 y4 y5 y6 y7 y8 y9 y10) (tallboylaw15_VerbStripes.j4 (k + 1) y0 y1 y2 y3 y4 y5 y6 y7 y8 y9 y10)) ∧ (∀ y0 y1 y2 y3 y4 y5 y6 y7 y8 y9 y10 y11, LeO (tallboylaw15_VerbStripes.l1 k y0 y1 y2 y3 y4 y5 y6 y7 y8 y9 y10 y11) (tallboylaw15_VerbStripes.l1 (k + 1) y0 y1 y2 y3 y4 y5 y6 y7 y8 y9 y10 y11)) ∧ (∀ y0 y1 y2 y3 y4 y5 y6 y7 y8 y9 y10 y11 y12 y13, LeO (tallboylaw15_VerbStripes.l2 k y0 y1 y2 y3 y4 y5 y6 y7 y8 y9 y10 y11 y12 y13) (tallboylaw15_VerbStripes.l2 (k + 1) y0 y1 y2 y3 y4 y5 y6 y7 y8 y9 y10 y11 y12 y13)) ∧ (∀ y0 y1 y2 y3 y4 y5 y6 y7 y8 y9 y10 y11 y12 y13, LeO (tallboylaw15_VerbStripes.l3 k y0 y1 y2 y3 y4 y5 y6 y7 y8 y9 y10 y11 y12 y13) (tallboylaw15_VerbStripes.l3 (k + 1) y0 y1 y2 y3 y4 y5 y6 y7 y8 y9 y10 y11 y12 y13))
 | 0 => ⟨fun _ _ _ _ _ _ _ _ _ _ _ _ _ _ _ _ _ r h => by simp [tallboylaw15_VerbStripes.j0] at h, fun _ _ _ _ _ _ _ _ _ _ _ _ _ _ _ _ _ _ r h => by simp [tallboylaw15_VerbStripes.j1] at h, fun _ _ _ _ _ _ _ _ _ _ _ _ _ _ _ _ _ _ r h => by simp [tallboylaw15_VerbStripes.l0] at h, fun _ _ _ _ _ _ _ _ _ _ _ _ _ _ _ _ _ _ _ r h => by simp [tallboylaw15_VerbStripes.j3] at h, fun _ _ _ _ _ _ _ _ _ _ _ r h => by simp [tallboylaw15_VerbStripes.j4] at h, fun _ _ _ _ _ _ _ _ _ _ _ _ r h => by simp [tallboylaw15_VerbStripes.l1] at h, fun _ _ _ _ _ _ _ _ _ _ _ _ _ _ r h => by simp [tallboylaw15_VerbStripes.l2] at h, fun _ _ _ _ _ _ _ _ _ _ _ _ _ _ r h => by simp [tallboylaw15_VerbStripes.l3] at h⟩
 | k + 1 => by
  obtain ⟨ih0, ih1, ih2, ih3, ih4, ih5, ih6, ih7⟩ := tallboylaw15_VerbStripes.mono_l k; refine ⟨?_, ?_, ?_, ?_, ?_, ?_, ?_, ?_⟩
  ·intro y0 y1 y2 y3 y4 y5 y6 y7 y8 y9 y10 y11 y12 y13 y14 y15 y16
   unfold tallboylaw15_VerbStripes.j0
   repeat' first
   | (with_reducible exact ih0 _ _ _ _ _ _ _ _ _ _ _ _ _ _ _ _ _)
   | (with_reducible exact ih1 _ _ _ _ _ _ _ _ _ _ _ _ _ _ _ _ _ _)
   | (with_reducible exact ih2 _ _ _ _ _ _ _ _ _ _ _ _ _ _ _ _ _ _)
   | (with_reducible exact ih3 _ _ _ _ _ _ _ _ _ _ _ _ _ _ _ _ _ _ _)
   | (with_reducible exact ih4 _ _ _ _ _ _ _ _ _ _ _)
   | (with_reducible exact ih5 _ _ _ _ _ _ _ _ _ _ _ _)
   | (with_reducible exact ih6 _ _ _ _ _ _ _ _ _ _ _ _ _ _)
   | (with_reducible exact ih7 _ _ _ _ _ _ _ _ _ _ _ _ _ _)
   | (with_reducible exact tallboylaw15_Great.mono _ _ _ _ _ _ _ _ _)
   | (with_reducible exact tallboylaw15_works.mono _)
   | (with_reducible exact tallboyref06_Same.mono _ _ _)
   | (with_reducible exact verb_Check.mono _ _ _ _ _ _ _ _ _)
   | (with_reducible exact verb_Stripes.mono _ _ _ _ _ _ _ _ _)
   | (with_reducible exact LeO.refl _)
   | (with_reducible exact LeO.none _)
   | (with_reducible refine LeO.ite ?_ ?_)
   | (with_reducible refine LeO.bind ?_ (fun _ => ?_))
   | exact ih0 _ _ _ _ _ _ _ _ _ _ _ _ _ _ _ _ _
   | exact ih1 _ _ _ _ _ _ _ _ _ _ _ _ _ _ _ _ _ _
   | exact ih2 _ _ _ _ _ _ _ _ _ _ _ _ _ _ _ _ _ _
   | exact ih3 _ _ _ _ _ _ _ _ _ _ _ _ _ _ _ _ _ _ _
   | exact ih4 _ _ _ _ _ _ _ _ _ _ _
   | exact ih5 _ _ _ _ _ _ _ _ _ _ _ _
   | exact ih6 _ _ _ _ _ _ _ _ _ _ _ _ _ _
   | exact ih7 _ _ _ _ _ _ _ _ _ _ _ _ _ _
   | exact tallboylaw15_Great.mono _ _ _ _ _ _ _ _ _
   | exact tallboylaw15_works.mono _
   | exact tallboyref06_Same.mono _ _ _
   | exact verb_Check.mono _ _ _ _ _ _ _ _ _
   | exact verb_Stripes.mono _ _ _ _ _ _ _ _ _
   | exact LeO.none _
   | refine LeO.ite ?_ ?_
   | refine LeO.bind ?_ (fun _ => ?_)
  ·intro y0 y1 y2 y3 y4 y5 y6 y7 y8 y9 y10 y11 y12 y13 y14 y15 y16 y17
   unfold tallboylaw15_VerbStripes.j1
   repeat' first
   | (with_reducible exact ih0 _ _ _ _ _ _ _ _ _ _ _ _ _ _ _ _ _)
   | (with_reducible exact ih1 _ _ _ _ _ _ _ _ _ _ _ _ _ _ _ _ _ _)
   | (with_reducible exact ih2 _ _ _ _ _ _ _ _ _ _ _ _ _ _ _ _ _ _)
   | (with_reducible exact ih3 _ _ _ _ _ _ _ _ _ _ _ _ _ _ _ _ _ _ _)
   | (with_reducible exact ih4 _ _ _ _ _ _ _ _ _ _ _)
   | (with_reducible exact ih5 _ _ _ _ _ _ _ _ _ _ _ _)
   | (with_reducible exact ih6 _ _ _ _ _ _ _ _ _ _ _ _ _ _)
   | (with_reducible exact ih7 _ _ _ _ _ _ _ _ _ _ _ _ _ _)
   | (with_reducible exact tallboylaw15_Great.mono _ _ _ _ _ _ _ _ _)
   | (with_reducible exact tallboylaw15_works.mono _)
   | (with_reducible exact tallboyref06_Same.mono _ _ _)
   | (with_reducible exact verb_Check.mono _ _ _ _ _ _ _ _ _)
   | (with_reducible exact verb_Stripes.mono _ _ _ _ _ _ _ _ _)
   | (with_reducible exact LeO.refl _)
   | (with_reducible exact LeO.none _)
   | (with_reducible refine LeO.ite ?_ ?_)
   | (with_reducible refine LeO.bind ?_ (fun _ => ?_))
   | exact ih0 _ _ _ _ _ _ _ _ _ _ _ _ _ _ _ _ _
   | exact ih1 _ _ _ _ _ _ _ _ _ _ _ _ _ _ _ _ _ _
   | exact ih2 _ _ _ _ _ _ _ _ _ _ _ _ _ _ _ _ _ _
   | exact ih3 _ _ _ _ _ _ _ _ _ _ _ _ _ _ _ _ _ _ _
   | exact ih4 _ _ _ _ _ _ _ _ _ _ _
   | exact ih5 _ _ _ _ _ _ _ _ _ _ _ _
   | exact ih6 _ _ _ _ _ _ _ _ _ _ _ _ _ _
   | exact ih7 _ _ _ _ _ _ _ _ _ _ _ _ _ _
   | exact tallboylaw15_Great.mono _ _ _ _ _ _ _ _ _
   | exact tallboylaw15_works.mono _
   | exact tallboyref06_Same.mono _ _ _
   | exact verb_Check.mono _ _ _ _ _ _ _ _ _
   | exact verb_Stripes.mono _ _ _ _ _ _ _ _ _
   | exact LeO.none _
   | refine LeO.ite ?_ ?_
   | refine LeO.bind ?_ (fun _ => ?_)
  ·intro y0 y1 y2 y3 y4 y5 y6 y7 y8 y9 y10 y11 y12 y13 y14 y15 y16 y17
   unfold tallboylaw15_VerbStripes.l0
   repeat' first
   | (with_reducible exact ih0 _ _ _ _ _ _ _ _ _ _ _ _ _ _ _ _ _)
   | (with_reducible exact ih1 _ _ _ _ _ _ _ _ _ _ _ _ _ _ _ _ _ _)
   | (with_reducible exact ih2 _ _ _ _ _ _ _ _ _ _ _ _ _ _ _ _ _ _)
   | (with_reducible exact ih3 _ _ _ _ _ _ _ _ _ _ _ _ _ _ _ _ _ _ _)
   | (with_reducible exact ih4 _ _ _ _ _ _ _ _ _ _ _)
   | (with_reducible exact ih5 _ _ _ _ _ _ _ _ _ _ _ _)
   | (with_reducible exact ih6 _ _ _ _ _ _ _ _ _ _ _ _ _ _)
   | (with_reducible exact ih7 _ _ _ _ _ _ _ _ _ _ _ _ _ _)
   | (with_reducible exact tallboylaw15_Great.mono _ _ _ _ _ _ _ _ _)
   | (with_reducible exact tallboylaw15_works.mono _)
   | (with_reducible exact tallboyref06_Same.mono _ _ _)
   | (with_reducible exact verb_Check.mono _ _ _ _ _ _ _ _ _)
   | (with_reducible exact verb_Stripes.mono _ _ _ _ _ _ _ _ _)
   | (with_reducible exact LeO.refl _)
   | (with_reducible exact LeO.none _)
   | (with_reducible refine LeO.ite ?_ ?_)
   | (with_reducible refine LeO.bind ?_ (fun _ => ?_))
   | exact ih0 _ _ _ _ _ _ _ _ _ _ _ _ _ _ _ _ _
   | exact ih1 _ _ _ _ _ _ _ _ _ _ _ _ _ _ _ _ _ _
   | exact ih2 _ _ _ _ _ _ _ _ _ _ _ _ _ _ _ _ _ _
   | exact ih3 _ _ _ _ _ _ _ _ _ _ _ _ _ _ _ _ _ _ _
   | exact ih4 _ _ _ _ _ _ _ _ _ _ _
   | exact ih5 _ _ _ _ _ _ _ _ _ _ _ _
   | exact ih6 _ _ _ _ _ _ _ _ _ _ _ _ _ _
   | exact ih7 _ _ _ _ _ _ _ _ _ _ _ _ _ _
   | exact tallboylaw15_Great.mono _ _ _ _ _ _ _ _ _
   | exact tallboylaw15_works.mono _
   | exact tallboyref06_Same.mono _ _ _
   | exact verb_Check.mono _ _ _ _ _ _ _ _ _
   | exact verb_Stripes.mono _ _ _ _ _ _ _ _ _
   | exact LeO.none _
   | refine LeO.ite ?_ ?_
   | refine LeO.bind ?_ (fun _ => ?_)
  ·intro y0 y1 y2 y3 y4 y5 y6 y7 y8 y9 y10 y11 y12 y13 y14 y15 y16 y17 y18
   unfold tallboylaw15_VerbStripes.j3
   repeat' first
   | (with_reducible exact ih0 _ _ _ _ _ _ _ _ _ _ _ _ _ _ _ _ _)
   | (with_reducible exact ih1 _ _ _ _ _ _ _ _ _ _ _ _ _ _ _ _ _ _)
   | (with_reducible exact ih2 _ _ _ _ _ _ _ _ _ _ _ _ _ _ _ _ _ _)
   | (with_reducible exact ih3 _ _ _ _ _ _ _ _ _ _ _ _ _ _ _ _ _ _ _)
   | (with_reducible exact ih4 _ _ _ _ _ _ _ _ _ _ _)
   | (with_reducible exact ih5 _ _ _ _ _ _ _ _ _ _ _ _)
   | (with_reducible exact ih6 _ _ _ _ _ _ _ _ _ _ _ _ _ _)
   | (with_reducible exact ih7 _ _ _ _ _ _ _ _ _ _ _ _ _ _)
   | (with_reducible exact tallboylaw15_Great.mono _ _ _ _ _ _ _ _ _)
   | (with_reducible exact tallboylaw15_works.mono _)
   | (with_reducible exact tallboyref06_Same.mono _ _ _)
   | (with_reducible exact verb_Check.mono _ _ _ _ _ _ _ _ _)
   | (with_reducible exact verb_Stripes.mono _ _ _ _ _ _ _ _ _)
   | (with_reducible exact LeO.refl _)
   | (with_reducible exact LeO.none _)
   | (with_reducible refine LeO.ite ?_ ?_)
   | (with_reducible refine LeO.bind ?_ (fun _ => ?_))
   | exact ih0 _ _ _ _ _ _ _ _ _ _ _ _ _ _ _ _ _
   | exact ih1 _ _ _ _ _ _ _ _ _ _ _ _ _ _ _ _ _ _
   | exact ih2 _ _ _ _ _ _ _ _ _ _ _ _ _ _ _ _ _ _
   | exact ih3 _ _ _ _ _ _ _ _ _ _ _ _ _ _ _ _ _ _ _
   | exact ih4 _ _ _ _ _ _ _ _ _ _ _
   | exact ih5 _ _ _ _ _ _ _ _ _ _ _ _
   | exact ih6 _ _ _ _ _ _ _ _ _ _ _ _ _ _
   | exact ih7 _ _ _ _ _ _ _ _ _ _ _ _ _ _
   | exact tallboylaw15_Great.mono _ _ _ _ _ _ _ _ _
   | exact tallboylaw15_works.mono _
   | exact tallboyref06_Same.mono _ _ _
   | exact verb_Check.mono _ _ _ _ _ _ _ _ _
   | exact verb_Stripes.mono _ _ _ _ _ _ _ _ _
   | exact LeO.none _
   | refine LeO.ite ?_ ?_
   | refine LeO.bind ?_ (fun _ => ?_)
  ·intro y0 y1 y2 y3 y4 y5 y6 y7 y8 y9 y10
   unfold tallboylaw15_VerbStripes.j4
   repeat' first
   | (with_reducible exact ih0 _ _ _ _ _ _ _ _ _ _ _ _ _ _ _ _ _)
   | (with_reducible exact ih1 _ _ _ _ _ _ _ _ _ _ _ _ _ _ _ _ _ _)
   | (with_reducible exact ih2 _ _ _ _ _ _ _ _ _ _ _ _ _ _ _ _ _ _)
   | (with_reducible exact ih3 _ _ _ _ _ _ _ _ _ _ _ _ _ _ _ _ _ _ _)
   | (with_reducible exact ih4 _ _ _ _ _ _ _ _ _ _ _)
   | (with_reducible exact ih5 _ _ _ _ _ _ _ _ _ _ _ _)
   | (with_reducible exact ih6 _ _ _ _ _ _ _ _ _ _ _ _ _ _)
   | (with_reducible exact ih7 _ _ _ _ _ _ _ _ _ _ _ _ _ _)
   | (with_reducible exact tallboylaw15_Great.mono _ _ _ _ _ _ _ _ _)
   | (with_reducible exact tallboylaw15_works.mono _)
   | (with_reducible exact tallboyref06_Same.mono _ _ _)
   | (with_reducible exact verb_Check.mono _ _ _ _ _ _ _ _ _)
   | (with_reducible exact verb_Stripes.mono _ _ _ _ _ _ _ _ _)
   | (with_reducible exact LeO.refl _)
   | (with_reducible exact LeO.none _)
   | (with_reducible refine LeO.ite ?_ ?_)
   | (with_reducible refine LeO.bind ?_ (fun _ => ?_))
   | exact ih0 _ _ _ _ _ _ _ _ _ _ _ _ _ _ _ _ _
   | exact ih1 _ _ _ _ _ _ _ _ _ _ _ _ _ _ _ _ _ _
   | exact ih2 _ _ _ _ _ _ _ _ _ _ _ _ _ _ _ _ _ _
   | exact ih3 _ _ _ _ _ _ _ _ _ _ _ _ _ _ _ _ _ _ _
   | exact ih4 _ _ _ _ _ _ _ _ _ _ _
   | exact ih5 _ _ _ _ _ _ _ _ _ _ _ _
   | exact ih6 _ _ _ _ _ _ _ _ _ _ _ _ _ _
   | exact ih7 _ _ _ _ _ _ _ _ _ _ _ _ _ _
   | exact tallboylaw15_Great.mono _ _ _ _ _ _ _ _ _
   | exact tallboylaw15_works.mono _
   | exact tallboyref06_Same.mono _ _ _
   | exact verb_Check.mono _ _ _ _ _ _ _ _ _
   | exact verb_Stripes.mono _ _ _ _ _ _ _ _ _
   | exact LeO.none _
   | refine LeO.ite ?_ ?_
   | refine LeO.bind ?_ (fun _ => ?_)
  ·intro y0 y1 y2 y3 y4 y5 y6 y7 y8 y9 y10 y11
   unfold tallboylaw15_VerbStripes.l1
   repeat' first
   | (with_reducible exact ih0 _ _ _ _ _ _ _ _ _ _ _ _ _ _ _ _ _)
   | (with_reducible exact ih1 _ _ _ _ _ _ _ _ _ _ _ _ _ _ _ _ _ _)
   | (with_reducible exact ih2 _ _ _ _ _ _ _ _ _ _ _ _ _ _ _ _ _ _)
   | (with_reducible exact ih3 _ _ _ _ _ _ _ _ _ _ _ _ _ _ _ _ _ _ _)
   | (with_reducible exact ih4 _ _ _ _ _ _ _ _ _ _ _)
   | (with_reducible exact ih5 _ _ _ _ _ _ _ _ _ _ _ _)
   | (with_reducible exact ih6 _ _ _ _ _ _ _ _ _ _ _ _ _ _)
   | (with_reducible exact ih7 _ _ _ _ _ _ _ _ _ _ _ _ _ _)
   | (with_reducible exact tallboylaw15_Great.mono _ _ _ _ _ _ _ _ _)
   | (with_reducible exact tallboylaw15_works.mono _)
   | (with_reducible exact tallboyref06_Same.mono _ _ _)
   | (with_reducible exact verb_Check.mono _ _ _ _ _ _ _ _ _)
   | (with_reducible exact verb_Stripes.mono _ _ _ _ _ _ _ _ _)
   | (with_reducible exact LeO.refl _)
   | (with_reducible exact LeO.none _)
   | (with_reducible refine LeO.ite ?_ ?_)
   | (with_reducible refine LeO.bind ?_ (fun _ => ?_))
   | exact ih0 _ _ _ _ _ _ _ _ _ _ _ _ _ _ _ _ _
   | exact ih1 _ _ _ _ _ _ _ _ _ _ _ _ _ _ _ _ _ _
   | exact ih2 _ _ _ _ _ _ _ _ _ _ _ _ _ _ _ _ _ _
   | exact ih3 _ _ _ _ _ _ _ _ _ _ _ _ _ _ _ _ _ _ _
   | exact ih4 _ _ _ _ _ _ _ _ _ _ _
   | exact ih5 _ _ _ _ _ _ _ _ _ _ _ _
   | exact ih6 _ _ _ _ _ _ _ _ _ _ _ _ _ _
   | exact ih7 _ _ _ _ _ _ _ _ _ _ _ _ _ _
   | exact tallboylaw15_Great.mono _ _ _ _ _ _ _ _ _
   | exact tallboylaw15_works.mono _
   | exact tallboyref06_Same.mono _ _ _
   | exact verb_Check.mono _ _ _ _ _ _ _ _ _
   | exact verb_Stripes.mono _ _ _ _ _ _ _ _ _
   | exact LeO.none _
   | refine LeO.ite ?_ ?_
   | refine LeO.bind ?_ (fun _ => ?_)
  ·intro y0 y1 y2 y3 y4 y5 y6 y7 y8 y9 y10 y11 y12 y13
   unfold tallboylaw15_VerbStripes.l2
   repeat' first
   | (with_reducible exact ih0 _ _ _ _ _ _ _ _ _ _ _ _ _ _ _ _ _)
   | (with_reducible exact ih1 _ _ _ _ _ _ _ _ _ _ _ _ _ _ _ _ _ _)
   | (with_reducible exact ih2 _ _ _ _ _ _ _ _ _ _ _ _ _ _ _ _ _ _)
   | (with_reducible exact ih3 _ _ _ _ _ _ _ _ _ _ _ _ _ _ _ _ _ _ _)
   | (with_reducible exact ih4 _ _ _ _ _ _ _ _ _ _ _)
   | (with_reducible exact ih5 _ _ _ _ _ _ _ _ _ _ _ _)
   | (with_reducible exact ih6 _ _ _ _ _ _ _ _ _ _ _ _ _ _)
   | (with_reducible exact ih7 _ _ _ _ _ _ _ _ _ _ _ _ _ _)
   | (with_reducible exact tallboylaw15_Great.mono _ _ _ _ _ _ _ _ _)
   | (with_reducible exact tallboylaw15_works.mono _)
   | (with_reducible exact tallboyref06_Same.mono _ _ _)
   | (with_reducible exact verb_Check.mono _ _ _ _ _ _ _ _ _)
   | (with_reducible exact verb_Stripes.mono _ _ _ _ _ _ _ _ _)
   | (with_reducible exact LeO.refl _)
   | (with_reducible exact LeO.none _)
   | (with_reducible refine LeO.ite ?_ ?_)
   | (with_reducible refine LeO.bind ?_ (fun _ => ?_))
   | exact ih0 _ _ _ _ _ _ _ _ _ _ _ _ _ _ _ _ _
   | exact ih1 _ _ _ _ _ _ _ _ _ _ _ _ _ _ _ _ _ _
   | exact ih2 _ _ _ _ _ _ _ _ _ _ _ _ _ _ _ _ _ _
   | exact ih3 _ _ _ _ _ _ _ _ _ _ _ _ _ _ _ _ _ _ _
   | exact ih4 _ _ _ _ _ _ _ _ _ _ _
   | exact ih5 _ _ _ _ _ _ _ _ _ _ _ _
   | exact ih6 _ _ _ _ _ _ _ _ _ _ _ _ _ _
   | exact ih7 _ _ _ _ _ _ _ _ _ _ _ _ _ _
   | exact tallboylaw15_Great.mono _ _ _ _ _ _ _ _ _
   | exact tallboylaw15_works.mono _
   | exact tallboyref06_Same.mono _ _ _
   | exact verb_Check.mono _ _ _ _ _ _ _ _ _
   | exact verb_Stripes.mono _ _ _ _ _ _ _ _ _
   | exact LeO.none _
   | refine LeO.ite ?_ ?_
   | refine LeO.bind ?_ (fun _ => ?_)
  ·intro y0 y1 y2 y3 y4 y5 y6 y7 y8 y9 y10 y11 y12 y13
   unfold tallboylaw15_VerbStripes.l3
   repeat' first
   | (with_reducible exact ih0 _ _ _ _ _ _ _ _ _ _ _ _ _ _ _ _ _)
   | (with_reducible exact ih1 _ _ _ _ _ _ _ _ _ _ _ _ _ _ _ _ _ _)
   | (with_reducible exact ih2 _ _ _ _ _ _ _ _ _ _ _ _ _ _ _ _ _ _)
   | (with_reducible exact ih3 _ _ _ _ _ _ _ _ _ _ _ _ _ _ _ _ _ _ _)
   | (with_reducible exact ih4 _ _ _ _ _ _ _ _ _ _ _)
   | (with_reducible exact ih5 _ _ _ _ _ _ _ _ _ _ _ _)
   | (with_reducible exact ih6 _ _ _ _ _ _ _ _ _ _ _ _ _ _)
   | (with_reducible exact ih7 _ _ _ _ _ _ _ _ _ _ _ _ _ _)
   | (with_reducible exact tallboylaw15_Great.mono _ _ _ _ _ _ _ _ _)
   | (with_reducible exact tallboylaw15_works.mono _)
   | (with_reducible exact tallboyref06_Same.mono _ _ _)
   | (with_reducible exact verb_Check.mono _ _ _ _ _ _ _ _ _)
   | (with_reducible exact verb_Stripes.mono _ _ _ _ _ _ _ _ _)
   | (with_reducible exact LeO.refl _)
   | (with_reducible exact LeO.none _)
   | (with_reducible refine LeO.ite ?_ ?_)
   | (with_reducible refine LeO.bind ?_ (fun _ => ?_))
   | exact ih0 _ _ _ _ _ _ _ _ _ _ _ _ _ _ _ _ _
   | exact ih1 _ _ _ _ _ _ _ _ _ _ _ _ _ _ _ _ _ _
   | exact ih2 _ _ _ _ _ _ _ _ _ _ _ _ _ _ _ _ _ _
   | exact ih3 _ _ _ _ _ _ _ _ _ _ _ _ _ _ _ _ _ _ _
   | exact ih4 _ _ _ _ _ _ _ _ _ _ _
   | exact ih5 _ _ _ _ _ _ _ _ _ _ _ _
   | exact ih6 _ _ _ _ _ _ _ _ _ _ _ _ _ _
   | exact ih7 _ _ _ _ _ _ _ _ _ _ _ _ _ _
   | exact tallboylaw15_Great.mono _ _ _ _ _ _ _ _ _
   | exact tallboylaw15_works.mono _
   | exact tallboyref06_Same.mono _ _ _
   | exact verb_Check.mono _ _ _ _ _ _ _ _ _
   | exact verb_Stripes.mono _ _ _ _ _ _ _ _ _
   | exact LeO.none _
   | refine LeO.ite ?_ ?_
   | refine LeO.bind ?_ (fun _ => ?_)
theorem tallboylaw15_VerbStripes.mono : ∀ a0 a1 a2 a3 a4 a5 a6 a7 a8 a9 a10 a11 a12 a13 a14 a15 k, LeO (tallboylaw15_VerbStripes.f k a0 a1 a2 a3 a4 a5 a6 a7 a8 a9 a10 a11 a12 a13 a14 a15) (tallboylaw15_VerbStripes.f (k + 1) a0 a1 a2 a3 a4 a5 a6 a7 a8 a9 a10 a11 a12 a13 a14 a15) := by
 intro a0 a1 a2 a3 a4 a5 a6 a7 a8 a9 a10 a11 a12 a13 a14 a15 k
 obtain ⟨ih0, ih1, ih2, ih3, ih4, ih5, ih6, ih7⟩ := tallboylaw15_VerbStripes.mono_l k; unfold tallboylaw15_VerbStripes.f
 repeat' first
   | (with_reducible exact ih0 _ _ _ _ _ _ _ _ _ _ _ _ _ _ _ _ _)
   | (with_reducible exact ih1 _ _ _ _ _ _ _ _ _ _ _ _ _ _ _ _ _ _)
   | (with_reducible exact ih2 _ _ _ _ _ _ _ _ _ _ _ _ _ _ _ _ _ _)
   | (with_reducible exact ih3 _ _ _ _ _ _ _ _ _ _ _ _ _ _ _ _ _ _ _)
   | (with_reducible exact ih4 _ _ _ _ _ _ _ _ _ _ _)
   | (with_reducible exact ih5 _ _ _ _ _ _ _ _ _ _ _ _)
   | (with_reducible exact ih6 _ _ _ _ _ _ _ _ _ _ _ _ _ _)
   | (with_reducible exact ih7 _ _ _ _ _ _ _ _ _ _ _ _ _ _)
   | (with_reducible exact tallboylaw15_Great.mono _ _ _ _ _ _ _ _ _)
   | (with_reducible exact tallboylaw15_works.mono _)
   | (with_reducible exact tallboyref06_Same.mono _ _ _)
   | (with_reducible exact verb_Check.mono _ _ _ _ _ _ _ _ _)
   | (with_reducible exact verb_Stripes.mono _ _ _ _ _ _ _ _ _)
   | (with_reducible exact LeO.refl _)
   | (with_reducible exact LeO.none _)
   | (with_reducible refine LeO.ite ?_ ?_)
   | (with_reducible refine LeO.bind ?_ (fun _ => ?_))
   | exact ih0 _ _ _ _ _ _ _ _ _ _ _ _ _ _ _ _ _
   | exact ih1 _ _ _ _ _ _ _ _ _ _ _ _ _ _ _ _ _ _
   | exact ih2 _ _ _ _ _ _ _ _ _ _ _ _ _ _ _ _ _ _
   | exact ih3 _ _ _ _ _ _ _ _ _ _ _ _ _ _ _ _ _ _ _
   | exact ih4 _ _ _ _ _ _ _ _ _ _ _
   | exact ih5 _ _ _ _ _ _ _ _ _ _ _ _
   | exact ih6 _ _ _ _ _ _ _ _ _ _ _ _ _ _
   | exact ih7 _ _ _ _ _ _ _ _ _ _ _ _ _ _
   | exact tallboylaw15_Great.mono _ _ _ _ _ _ _ _ _
   | exact tallboylaw15_works.mono _
   | exact tallboyref06_Same.mono _ _ _
   | exact verb_Check.mono _ _ _ _ _ _ _ _ _
   | exact verb_Stripes.mono _ _ _ _ _ _ _ _ _
   | exact LeO.none _
   | refine LeO.ite ?_ ?_
   | refine LeO.bind ?_ (fun _ => ?_)
def tallboylaw15_VerbStripes.T11 : Bool × List (List Nat × List Nat) := (true, [([], []), ([], []), ([0, 1], [0, 1]), ([2], [2]), ([3], [3]), ([4], [4]), ([5], [5]), ([5], [5]), ([6, 7, 5], [5, 6, 7]), ([8, 5], [5, 8]), ([9, 5], [5, 9]), ([5, 10], [5, 10]), ([11, 5], [11]), ([12], [12]), ([13, 12], [12, 13]), ([14, 12, 12], [12, 14]), ([15], [15]), ([15], [15]), ([16, 17, 15], [15, 16, 17]), ([18, 15], [15, 18]), ([15], [15]), ([15], [15]), ([21, 15], [15, 21]), ([20, 22, 15], [15, 20, 22]), ([23, 15], [15, 23]), ([19, 24, 15], [15, 19, 24]), ([15, 25, 12], [12, 15, 25]), ([12, 26], [12, 26])])
def tallboylaw15_VerbStripes.B11 : List Nat := [0, 0, 3, 7, 15, 31, 63, 63, 255, 511, 1023, 2047, 4095, 8191, 16383, 32767, 65535, 65535, 262143, 524287, 65535, 65535, 2162687, 7405567, 15794175, 33554431, 67108863, 134217727]
theorem tallboylaw15_VerbStripes.tab11 : rtab .any (opsOf Try.f6 11) = tallboylaw15_VerbStripes.T11 := by kernel_rfl
theorem tallboylaw15_VerbStripes.bits11 : waitsOk tallboylaw15_VerbStripes.T11.2 tallboylaw15_VerbStripes.B11 = true := by kernel_rfl
def tallboylaw15_VerbStripes.T14 : Bool × List (List Nat × List Nat) := (true, [([], []), ([], []), ([1], [1]), ([0, 2], [0, 2]), ([], []), ([4], [4]), ([3, 5, 3], [3, 5]), ([6], [6]), ([], []), ([8, 7, 6, 0, 1, 2, 3, 4, 5, 6, 7, 8], [7, 8])])
def tallboylaw15_VerbStripes.B14 : List Nat := [0, 0, 2, 7, 0, 16, 63, 127, 0, 511]
theorem tallboylaw15_VerbStripes.tab14 : rtab .any (opsOf Try.f6 14) = tallboylaw15_VerbStripes.T14 := by kernel_rfl
theorem tallboylaw15_VerbStripes.bits14 : waitsOk tallboylaw15_VerbStripes.T14.2 tallboylaw15_VerbStripes.B14 = true := by kernel_rfl

end Go.Proofs.Ytmogojefpjmhkaa.P
