/- Lean functions for the Go functions that the laws of this seat use, and the proofs that the Go code computes them; conditions: the readings that each theorem names. Written by a program. -/
import Derived.Test.YtdepkgikdmlgiaaPx0
import Derived.Test.YtdepkgikdmlgiaaPx7
import Derived.Test.YtdepkgikdmlgiaaPx15
import Derived.Test.YtdepkgikdmlgiaaPx24
import Derived.Test.YtdepkgikdmlgiaaPx28
import Derived.Test.YtdepkgikdmlgiaaPx29
import Derived.Test.YtdepkgikdmlgiaaShort
namespace Go.Proofs.Ytdepkgikdmlgiaa.P
open Go.RowKit Go.Proofs.YtdepkgikdmlgiaaW.PrintWords Go.Proofs.YtdepkgikdmlgiaaW.PrintLast Go.Proofs.YtdepkgikdmlgiaaW.PrintMore
set_option linter.unusedVariables false
set_option linter.unusedSimpArgs false

/-! ### frame_Command: function 30 -/
set_option maxHeartbeats 8000000 in
set_option maxRecDepth 100000 in
theorem frame_Command.calls (k : Nat) (a0_0 : Bool) (a0_1 : Int) (a0_2 : Int) (a0_3 : Int) (a0_4 : Int) (a0_5 : ByteArray) (a0_6 : ByteArray) (a0_7 : ByteArray) (r1 : Int) (r2 : List ByteArray) (r3 : Int) (r4 : Int) (r5 : ByteArray) (r6 : Int) (r7 : Int) (r8 : Bool) (r9 : Int) (w : World) (h : frame_Command.f k a0_0 a0_1 a0_2 a0_3 a0_4 a0_5 a0_6 a0_7 = some (r1, r2, r3, r4, r5, r6, r7, r8, r9)) :
  Calls Try.prog 30 #[.agg #[.bool a0_0, .int .u8 a0_1, .int .u16 a0_2, .int .u32 a0_3, .int .u64 a0_4, .string a0_5, .string a0_6, .string a0_7]] w fun e w' => ∃ v1_ : Value, e = .returned (.tuple #[.agg #[.int .i64 r1, v1_, .int .u32 r3, .int .i64 r4, .string r5, .int .u64 r6, .int .u64 r7, .bool r8], .int .i64 r9]) ∧ Kd.R Kd.string 9 w' w.heap.size (fun _ => True) v1_ r2 ∧ Below w.heap.size w w' := by
 have hu31 := Try.underlying31; have hu70 := Try.underlying70; have HB := Aside0.mk (Below.refl w.heap.size w); have H : ((frame_find.f k a0_1).bind fun bt357 => (if a0_0 = true then (some (0, ([] : List ByteArray), 0, 0, (⟨#[]⟩ : ByteArray), 0, 0, false, 5)) else (if bt357.1 = 0 then (some (0, ([] : List ByteArray), 0, 0, (⟨#[]⟩ : ByteArray), 0, 0, false, 70)) else ((frame_extras.f k bt357.1).bind fun t359 => (if (a0_5.size : Int) = t359 then (if bt357.2 = true then ((frame_reads.f bt357.1).bind fun t360 => (if bt357.1 = 15 then (frame_Command.j0 k bt357.1 (a0_6.toList != ([] : List UInt8)) a0_0 a0_1 a0_2 a0_3 a0_4 a0_5 a0_6 a0_7 bt357.1 0 0 a0_7 a0_4 0 (!t360)) else (frame_Command.j0 k bt357.1 true a0_0 a0_1 a0_2 a0_3 a0_4 a0_5 a0_6 a0_7 bt357.1 0 0 a0_7 a0_4 0 (!t360)))) else (if bt357.1 = 15 then (frame_Command.j5 k bt357.1 (a0_6.toList != ([] : List UInt8)) a0_0 a0_1 a0_2 a0_3 a0_4 a0_5 a0_6 a0_7 bt357.1 0 0 a0_7 a0_4 0 false) else (frame_Command.j5 k bt357.1 true a0_0 a0_1 a0_2 a0_3 a0_4 a0_5 a0_6 a0_7 bt357.1 0 0 a0_7 a0_4 0 false))) else (some (0, ([] : List ByteArray), 0, 0, (⟨#[]⟩ : ByteArray), 0, 0, false, 6))))))) = some (r1, r2, r3, r4, r5, r6, r7, r8, r9) := h; clear h; replace H := Option.bind_eq_some_iff.mp H; obtain ⟨⟨t357, t358⟩, A20, H⟩ := H; (try dsimp only at H); have A2 := Aside0.mk A20; clear A20
 by_cases c3 : a0_0 = true
 ·subst c3; rw [if_pos rfl] at H; simp only [Option.some.injEq, Prod.mk.injEq] at H; obtain ⟨rfl, rfl, rfl, rfl, rfl, rfl, rfl, rfl, rfl⟩ := H; go_enter Try.func30, Try.ntmps30
  go_wp2_with (first | ((with_reducible refine gate_dst (N := 1) rfl ?_); refine bE 1 #[.bool true, .int .u8 a0_1, .int .u16 a0_2, .int .u32 a0_3, .int .u64 a0_4, .string a0_5, .string a0_6, .string a0_7] 31 rfl rfl ?_; intro gb355 hg w4 hbox hb; have BK355 := rM hbox; have GW355 := rG HB hg; replace HB := rS HB hb; have GE355 := GW355; clear hb hbox hg) | ((with_reducible refine gate_dst (N := 2) rfl ?_); refine bE 2 #[.int .i64 0, .slice none 0 0, .int .u32 0, .int .i64 0, .string (⟨#[]⟩ : ByteArray), .int .u64 0, .int .u64 0, .bool false] 70 rfl rfl ?_; intro gb356 hg w5 hbox hb; have BK356 := rM hbox; have GW356 := rG HB hg; replace HB := rS HB hb; have GE356 := GW356; have NB355_356 := rN BK355 hg; replace BK355 := rB BK355 hb; have NB356_355 := rY NB355_356; clear hb hbox hg; have hnb6 := rP NB355_356 NB356_355; obtain ⟨hcz7, hfz7⟩ := d8 BK355) | ((with_reducible refine gate_callee (f := 43) rfl ?_); refine gL (some 12) rfl rfl Try.func43 #[.int .u8 a0_1] rfl ?_; (with_reducible refine (frame_find.calls k a0_1 t357 t358 _ A2.out).mono ?_); rintro e w8 ⟨rfl, hb⟩; refine ⟨_, rfl, ?_⟩; replace BK355 := rB BK355 hb; replace BK356 := rB BK356 hb; replace HB := rS HB hb; (try clear hb); (try clear hk); obtain ⟨hcz9, hfz9⟩ := d8 BK355; obtain ⟨hcz10, hfz10⟩ := d8 BK356))
  refine bodyPost_ret (results_ct rfl _ _ gb356 70 #[.int .i64 0, .slice none 0 0, .int .u32 0, .int .i64 0, .string (⟨#[]⟩ : ByteArray), .int .u64 0, .int .u64 0, .bool false] (0, 0) _ rfl (bV BK356.out) Try.underlying70 rfl (by kernel_rfl)) rfl ?_
  exact ⟨_, xR, xN, bH HB.out⟩
 ·replace c3 := Bool.eq_false_iff.mpr c3; subst c3; rw [if_neg (show ¬ (false = true) by decide)] at H
  by_cases c11 : t357 = 0
  ·rw [if_pos c11] at H; have c11b0 : (t357 == 0) = true := beq_iff_eq.mpr c11; have c11b1 : (t357 != 0) = false := bne_eq_false_iff_eq.mpr c11; clear c11; simp only [Option.some.injEq, Prod.mk.injEq] at H; obtain ⟨rfl, rfl, rfl, rfl, rfl, rfl, rfl, rfl, rfl⟩ := H; go_enter Try.func30, Try.ntmps30
   go_wp2_with (first | ((with_reducible refine gate_dst (N := 1) rfl ?_); refine bE 1 #[.bool false, .int .u8 a0_1, .int .u16 a0_2, .int .u32 a0_3, .int .u64 a0_4, .string a0_5, .string a0_6, .string a0_7] 31 rfl rfl ?_; intro gb355 hg w12 hbox hb; have BK355 := rM hbox; have GW355 := rG HB hg; replace HB := rS HB hb; have GE355 := GW355; clear hb hbox hg) | ((with_reducible refine gate_dst (N := 2) rfl ?_); refine bE 2 #[.int .i64 0, .slice none 0 0, .int .u32 0, .int .i64 0, .string (⟨#[]⟩ : ByteArray), .int .u64 0, .int .u64 0, .bool false] 70 rfl rfl ?_; intro gb356 hg w13 hbox hb; have BK356 := rM hbox; have GW356 := rG HB hg; replace HB := rS HB hb; have GE356 := GW356; have NB355_356 := rN BK355 hg; replace BK355 := rB BK355 hb; have NB356_355 := rY NB355_356; clear hb hbox hg; have hnb14 := rP NB355_356 NB356_355; obtain ⟨hcz15, hfz15⟩ := d8 BK355) | ((with_reducible refine gate_callee (f := 43) rfl ?_); refine gL (some 12) rfl rfl Try.func43 #[.int .u8 a0_1] rfl ?_; (with_reducible refine (frame_find.calls k a0_1 t357 t358 _ A2.out).mono ?_); rintro e w16 ⟨rfl, hb⟩; refine ⟨_, rfl, ?_⟩; replace BK355 := rB BK355 hb; replace BK356 := rB BK356 hb; replace HB := rS HB hb; (try clear hb); (try clear hk); obtain ⟨hcz17, hfz17⟩ := d8 BK355; obtain ⟨hcz18, hfz18⟩ := d8 BK356))
   refine bodyPost_ret (results_ct rfl _ _ gb356 70 #[.int .i64 0, .slice none 0 0, .int .u32 0, .int .i64 0, .string (⟨#[]⟩ : ByteArray), .int .u64 0, .int .u64 0, .bool false] (0, 0) _ rfl (bV BK356.out) Try.underlying70 rfl (by kernel_rfl)) rfl ?_
   exact ⟨_, xR, xN, bH HB.out⟩
  ·rw [if_neg c11] at H; have c11b0 : (t357 == 0) = false := beq_eq_false_iff_ne.mpr c11; have c11b1 : (t357 != 0) = true := bne_iff_ne.mpr c11; replace H := Option.bind_eq_some_iff.mp H; obtain ⟨t359, A190, H⟩ := H; (try dsimp only at H); have A19 := Aside0.mk A190; clear A190
   by_cases c20 : (a0_5.size : Int) = t359
   ·rw [if_pos c20] at H; have c20b0 : ((a0_5.size : Int) == t359) = true := beq_iff_eq.mpr c20; have c20b1 : ((a0_5.size : Int) != t359) = false := bne_eq_false_iff_eq.mpr c20; clear c20
    by_cases c21 : t358 = true
    ·subst c21; rw [if_pos rfl] at H; replace H := Option.bind_eq_some_iff.mp H; obtain ⟨t360, A220, H⟩ := H; (try dsimp only at H); have A22 := Aside0.mk A220; clear A220; have HC23 := Aside0.mk H; clear H; go_enter Try.func30, Try.ntmps30
     try go_wp2_with (first | ((with_reducible refine gate_dst (N := 1) rfl ?_); refine bE 1 #[.bool false, .int .u8 a0_1, .int .u16 a0_2, .int .u32 a0_3, .int .u64 a0_4, .string a0_5, .string a0_6, .string a0_7] 31 rfl rfl ?_; intro gb355 hg w24 hbox hb; have BK355 := rM hbox; have GW355 := rG HB hg; replace HB := rS HB hb; have GE355 := GW355; clear hb hbox hg) | ((with_reducible refine gate_dst (N := 2) rfl ?_); refine bE 2 #[.int .i64 0, .slice none 0 0, .int .u32 0, .int .i64 0, .string (⟨#[]⟩ : ByteArray), .int .u64 0, .int .u64 0, .bool false] 70 rfl rfl ?_; intro gb356 hg w25 hbox hb; have BK356 := rM hbox; have GW356 := rG HB hg; replace HB := rS HB hb; have GE356 := GW356; have NB355_356 := rN BK355 hg; replace BK355 := rB BK355 hb; have NB356_355 := rY NB355_356; clear hb hbox hg; have hnb26 := rP NB355_356 NB356_355; obtain ⟨hcz27, hfz27⟩ := d8 BK355) | ((with_reducible refine gate_callee (f := 43) rfl ?_); refine gL (some 12) rfl rfl Try.func43 #[.int .u8 a0_1] rfl ?_; (with_reducible refine (frame_find.calls k a0_1 t357 true _ A2.out).mono ?_); rintro e w28 ⟨rfl, hb⟩; refine ⟨_, rfl, ?_⟩; replace BK355 := rB BK355 hb; replace BK356 := rB BK356 hb; replace HB := rS HB hb; (try clear hb); (try clear hk); obtain ⟨hcz29, hfz29⟩ := d8 BK355))
     replace BK355 := Aside0.mk (bD BK355.out); replace BK356 := Aside0.mk (bD BK356.out); replace HB := Aside0.mk (eD HB.out); refine start_ (n := 7) (S := fun w' => w'.cell? ⟨gb355, 0, none⟩ = some (.bool false) ∧ w'.cell? ⟨gb355, 1, none⟩ = some (.int .u8 a0_1) ∧ w'.cell? ⟨gb355, 2, none⟩ = some (.int .u16 a0_2) ∧ w'.cell? ⟨gb355, 3, none⟩ = some (.int .u32 a0_3) ∧ w'.cell? ⟨gb355, 4, none⟩ = some (.int .u64 a0_4) ∧ w'.cell? ⟨gb355, 5, none⟩ = some (.string a0_5) ∧ w'.cell? ⟨gb355, 6, none⟩ = some (.string a0_6) ∧ w'.cell? ⟨gb355, 7, none⟩ = some (.string a0_7)) (ds := []) #[false, false, false, false, false, false, false] (by kernel_rfl) rfl rfl ⟨kC BK355 0, kC BK355 1, kC BK355 2, kC BK355 3, kC BK355 4, kC BK355 5, kC BK355 6, kC BK355 7⟩ (fun hHeld => ?_)
     generalize w28.drew = w30 at BK355 BK356 HB hHeld ⊢; refine pure_ (i := 0) (N := some 24) (v := ?_) (a' := ?_) #[true, false, false, false, false, false, false] rfl rfl (by kernel_rfl) (fun _ _ _ h => h) (Or.inl ⟨by rfl, ?_⟩) ?_ ?_
     rotate_left
     ·intro w'
      go_simp
      with_reducible rfl
     rotate_left
     ·simp only [Act.put, sA, sB, sC, i64_w, i32_w]
      rfl
     refine pure_ (i := 3) (N := some 27) (v := ?_) (a' := ?_) #[true, false, false, true, false, false, false] rfl rfl (by kernel_rfl) (fun _ _ _ h => h) (Or.inl ⟨by rfl, ?_⟩) ?_ ?_
     rotate_left
     ·intro w'
      go_simp
      with_reducible rfl
     rotate_left
     ·simp only [Act.put, sA, sB, sC, i64_w, i32_w]
      rfl
     refine take_ (i := 1) (N := some 25) (v := ?_) (a' := ?_) #[true, true, false, true, false, false, false] rfl rfl (by kernel_rfl) (fun _ _ _ h => h) (Or.inl ⟨by rfl, ?_⟩) hHeld ?_ ?_
     rotate_left
     ·rintro w' ⟨s0, s1, s2, s3, s4, s5, s6, s7⟩
      go_simp
      with_reducible rfl
     rotate_left
     ·simp only [Act.put, sA, sB, sC, i64_w, i32_w]
      rfl
     refine pure_ (i := 2) (N := some 26) (v := ?_) (a' := ?_) #[true, true, true, true, false, false, false] rfl rfl (by kernel_rfl) (fun _ _ _ h => h) (Or.inl ⟨by rfl, ?_⟩) ?_ ?_
     rotate_left
     ·intro w'
      go_simp
      with_reducible rfl
     rotate_left
     ·simp only [Act.put, sA, sB, sC, i64_w, i32_w]
      rfl
     refine one_ (i := 4) (N := some 28) #[true, true, true, true, true, false, false] rfl rfl (by kernel_rfl) (by decide) (fun K hK => ?_)
     refine goes_ Try.func49 (by kernel_rfl) rfl #[.int .i64 t357] (by rfl) rfl rfl (by (try simp only [List.map_toArray, List.map_cons, List.map_nil]); first | done | rfl | (simp only [List.length_drop, List.length_take]; rfl)) ?_
     with_reducible refine (frame_extras.calls k t357 t359 _ A19.out).mono ?_
     rintro e w' ⟨rfl, ⟨nd, rfl⟩⟩
     refine ⟨_, rfl, ?_⟩
     refine hK.out _ _ ⟨kC BK355 0, kC BK355 1, kC BK355 2, kC BK355 3, kC BK355 4, kC BK355 5, kC BK355 6, kC BK355 7⟩ (fun hHeld => ?_)
     clear hK K; refine norm_ (a' := ?_) ?_ ?_
     rotate_left
     ·show Act.put _ (some 28) _ = _
      simp only [Act.put, sA, sB, sC, i64_w, i32_w]
      rfl
     refine pure_ (i := 5) (N := some 29) (v := ?_) (a' := ?_) #[true, true, true, true, true, true, false] rfl rfl (by kernel_rfl) (fun _ _ _ h => h) (Or.inl ⟨by rfl, ?_⟩) ?_ ?_
     rotate_left
     ·intro w'
      go_simp
      with_reducible rfl
     rotate_left
     ·simp only [Act.put, sA, sB, sC, i64_w, i32_w]
      rfl
     refine pure_ (i := 6) (N := some 23) (v := ?_) (a' := ?_) #[true, true, true, true, true, true, true] rfl rfl (by kernel_rfl) (fun _ _ _ h => h) (Or.inl ⟨by rfl, ?_⟩) ?_ ?_
     rotate_left
     ·intro w'
      go_simp
      with_reducible rfl
     rotate_left
     ·simp only [Act.put, sA, sB, sC, i64_w, i32_w]
      rfl
     refine done_ (by kernel_rfl) ?_
     try go_wp2
     (try simp only [World.drewN_drewN]); (try (rw [drewN_self w30]; generalize hq_ : World.drewN w30 _ = w30; have n0_ := Aside0.mk (bQ BK355.out hq_); have n1_ := Aside0.mk (bQ BK356.out hq_); have n2_ := Aside0.mk (bF HB.out hq_); clear BK355 BK356 HB hq_; have BK355 := n0_; have BK356 := n1_; have HB := n2_; clear n0_ n1_ n2_))
     replace BK355 := Aside0.mk (bD BK355.out); replace BK356 := Aside0.mk (bD BK356.out); replace HB := Aside0.mk (eD HB.out); refine start_ (n := 14) (S := fun w' => w'.cell? ⟨gb355, 0, none⟩ = some (.bool false) ∧ w'.cell? ⟨gb355, 1, none⟩ = some (.int .u8 a0_1) ∧ w'.cell? ⟨gb355, 2, none⟩ = some (.int .u16 a0_2) ∧ w'.cell? ⟨gb355, 3, none⟩ = some (.int .u32 a0_3) ∧ w'.cell? ⟨gb355, 4, none⟩ = some (.int .u64 a0_4) ∧ w'.cell? ⟨gb355, 5, none⟩ = some (.string a0_5) ∧ w'.cell? ⟨gb355, 6, none⟩ = some (.string a0_6) ∧ w'.cell? ⟨gb355, 7, none⟩ = some (.string a0_7)) (ds := []) #[false, false, false, false, false, false, false, false, false, false, false, false, false, false] (by kernel_rfl) rfl rfl ⟨kC BK355 0, kC BK355 1, kC BK355 2, kC BK355 3, kC BK355 4, kC BK355 5, kC BK355 6, kC BK355 7⟩ (fun hHeld => ?_); refine with_tabW frame_Command.tab8 frame_Command.bits8 (fun HT_ HW_ => ?_)
     generalize w30.drew = w31 at BK355 BK356 HB hHeld ⊢; refine pU HT_ 0 (some 31) ?_ #[true, false, false, false, false, false, false, false, false, false, false, false, false, false] rfl rfl ?_ ?_ ?_ ?_
     rotate_left
     ·intro w'
      go_simp
      with_reducible rfl
     rotate_left
     ·simp only [Act.put, sA, sB, sC, i64_w, i32_w]
      rfl
     refine pU HT_ 1 (some 32) ?_ #[true, true, false, false, false, false, false, false, false, false, false, false, false, false] rfl rfl ?_ ?_ ?_ ?_
     rotate_left
     ·intro w'
      go_simp
      with_reducible rfl
     rotate_left
     ·simp only [Act.put, sA, sB, sC, i64_w, i32_w]
      rfl
     refine pU HT_ 3 (some 34) ?_ #[true, true, false, true, false, false, false, false, false, false, false, false, false, false] rfl rfl ?_ ?_ ?_ ?_
     rotate_left
     ·intro w'
      go_simp
      with_reducible rfl
     rotate_left
     ·simp only [Act.put, sA, sB, sC, i64_w, i32_w]
      rfl
     refine pU HT_ 5 (some 36) ?_ #[true, true, false, true, false, true, false, false, false, false, false, false, false, false] rfl rfl ?_ ?_ ?_ ?_
     rotate_left
     ·intro w'
      go_simp
      with_reducible rfl
     rotate_left
     ·simp only [Act.put, sA, sB, sC, i64_w, i32_w]
      rfl
     refine pU HT_ 6 (some 37) ?_ #[true, true, false, true, false, true, true, false, false, false, false, false, false, false] rfl rfl ?_ ?_ ?_ ?_
     rotate_left
     ·intro w'
      go_simp
      with_reducible rfl
     rotate_left
     ·simp only [Act.put, sA, sB, sC, i64_w, i32_w]
      rfl
     refine pU HT_ 7 (some 38) ?_ #[true, true, false, true, false, true, true, true, false, false, false, false, false, false] rfl rfl ?_ ?_ ?_ ?_
     rotate_left
     ·intro w'
      go_simp
      with_reducible rfl
     rotate_left
     ·simp only [Act.put, sA, sB, sC, i64_w, i32_w]
      rfl
     refine tU HT_ HW_ hHeld 2 (some 33) ?_ #[true, true, true, true, false, true, true, true, false, false, false, false, false, false] rfl rfl ?_ ?_ ?_ ?_
     rotate_left
     ·rintro w' ⟨s0, s1, s2, s3, s4, s5, s6, s7⟩
      go_simp
      with_reducible rfl
     rotate_left
     ·simp only [Act.put, sA, sB, sC, i64_w, i32_w]
      rfl
     refine tU HT_ HW_ hHeld 4 (some 35) ?_ #[true, true, true, true, true, true, true, true, false, false, false, false, false, false] rfl rfl ?_ ?_ ?_ ?_
     rotate_left
     ·rintro w' ⟨s0, s1, s2, s3, s4, s5, s6, s7⟩
      go_simp
      with_reducible rfl
     rotate_left
     ·simp only [Act.put, sA, sB, sC, i64_w, i32_w]
      rfl
     refine join_ (σ := Nat) 1 #[true, true, true, true, true, true, true, true, true, true, true, true, true, false] (fun s_ => [(39, .bool t360), (6, .pointer (some ⟨s_, 0, none⟩)), (40, .bool (!t360)), (41, .bool (!t360)), (42, .agg #[.int .i64 t357, .slice none 0 0, .int .u32 0, .int .i64 0, .string a0_7, .int .u64 a0_4, .int .u64 0, .bool (!t360)])]) (fun s_ w' => (w'.cell? ⟨gb355, 0, none⟩ = some (.bool false) ∧ w'.cell? ⟨gb355, 1, none⟩ = some (.int .u8 a0_1) ∧ w'.cell? ⟨gb355, 2, none⟩ = some (.int .u16 a0_2) ∧ w'.cell? ⟨gb355, 3, none⟩ = some (.int .u32 a0_3) ∧ w'.cell? ⟨gb355, 4, none⟩ = some (.int .u64 a0_4) ∧ w'.cell? ⟨gb355, 5, none⟩ = some (.string a0_5) ∧ w'.cell? ⟨gb355, 6, none⟩ = some (.string a0_6) ∧ w'.cell? ⟨gb355, 7, none⟩ = some (.string a0_7)) ∧ (w'.heap[gb355]? = some (.cells #[.bool false, .int .u8 a0_1, .int .u16 a0_2, .int .u32 a0_3, .int .u64 a0_4, .string a0_5, .string a0_6, .string a0_7] 31 (0, 0))) ∧ (w'.heap[gb356]? = some (.cells #[.int .i64 0, .slice none 0 0, .int .u32 0, .int .i64 0, .string (⟨#[]⟩ : ByteArray), .int .u64 0, .int .u64 0, .bool false] 70 (0, 0))) ∧ (w'.heap[s_]? = some (.cells #[.int .i64 0, .slice none 0 0, .int .u32 0, .int .i64 0, .string (⟨#[]⟩ : ByteArray), .int .u64 0, .int .u64 0, .bool false] 70 (0, 0))) ∧ (w.heap.size ≤ s_) ∧ (w.heap.size ≤ s_) ∧ (gb355 ≠ s_) ∧ (s_ ≠ gb355) ∧ (gb356 ≠ s_) ∧ (s_ ≠ gb356) ∧ (Below w.heap.size w w')) ?_ ?_
     rotate_left
     ·intro hCont
      refine two_ (i := 8) (j := 12) (Ni := some 39) (Nj := some 6) #[true, true, true, true, true, true, true, true, true, false, false, false, false, false] #[true, true, true, true, true, true, true, true, false, false, false, false, true, false] rfl rfl rfl rfl (two_of HT_.out (by kernel_rfl)) (by decide) (by decide) (fun K hK => ?_) (fun K hK => ?_)
      ·skip
       refine goes_ Try.func45 (by kernel_rfl) rfl #[.int .i64 t357] (by rfl) rfl rfl (by (try simp only [List.map_toArray, List.map_cons, List.map_nil]); first | done | rfl | (simp only [List.length_drop, List.length_take]; rfl)) ?_
       with_reducible refine (frame_reads.calls t357 t360 _ A22.out).mono ?_
       rintro e w' ⟨rfl, ⟨nd, rfl⟩⟩
       refine ⟨_, rfl, ?_⟩
       refine hK.out _ _ ⟨kC BK355 0, kC BK355 1, kC BK355 2, kC BK355 3, kC BK355 4, kC BK355 5, kC BK355 6, kC BK355 7⟩ (fun hHeld => ?_)
       clear hK K; refine norm_ (a' := ?_) ?_ ?_
       rotate_left
       ·show Act.put _ (some 39) _ = _
        simp only [Act.put, sA, sB, sC, i64_w, i32_w]
        rfl
       refine pU HT_ 9 (some 40) ?_ #[true, true, true, true, true, true, true, true, true, true, false, false, false, false] rfl rfl ?_ ?_ ?_ ?_
       rotate_left
       ·intro w'
        go_simp
        with_reducible rfl
       rotate_left
       ·simp only [Act.put, sA, sB, sC, i64_w, i32_w]
        rfl
       refine pU HT_ 10 (some 41) ?_ #[true, true, true, true, true, true, true, true, true, true, true, false, false, false] rfl rfl ?_ ?_ ?_ ?_
       rotate_left
       ·intro w'
        go_simp
        with_reducible rfl
       rotate_left
       ·simp only [Act.put, sA, sB, sC, i64_w, i32_w]
        rfl
       refine pU HT_ 11 (some 42) ?_ #[true, true, true, true, true, true, true, true, true, true, true, true, false, false] rfl rfl ?_ ?_ ?_ ?_
       rotate_left
       ·intro w'
        go_simp
        with_reducible rfl
       rotate_left
       ·simp only [Act.put, sA, sB, sC, i64_w, i32_w]
        rfl
       refine one_ (i := 12) (N := some 6) #[true, true, true, true, true, true, true, true, true, true, true, true, true, false] rfl rfl (one_of HT_.out (by kernel_rfl)) (by decide) (fun K hK => ?_)
       refine box_step ?hg (N := 6) ?hd (cs := #[.int .i64 0, .slice none 0 0, .int .u32 0, .int .i64 0, .string (⟨#[]⟩ : ByteArray), .int .u64 0, .int .u64 0, .bool false]) (t := 70) ?hr ?_; (case hd => rfl); (case hg => rfl); (case hr => first | (go_simp; done) | (go_simp; rfl))
       intro gb361 hg w32 hbox hb
       have BK361 := rM hbox; have GW361 := rG HB hg; replace HB := rS HB hb; have GE361 := GW361; have NB355_361 := rN BK355 hg; replace BK355 := rB BK355 hb; have NB361_355 := rY NB355_361; have NB356_361 := rN BK356 hg; replace BK356 := rB BK356 hb; have NB361_356 := rY NB356_361; clear hb hbox hg; refine hK.out _ _ ⟨kC BK355 0, kC BK355 1, kC BK355 2, kC BK355 3, kC BK355 4, kC BK355 5, kC BK355 6, kC BK355 7⟩ (fun hHeld => ?_)
       clear hK K; refine norm_ (a' := ?_) ?_ ?_
       rotate_left
       ·show Act.put _ (some 6) _ = _
        simp only [Act.put, sA, sB, sC, i64_w, i32_w]
        rfl
       exact norm_ (by simp only [putAll, Act.put, sA, sB, sC]) (hCont (gb361) _ ⟨hHeld, (bK BK355.out), (bK BK356.out), (bK BK361.out), GW361.out, GE361.out, NB355_361.out, NB361_355.out, NB356_361.out, NB361_356.out, (bH HB.out)⟩)
      ·skip
       refine box_step ?hg (N := 6) ?hd (cs := #[.int .i64 0, .slice none 0 0, .int .u32 0, .int .i64 0, .string (⟨#[]⟩ : ByteArray), .int .u64 0, .int .u64 0, .bool false]) (t := 70) ?hr ?_; (case hd => rfl); (case hg => rfl); (case hr => first | (go_simp; done) | (go_simp; rfl))
       intro gb361 hg w32 hbox hb
       have BK361 := rM hbox; have GW361 := rG HB hg; replace HB := rS HB hb; have GE361 := GW361; have NB355_361 := rN BK355 hg; replace BK355 := rB BK355 hb; have NB361_355 := rY NB355_361; have NB356_361 := rN BK356 hg; replace BK356 := rB BK356 hb; have NB361_356 := rY NB356_361; clear hb hbox hg; refine hK.out _ _ ⟨kC BK355 0, kC BK355 1, kC BK355 2, kC BK355 3, kC BK355 4, kC BK355 5, kC BK355 6, kC BK355 7⟩ (fun hHeld => ?_)
       clear hK K; refine norm_ (a' := ?_) ?_ ?_
       rotate_left
       ·show Act.put _ (some 6) _ = _
        simp only [Act.put, sA, sB, sC, i64_w, i32_w]
        rfl
       refine one_ (i := 8) (N := some 39) #[true, true, true, true, true, true, true, true, true, false, false, false, true, false] rfl rfl (one_of HT_.out (by kernel_rfl)) (by decide) (fun K hK => ?_)
       refine goes_ Try.func45 (by kernel_rfl) rfl #[.int .i64 t357] (by rfl) rfl rfl (by (try simp only [List.map_toArray, List.map_cons, List.map_nil]); first | done | rfl | (simp only [List.length_drop, List.length_take]; rfl)) ?_
       with_reducible refine (frame_reads.calls t357 t360 _ A22.out).mono ?_
       rintro e w' ⟨rfl, ⟨nd, rfl⟩⟩
       refine ⟨_, rfl, ?_⟩
       refine hK.out _ _ ⟨kC BK355 0, kC BK355 1, kC BK355 2, kC BK355 3, kC BK355 4, kC BK355 5, kC BK355 6, kC BK355 7⟩ (fun hHeld => ?_)
       clear hK K; refine norm_ (a' := ?_) ?_ ?_
       rotate_left
       ·show Act.put _ (some 39) _ = _
        simp only [Act.put, sA, sB, sC, i64_w, i32_w]
        rfl
       refine pU HT_ 9 (some 40) ?_ #[true, true, true, true, true, true, true, true, true, true, false, false, true, false] rfl rfl ?_ ?_ ?_ ?_
       rotate_left
       ·intro w'
        go_simp
        with_reducible rfl
       rotate_left
       ·simp only [Act.put, sA, sB, sC, i64_w, i32_w]
        rfl
       refine pU HT_ 10 (some 41) ?_ #[true, true, true, true, true, true, true, true, true, true, true, false, true, false] rfl rfl ?_ ?_ ?_ ?_
       rotate_left
       ·intro w'
        go_simp
        with_reducible rfl
       rotate_left
       ·simp only [Act.put, sA, sB, sC, i64_w, i32_w]
        rfl
       refine pU HT_ 11 (some 42) ?_ #[true, true, true, true, true, true, true, true, true, true, true, true, true, false] rfl rfl ?_ ?_ ?_ ?_
       rotate_left
       ·intro w'
        go_simp
        with_reducible rfl
       rotate_left
       ·simp only [Act.put, sA, sB, sC, i64_w, i32_w]
        rfl
       exact norm_ (by simp only [putAll, Act.put, sA, sB, sC]) (hCont (gb361) _ ⟨hHeld, (bK BK355.out), (bK BK356.out), (bK BK361.out), GW361.out, GE361.out, NB355_361.out, NB361_355.out, NB356_361.out, NB361_356.out, (bH HB.out)⟩)
     rintro gb361 w33 ⟨hS_, h0_, h1_, h2_, h3_, h4_, h5_, h6_, h7_, h8_, h9_⟩
     have n0_ : Aside0 (w33.heap[gb355]? = some (.cells #[.bool false, .int .u8 a0_1, .int .u16 a0_2, .int .u32 a0_3, .int .u64 a0_4, .string a0_5, .string a0_6, .string a0_7] 31 (0, 0))) := ⟨h0_⟩; have n1_ : Aside0 (w33.heap[gb356]? = some (.cells #[.int .i64 0, .slice none 0 0, .int .u32 0, .int .i64 0, .string (⟨#[]⟩ : ByteArray), .int .u64 0, .int .u64 0, .bool false] 70 (0, 0))) := ⟨h1_⟩; have n2_ : Aside0 (w33.heap[gb361]? = some (.cells #[.int .i64 0, .slice none 0 0, .int .u32 0, .int .i64 0, .string (⟨#[]⟩ : ByteArray), .int .u64 0, .int .u64 0, .bool false] 70 (0, 0))) := ⟨h2_⟩; have n3_ : Aside0 (w.heap.size ≤ gb361) := ⟨h3_⟩; have n4_ : Aside0 (w.heap.size ≤ gb361) := ⟨h4_⟩; have n5_ : Aside0 (gb355 ≠ gb361) := ⟨h5_⟩; have n6_ : Aside0 (gb361 ≠ gb355) := ⟨h6_⟩; have n7_ : Aside0 (gb356 ≠ gb361) := ⟨h7_⟩; have n8_ : Aside0 (gb361 ≠ gb356) := ⟨h8_⟩; have n9_ : Aside0 (Below w.heap.size w w33) := ⟨h9_⟩; clear BK355; clear BK356; clear HB; clear h0_ h1_ h2_ h3_ h4_ h5_ h6_ h7_ h8_ h9_; have BK355 := n0_; have BK356 := n1_; have BK361 := n2_; have GW361 := n3_; have GE361 := n4_; have NB355_361 := n5_; have NB361_355 := n6_; have NB356_361 := n7_; have NB361_356 := n8_; have HB := n9_; clear n0_ n1_ n2_ n3_ n4_ n5_ n6_ n7_ n8_ n9_; have hHeld : w33.cell? ⟨gb355, 0, none⟩ = some (.bool false) ∧ w33.cell? ⟨gb355, 1, none⟩ = some (.int .u8 a0_1) ∧ w33.cell? ⟨gb355, 2, none⟩ = some (.int .u16 a0_2) ∧ w33.cell? ⟨gb355, 3, none⟩ = some (.int .u32 a0_3) ∧ w33.cell? ⟨gb355, 4, none⟩ = some (.int .u64 a0_4) ∧ w33.cell? ⟨gb355, 5, none⟩ = some (.string a0_5) ∧ w33.cell? ⟨gb355, 6, none⟩ = some (.string a0_6) ∧ w33.cell? ⟨gb355, 7, none⟩ = some (.string a0_7) := hS_; refine norm_ (a' := ?_) ?_ ?_
     rotate_left
     ·simp only [putAll, Act.put, sA, sB, sC]
      rfl
     refine one_ (i := 13) (N := none) #[true, true, true, true, true, true, true, true, true, true, true, true, true, true] rfl rfl (one_of HT_.out (by kernel_rfl)) (by decide) (fun K hK => ?_)
     have hs34 : w33.cell? ⟨gb361, 0, none⟩ = some (.int .i64 0) := (blk_cell BK361.out 0).trans rfl; have hfs34 := blk_frozen BK361.out 0; have hns34_0 := NB355_361.out; have hns34_1 := NB356_361.out; have hms34_0 := NB361_355.out; have hms34_1 := NB361_356.out; have hs35 : w33.cell? ⟨gb361, 1, none⟩ = some (.slice none 0 0) := (blk_cell BK361.out 1).trans rfl; have hfs35 := blk_frozen BK361.out 1; have hns35_0 := NB355_361.out; have hns35_1 := NB356_361.out; have hms35_0 := NB361_355.out; have hms35_1 := NB361_356.out; have hs36 : w33.cell? ⟨gb361, 2, none⟩ = some (.int .u32 0) := (blk_cell BK361.out 2).trans rfl; have hfs36 := blk_frozen BK361.out 2; have hns36_0 := NB355_361.out; have hns36_1 := NB356_361.out; have hms36_0 := NB361_355.out; have hms36_1 := NB361_356.out; have hs37 : w33.cell? ⟨gb361, 3, none⟩ = some (.int .i64 0) := (blk_cell BK361.out 3).trans rfl; have hfs37 := blk_frozen BK361.out 3; have hns37_0 := NB355_361.out; have hns37_1 := NB356_361.out; have hms37_0 := NB361_355.out; have hms37_1 := NB361_356.out; have hs38 : w33.cell? ⟨gb361, 4, none⟩ = some (.string (⟨#[]⟩ : ByteArray)) := (blk_cell BK361.out 4).trans rfl; have hfs38 := blk_frozen BK361.out 4; have hns38_0 := NB355_361.out; have hns38_1 := NB356_361.out; have hms38_0 := NB361_355.out; have hms38_1 := NB361_356.out; have hs39 : w33.cell? ⟨gb361, 5, none⟩ = some (.int .u64 0) := (blk_cell BK361.out 5).trans rfl; have hfs39 := blk_frozen BK361.out 5; have hns39_0 := NB355_361.out; have hns39_1 := NB356_361.out; have hms39_0 := NB361_355.out; have hms39_1 := NB361_356.out; have hs40 : w33.cell? ⟨gb361, 6, none⟩ = some (.int .u64 0) := (blk_cell BK361.out 6).trans rfl; have hfs40 := blk_frozen BK361.out 6; have hns40_0 := NB355_361.out; have hns40_1 := NB356_361.out; have hms40_0 := NB361_355.out; have hms40_1 := NB361_356.out; have hs41 : w33.cell? ⟨gb361, 7, none⟩ = some (.bool false) := (blk_cell BK361.out 7).trans rfl; have hfs41 := blk_frozen BK361.out 7; have hns41_0 := NB355_361.out; have hns41_1 := NB356_361.out; have hms41_0 := NB361_355.out; have hms41_1 := NB361_356.out; refine skip_ (w1 := ?_) (by rfl) rfl ?_ ?_
     rotate_left
     ·go_simp
      rfl
     refine hK.out _ _ ⟨(kF hHeld.1), (kF hHeld.2.1), (kF hHeld.2.2.1), (kF hHeld.2.2.2.1), (kF hHeld.2.2.2.2.1), (kF hHeld.2.2.2.2.2.1), (kF hHeld.2.2.2.2.2.2.1), (kF hHeld.2.2.2.2.2.2.2)⟩ (fun hHeld => ?_)
     clear hK K; refine done_ (done_of HT_.out (by kernel_rfl)) ?_
     go_upto_region 9 with (fail)
     go_cut [49] (fun v49 wc => ∃ (kq : Nat) (x49_22 : Bool), v49 = .bool x49_22 ∧ Aside0 (frame_Command.j0 kq t357 x49_22 false a0_1 a0_2 a0_3 a0_4 a0_5 a0_6 a0_7 t357 0 0 a0_7 a0_4 0 (!t360) = some (r1, r2, r3, r4, r5, r6, r7, r8, r9)) ∧ Aside0 (kq ≤ k) ∧ Aside0 (wc.heap[gb355]? = some (.cells #[.bool false, .int .u8 a0_1, .int .u16 a0_2, .int .u32 a0_3, .int .u64 a0_4, .string a0_5, .string a0_6, .string a0_7] 31 (0, 0))) ∧ Aside0 (wc.heap[gb356]? = some (.cells #[.int .i64 0, (.slice none 0 0), .int .u32 0, .int .i64 0, .string (⟨#[]⟩ : ByteArray), .int .u64 0, .int .u64 0, .bool false] 70 (0, 0))) ∧ Aside0 (wc.heap[gb361]? = some (.cells #[.int .i64 t357, (.slice none 0 0), .int .u32 0, .int .i64 0, .string a0_7, .int .u64 a0_4, .int .u64 0, .bool (!t360)] 70 (0, 0))) ∧ Aside0 (Below w.heap.size w wc))
     case first =>
      have H := HC23.out; clear HC23
      by_cases c42 : t357 = 15
      ·rw [if_pos c42] at H; have c42b0 : (t357 == 15) = true := beq_iff_eq.mpr c42; have c42b1 : (t357 != 15) = false := bne_eq_false_iff_eq.mpr c42; clear c42
       (first | rw [c42b0] | (simp only [i64_w, i32_w]; rw [c42b0]) | skip)
       have H' := Aside0.mk H; clear H; have hnb43 := rP NB355_356 NB356_355; have hnb44 := rP NB355_361 NB361_355; obtain ⟨hcz45, hfz45⟩ := d8 BK355; go_wp2
       go_meet
       case rel => exact ⟨_, ((a0_6.toList != ([] : List UInt8))), (by first | rfl | (simp; done) | (simp [*]; done) | (cases a0_6.toList <;> rfl)), H', ⟨by first | omega | exact Nat.le_refl _⟩, ⟨bK BK355.out⟩, ⟨bK BK356.out⟩, ⟨bV BK361.out⟩, ⟨bH HB.out⟩⟩
      ·rw [if_neg c42] at H; have c42b0 : (t357 == 15) = false := beq_eq_false_iff_ne.mpr c42; have c42b1 : (t357 != 15) = true := bne_iff_ne.mpr c42
       (first | rw [c42b0] | (simp only [i64_w, i32_w]; rw [c42b0]) | skip)
       have H' := Aside0.mk H; clear H; go_wp2
       go_meet
       case rel => exact ⟨_, (true), (by first | rfl | (simp; done) | (simp [*]; done) | (cases a0_6.toList <;> rfl)), H', ⟨by first | omega | exact Nat.le_refl _⟩, ⟨bK BK355.out⟩, ⟨bK BK356.out⟩, ⟨bV BK361.out⟩, ⟨bH HB.out⟩⟩
     case rest =>
      clear HC23; (try clear c3); (try clear c11); (try clear c11b0); (try clear c11b1); (try clear c20); (try clear c20b0); (try clear c20b1); (try clear c21); (try clear c42); (try clear c42b0); (try clear c42b1); (try clear hcz10); (try clear hcz15); (try clear hcz17); (try clear hcz18); (try clear hcz27); (try clear hcz29); (try clear hcz45); (try clear hcz7); (try clear hcz9); (try clear hfz10); (try clear hfz15); (try clear hfz17); (try clear hfz18); (try clear hfz27); (try clear hfz29); (try clear hfz45)
      (try clear hfz45); (try clear hfz7); (try clear hfz9); obtain ⟨kq, x49_22, rfl, HA, HJ22, BK355, BK356, BK361, HB⟩ := hcut; cases kq with
      | zero => exact absurd HA.out (by simp [frame_Command.j0])
      | succ kj22 =>
       have H := HA.out; clear HA; simp only [frame_Command.j0] at H; have HC46 := Aside0.mk H; clear H
       go_upto_if 49 with (fail)
       go_cut [] (fun wc => ∃ (kq : Nat) (z2 : List ByteArray) (za : Value), Aside0 (frame_Command.j1 kq t357 false a0_1 a0_2 a0_3 a0_4 a0_5 a0_6 a0_7 t357 z2 0 0 a0_7 a0_4 0 (!t360) = some (r1, r2, r3, r4, r5, r6, r7, r8, r9)) ∧ Aside0 (kq ≤ kj22) ∧ Aside0 (Kd.R Kd.string 9 wc w.heap.size (fun _ => True) za z2) ∧ Aside0 (wc.heap[gb355]? = some (.cells #[.bool false, .int .u8 a0_1, .int .u16 a0_2, .int .u32 a0_3, .int .u64 a0_4, .string a0_5, .string a0_6, .string a0_7] 31 (0, 0))) ∧ Aside0 (wc.heap[gb356]? = some (.cells #[.int .i64 0, (.slice none 0 0), .int .u32 0, .int .i64 0, .string (⟨#[]⟩ : ByteArray), .int .u64 0, .int .u64 0, .bool false] 70 (0, 0))) ∧ Aside0 (wc.heap[gb361]? = some (.cells #[.int .i64 t357, za, .int .u32 0, .int .i64 0, .string a0_7, .int .u64 a0_4, .int .u64 0, .bool (!t360)] 70 (0, 0))) ∧ Aside0 (Below w.heap.size w wc))
       case first =>
        have H := HC46.out; clear HC46
        by_cases c47 : x49_22 = true
        ·subst c47; rw [if_pos rfl] at H; obtain ⟨y362, hy362⟩ : ∃ y_ : List ByteArray, y_ = (([a0_6] : List ByteArray)) := ⟨_, rfl⟩; replace H : (frame_Command.j1 kj22 t357 false a0_1 a0_2 a0_3 a0_4 a0_5 a0_6 a0_7 t357 y362 0 0 a0_7 a0_4 0 (!t360)) = some (r1, r2, r3, r4, r5, r6, r7, r8, r9) := by first | (rw [hy362]; with_reducible exact H) | (have H2_ := (Option.bind_some _ _).symm.trans H; rw [hy362]; with_reducible exact H2_) | (have H2_ := (Option.bind_some _ _).symm.trans H; with_reducible exact H2_) | with_reducible exact H | (rw [hy362]; exact H) | exact H
         have Ny362 := Aside0.mk hy362; clear hy362; have H' := Aside0.mk H; clear H; have hnb48 := rP NB355_356 NB356_355; have hnb49 := rP NB355_361 NB361_355; obtain ⟨hcz50, hfz50⟩ := d8 BK355
         go_wp2_with (first | ((with_reducible refine gate_dst (N := 52) rfl ?_); refine Kd.R_lit Kd.string _ 9 ?hg (N := 52) ?hd (xs := ([a0_6] : List ByteArray)) (inner := [.string a0_6]) (ok := fun _ => True) (okp := fun _ => True) ?hr ?hp (fun _ hk => hk) trivial (Below.refl _ _) (Nat.le_refl _) (by simp) ?_; (case hd => rfl); (case hg => rfl); (case hr => first | (go_simp; done) | (go_simp; rfl)); (case hp => exact (Reps.one (show Kd.M Kd.string _ _ _ a0_6 [.string a0_6] from rfl) (Reps.none _ _))); intro v363 w51 ho52 hb hg_ hnew_; clear hg_ hnew_; (first | rw [← Ny362.out] at ho52 | (simp only [Int.reduceToNat] at ho52; rw [← Ny362.out] at ho52)); have HO364 := Aside0.mk (Kd.R_lower ho52 (below_size (bH HB.out))); replace BK355 := rB BK355 hb; replace BK356 := rB BK356 hb; replace BK361 := rB BK361 hb; replace HB := rS HB hb; clear hb ho52; obtain ⟨Ao53, co53, eo53⟩ := Kd.R_slice HO364.out; subst eo53; have hnb54 := rP NB361_356 NB356_361; obtain ⟨hcz55, hfz55⟩ := d8 BK361))
         go_meet
         case rel => exact ⟨_, (y362), (.slice Ao53 y362.length co53), H', ⟨by have := HJ22.out; first | omega | exact Nat.le_refl _⟩, ⟨by (with_reducible repeat (first | apply Kd.R_alloc | apply Kd.R_drewN | apply Kd.R_drew)); exact Kd.R_mono (Kd.R_far (p := ⟨gb361, 1, none⟩) (Kd.R_types HO364.out BK361.out (by decide)) (fun _ hk => hk.2) (.slice Ao53 y362.length co53)) (fun _ hk => trivial)⟩, ⟨bK BK355.out⟩, ⟨bK BK356.out⟩, ⟨bV BK361.out⟩, ⟨bH HB.out⟩⟩
        ·replace c47 := Bool.eq_false_iff.mpr c47; subst c47; rw [if_neg (show ¬ (false = true) by decide)] at H; have H' := Aside0.mk H; clear H; go_wp2
         go_meet
         case rel => exact ⟨_, (([] : List ByteArray)), (.slice none 0 0), H', ⟨by have := HJ22.out; first | omega | exact Nat.le_refl _⟩, ⟨xN⟩, ⟨bK BK355.out⟩, ⟨bK BK356.out⟩, ⟨bK BK361.out⟩, ⟨bH HB.out⟩⟩
       case rest =>
        clear HC46; (try clear c3); (try clear c11); (try clear c11b0); (try clear c11b1); (try clear c20); (try clear c20b0); (try clear c20b1); (try clear c21); (try clear c42); (try clear c42b0); (try clear c42b1); (try clear c47); (try clear hcz10); (try clear hcz15); (try clear hcz17); (try clear hcz18); (try clear hcz27); (try clear hcz29); (try clear hcz45); (try clear hcz50); (try clear hcz55); (try clear hcz7); (try clear hcz9); (try clear hfz10); (try clear hfz15); (try clear hfz17); (try clear hfz18)
        (try clear hfz27); (try clear hfz29); (try clear hfz45); (try clear hfz50); (try clear hfz55); (try clear hfz7); (try clear hfz9); obtain ⟨kq, z2, za, HA, HJ45, z0, BK355, BK356, BK361, HB⟩ := hcut; cases kq with
        | zero => exact absurd HA.out (by simp [frame_Command.j1])
        | succ kj45 =>
         have H := HA.out; clear HA; simp only [frame_Command.j1] at H; have HC56 := Aside0.mk H; clear H; have hnb57 := rP NB355_356 NB356_355; have hnb58 := rP NB355_361 NB361_355; obtain ⟨hcz59, hfz59⟩ := d8 BK355
         go_upto_block 1 with (fail)
         go_cut [7] (fun v7 wc => ∃ (kq : Nat) (x7_55 : Int) (z4 : Int) (z5 : Int) (z6 : Int), v7 = .int .u64 x7_55 ∧ Aside0 (frame_Command.j2 kq t357 x7_55 false a0_1 a0_2 a0_3 a0_4 a0_5 a0_6 a0_7 t357 z2 z4 z5 a0_7 a0_4 z6 (!t360) = some (r1, r2, r3, r4, r5, r6, r7, r8, r9)) ∧ Aside0 (kq ≤ kj45) ∧ Aside0 (Kd.R Kd.string 9 wc w.heap.size (fun _ => True) za z2) ∧ Aside0 (wc.heap[gb355]? = some (.cells #[.bool false, .int .u8 a0_1, .int .u16 a0_2, .int .u32 a0_3, .int .u64 a0_4, .string a0_5, .string a0_6, .string a0_7] 31 (0, 0))) ∧ Aside0 (wc.heap[gb356]? = some (.cells #[.int .i64 0, (.slice none 0 0), .int .u32 0, .int .i64 0, .string (⟨#[]⟩ : ByteArray), .int .u64 0, .int .u64 0, .bool false] 70 (0, 0))) ∧ Aside0 (wc.heap[gb361]? = some (.cells #[.int .i64 t357, za, .int .u32 z4, .int .i64 z5, .string a0_7, .int .u64 a0_4, .int .u64 z6, .bool (!t360)] 70 (0, 0))) ∧ Aside0 (Below w.heap.size w wc))
         case first =>
          have H := HC56.out; clear HC56
          by_cases c60 : (a0_5.size : Int) = 4
          ·rw [if_pos c60] at H; have c60b0 : ((a0_5.size : Int) == 4) = true := beq_iff_eq.mpr c60; have c60b1 : ((a0_5.size : Int) != 4) = false := bne_eq_false_iff_eq.mpr c60; clear c60
           (first | rw [c60b0] | (simp only [i64_w, i32_w]; rw [c60b0]) | skip)
           replace H := Option.bind_eq_some_iff.mp H; obtain ⟨t365, A610, H⟩ := H; (try dsimp only at H); have A61 := Aside0.mk A610; clear A610; have H' := Aside0.mk H; clear H
           go_wp2_with (first | ((with_reducible refine gate_callee (f := 50) rfl ?_); refine gL (some 61) rfl rfl Try.func50 #[.string a0_5] rfl ?_; (with_reducible refine (frame_expiry.calls kj45 a0_5 t365 _ A61.out).mono ?_); rintro e w' ⟨rfl, ⟨nd, rfl⟩⟩; refine ⟨_, rfl, ?_⟩; (try simp only [World.drewN_drewN]); (try (rw [drewN_self wc]; generalize hq_ : World.drewN wc _ = wc; have n0_ : Aside0 (Kd.R Kd.string 9 wc w.heap.size (fun _ => True) za z2) := ⟨by rw [← hq_]; exact (by (with_reducible repeat (first | apply Kd.R_alloc | apply Kd.R_drewN | apply Kd.R_drew)); exact z0.out)⟩; have n1_ := Aside0.mk (bQ BK355.out hq_); have n2_ := Aside0.mk (bQ BK356.out hq_); have n3_ := Aside0.mk (bQ BK361.out hq_); have n4_ := Aside0.mk (bF HB.out hq_); clear z0 BK355 BK356 BK361 HB hq_; have z0 := n0_; have BK355 := n1_; have BK356 := n2_; have BK361 := n3_; have HB := n4_; clear n0_ n1_ n2_ n3_ n4_)); have hnb62 := rP NB361_355 NB355_361; have hnb63 := rP NB361_356 NB356_361; obtain ⟨hcz64, hfz64⟩ := d8 BK361))
           go_meet
           case rel => exact ⟨_, (4294967295), (0), (t365), (0), (by first | rfl | (simp; done) | (simp [*]; done) | (cases a0_6.toList <;> rfl)), H', ⟨by have := HJ22.out; have := HJ45.out; first | omega | exact Nat.le_refl _⟩, ⟨by (with_reducible repeat (first | apply Kd.R_alloc | apply Kd.R_drewN | apply Kd.R_drew)); exact Kd.R_mono (Kd.R_far (p := ⟨gb361, 3, none⟩) (Kd.R_types z0.out BK361.out (by decide)) (fun _ hk => hk.2) (.int .i64 t365)) (fun _ hk => trivial)⟩, ⟨bK BK355.out⟩, ⟨bK BK356.out⟩, ⟨bV BK361.out⟩, ⟨bH HB.out⟩⟩
          ·rw [if_neg c60] at H; have c60b0 : ((a0_5.size : Int) == 4) = false := beq_eq_false_iff_ne.mpr c60; have c60b1 : ((a0_5.size : Int) != 4) = true := bne_iff_ne.mpr c60
           (first | rw [c60b0] | (simp only [i64_w, i32_w]; rw [c60b0]) | skip)
           by_cases c65 : (a0_5.size : Int) = 8
           ·rw [if_pos c65] at H; have c65b0 : ((a0_5.size : Int) == 8) = true := beq_iff_eq.mpr c65; have c65b1 : ((a0_5.size : Int) != 8) = false := bne_eq_false_iff_eq.mpr c65; clear c65
            by_cases c66 : 0 ≤ 4
            ·rw [if_pos c66] at H; have c66b0 := eq_true c66; have c66b1 : decide (0 ≤ 4) = true := decide_eq_true c66; clear c66
             by_cases c67 : 4 ≤ (a0_5.size : Int)
             ·rw [if_pos c67] at H; have c67b0 := eq_true c67; have c67b1 : decide (4 ≤ (a0_5.size : Int)) = true := decide_eq_true c67; clear c67; replace H := Option.bind_eq_some_iff.mp H; obtain ⟨t366, A680, H⟩ := H; (try dsimp only at H); have A68 := Aside0.mk A680; clear A680; have c69b0 := eq_true (of_decide_eq_true (by first | (with_reducible assumption) | assumption) : 4 ≤ (a0_5.size : Int)); replace H := Option.bind_eq_some_iff.mp H; obtain ⟨t367, A700, H⟩ := H; (try dsimp only at H); have A70 := Aside0.mk A700; clear A700; have H' := Aside0.mk H; clear H
              try go_wp2
              replace z0 := Aside0.mk (Kd.R_drew z0.out); replace BK355 := Aside0.mk (bD BK355.out); replace BK356 := Aside0.mk (bD BK356.out); replace BK361 := Aside0.mk (bD BK361.out); replace HB := Aside0.mk (eD HB.out); refine start_ (n := 11) (S := fun w' => True) (ds := []) #[false, false, false, false, false, false, false, false, false, false, false] (by kernel_rfl) rfl rfl trivial (fun hHeld => ?_); refine with_tabW frame_Command.tab17 frame_Command.bits17 (fun HT_ HW_ => ?_)
              generalize wc.drew = w71 at z0 BK355 BK356 BK361 HB hHeld ⊢; refine pU HT_ 0 (some 65) ?_ #[true, false, false, false, false, false, false, false, false, false, false] rfl rfl ?_ ?_ ?_ ?_
              rotate_left
              ·intro w'
               go_simp
               with_reducible rfl
              rotate_left
              ·simp only [Act.put, sA, sB, sC, i64_w, i32_w]
               rfl
              refine pU HT_ 1 (some 66) ?_ #[true, true, false, false, false, false, false, false, false, false, false] rfl rfl ?_ ?_ ?_ ?_
              rotate_left
              ·intro w'
               go_simp
               with_reducible rfl
              rotate_left
              ·simp only [Act.put, sA, sB, sC, i64_w, i32_w]
               rfl
              refine pU HT_ 4 (some 69) ?_ #[true, true, false, false, true, false, false, false, false, false, false] rfl rfl ?_ ?_ ?_ ?_
              rotate_left
              ·intro w'
               go_simp
               with_reducible rfl
              rotate_left
              ·simp only [Act.put, sA, sB, sC, i64_w, i32_w]
               rfl
              refine pU HT_ 5 (some 70) ?_ #[true, true, false, false, true, true, false, false, false, false, false] rfl rfl ?_ ?_ ?_ ?_
              rotate_left
              ·intro w'
               go_simp
               with_reducible rfl
              rotate_left
              ·simp only [Act.put, sA, sB, sC, i64_w, i32_w]
               rfl
              refine one_ (i := 2) (N := some 67) #[true, true, true, false, true, true, false, false, false, false, false] rfl rfl (one_of HT_.out (by kernel_rfl)) (by decide) (fun K hK => ?_)
              refine goes_ Try.func41 (by kernel_rfl) rfl #[.string (a0_5.extract 0 4)] (by rfl) rfl rfl (by (try simp only [List.map_toArray, List.map_cons, List.map_nil]); first | done | rfl | (simp only [List.length_drop, List.length_take]; rfl)) ?_
              with_reducible refine (frame_take.calls kj45 (a0_5.extract 0 4) t366 _ A68.out).mono ?_
              rintro e w' ⟨rfl, ⟨nd, rfl⟩⟩
              refine ⟨_, rfl, ?_⟩
              refine hK.out _ _ trivial (fun hHeld => ?_)
              clear hK K; refine norm_ (a' := ?_) ?_ ?_
              rotate_left
              ·show Act.put _ (some 67) _ = _
               simp only [Act.put, sA, sB, sC, i64_w, i32_w]
               rfl
              refine pU HT_ 3 (some 68) ?_ #[true, true, true, true, true, true, false, false, false, false, false] rfl rfl ?_ ?_ ?_ ?_
              rotate_left
              ·intro w'
               go_simp
               with_reducible rfl
              rotate_left
              ·simp only [Act.put, sA, sB, sC, i64_w, i32_w]
               rfl
              refine pU HT_ 7 (some 72) ?_ #[true, true, true, true, true, true, false, true, false, false, false] rfl rfl ?_ ?_ ?_ ?_
              rotate_left
              ·intro w'
               go_simp
               with_reducible rfl
              rotate_left
              ·simp only [Act.put, sA, sB, sC, i64_w, i32_w]
               rfl
              refine one_ (i := 6) (N := some 71) #[true, true, true, true, true, true, true, true, false, false, false] rfl rfl (one_of HT_.out (by kernel_rfl)) (by decide) (fun K hK => ?_)
              refine goes_ Try.func50 (by kernel_rfl) rfl #[.string (a0_5.extract 4 a0_5.size)] (by rfl) rfl rfl (by (try simp only [List.map_toArray, List.map_cons, List.map_nil]); first | done | rfl | (simp only [List.length_drop, List.length_take]; rfl)) ?_
              with_reducible refine (frame_expiry.calls kj45 (a0_5.extract 4 a0_5.size) t367 _ A70.out).mono ?_
              rintro e w' ⟨rfl, ⟨nd, rfl⟩⟩
              refine ⟨_, rfl, ?_⟩
              refine hK.out _ _ trivial (fun hHeld => ?_)
              clear hK K; refine norm_ (a' := ?_) ?_ ?_
              rotate_left
              ·show Act.put _ (some 71) _ = _
               simp only [Act.put, sA, sB, sC, i64_w, i32_w]
               rfl
              refine one_ (i := 8) (N := none) #[true, true, true, true, true, true, true, true, true, false, false] rfl rfl (one_of HT_.out (by kernel_rfl)) (by decide) (fun K hK => ?_)
              have hs72 : w71.cell? ⟨gb361, 2, none⟩ = some (.int .u32 0) := (blk_cell BK361.out 2).trans rfl; have hfs72 := blk_frozen BK361.out 2; have hns72_0 := NB355_361.out; have hns72_1 := NB356_361.out; have hms72_0 := NB361_355.out; have hms72_1 := NB361_356.out; refine skip_ (w1 := ?_) (by rfl) rfl ?_ ?_
              rotate_left
              ·go_simp
               rfl
              refine hK.out _ _ trivial (fun hHeld => ?_)
              clear hK K; refine pU HT_ 9 (some 73) ?_ #[true, true, true, true, true, true, true, true, true, true, false] rfl rfl ?_ ?_ ?_ ?_
              rotate_left
              ·intro w'
               go_simp
               with_reducible rfl
              rotate_left
              ·simp only [Act.put, sA, sB, sC, i64_w, i32_w]
               rfl
              refine one_ (i := 10) (N := none) #[true, true, true, true, true, true, true, true, true, true, true] rfl rfl (one_of HT_.out (by kernel_rfl)) (by decide) (fun K hK => ?_)
              have hs73 : w71.cell? ⟨gb361, 3, none⟩ = some (.int .i64 0) := (blk_cell BK361.out 3).trans rfl; have hfs73 := blk_frozen BK361.out 3; have hns73_0 := NB355_361.out; have hns73_1 := NB356_361.out; have hms73_0 := NB361_355.out; have hms73_1 := NB361_356.out; refine skip_ (w1 := ?_) (by rfl) rfl ?_ ?_
              rotate_left
              ·go_simp
               rfl
              refine hK.out _ _ trivial (fun hHeld => ?_)
              clear hK K; refine done_ (done_of HT_.out (by kernel_rfl)) ?_
              try go_wp2
              go_meet
              case rel => exact ⟨_, (4294967295), ((t366) % 4294967296), (t367), (0), (by first | rfl | (simp; done) | (simp [*]; done) | (cases a0_6.toList <;> rfl)), H', ⟨by have := HJ22.out; have := HJ45.out; first | omega | exact Nat.le_refl _⟩, ⟨by (with_reducible repeat (first | apply Kd.R_alloc | apply Kd.R_drewN | apply Kd.R_drew)); exact Kd.R_mono (Kd.R_far (p := ⟨gb361, 3, none⟩) (Kd.R_far (p := ⟨gb361, 2, none⟩) (Kd.R_types z0.out BK361.out (by decide)) (fun _ hk => hk.2) (.int .u32 ((t366) % 4294967296))) (fun _ hk => hk.2) (.int .i64 t367)) (fun _ hk => trivial)⟩, ⟨bK BK355.out⟩, ⟨bK BK356.out⟩, ⟨bV BK361.out⟩, ⟨bH HB.out⟩⟩
             ·rw [if_neg c67] at H; exact absurd H (by simp)
            ·rw [if_neg c66] at H; exact absurd H (by simp)
           ·rw [if_neg c65] at H; have c65b0 : ((a0_5.size : Int) == 8) = false := beq_eq_false_iff_ne.mpr c65; have c65b1 : ((a0_5.size : Int) != 8) = true := bne_iff_ne.mpr c65
            by_cases c74 : (a0_5.size : Int) = 20
            ·rw [if_pos c74] at H; have c74b0 : ((a0_5.size : Int) == 20) = true := beq_iff_eq.mpr c74; have c74b1 : ((a0_5.size : Int) != 20) = false := bne_eq_false_iff_eq.mpr c74; clear c74
             by_cases c75 : 0 ≤ 8
             ·rw [if_pos c75] at H; have c75b0 := eq_true c75; have c75b1 : decide (0 ≤ 8) = true := decide_eq_true c75; clear c75
              by_cases c76 : 8 ≤ (a0_5.size : Int)
              ·rw [if_pos c76] at H; have c76b0 := eq_true c76; have c76b1 : decide (8 ≤ (a0_5.size : Int)) = true := decide_eq_true c76; clear c76; replace H := Option.bind_eq_some_iff.mp H; obtain ⟨t368, A770, H⟩ := H; (try dsimp only at H); have A77 := Aside0.mk A770; clear A770
               by_cases c78 : 16 ≤ (a0_5.size : Int)
               ·rw [if_pos c78] at H; have c78b0 := eq_true c78; have c78b1 : decide (16 ≤ (a0_5.size : Int)) = true := decide_eq_true c78; clear c78; replace H := Option.bind_eq_some_iff.mp H; obtain ⟨t369, A790, H⟩ := H; (try dsimp only at H); have A79 := Aside0.mk A790; clear A790; have H' := Aside0.mk H; clear H
                try go_wp2
                replace z0 := Aside0.mk (Kd.R_drew z0.out); replace BK355 := Aside0.mk (bD BK355.out); replace BK356 := Aside0.mk (bD BK356.out); replace BK361 := Aside0.mk (bD BK361.out); replace HB := Aside0.mk (eD HB.out); refine start_ (n := 9) (S := fun w' => True) (ds := []) #[false, false, false, false, false, false, false, false, false] (by kernel_rfl) rfl rfl trivial (fun hHeld => ?_); refine with_tabW frame_Command.tab19 frame_Command.bits19 (fun HT_ HW_ => ?_)
                generalize wc.drew = w80 at z0 BK355 BK356 BK361 HB hHeld ⊢; refine pU HT_ 0 (some 76) ?_ #[true, false, false, false, false, false, false, false, false] rfl rfl ?_ ?_ ?_ ?_
                rotate_left
                ·intro w'
                 go_simp
                 with_reducible rfl
                rotate_left
                ·simp only [Act.put, sA, sB, sC, i64_w, i32_w]
                 rfl
                refine pU HT_ 1 (some 77) ?_ #[true, true, false, false, false, false, false, false, false] rfl rfl ?_ ?_ ?_ ?_
                rotate_left
                ·intro w'
                 go_simp
                 with_reducible rfl
                rotate_left
                ·simp only [Act.put, sA, sB, sC, i64_w, i32_w]
                 rfl
                refine pU HT_ 3 (some 79) ?_ #[true, true, false, true, false, false, false, false, false] rfl rfl ?_ ?_ ?_ ?_
                rotate_left
                ·intro w'
                 go_simp
                 with_reducible rfl
                rotate_left
                ·simp only [Act.put, sA, sB, sC, i64_w, i32_w]
                 rfl
                refine pU HT_ 4 (some 80) ?_ #[true, true, false, true, true, false, false, false, false] rfl rfl ?_ ?_ ?_ ?_
                rotate_left
                ·intro w'
                 go_simp
                 with_reducible rfl
                rotate_left
                ·simp only [Act.put, sA, sB, sC, i64_w, i32_w]
                 rfl
                refine one_ (i := 2) (N := some 78) #[true, true, true, true, true, false, false, false, false] rfl rfl (one_of HT_.out (by kernel_rfl)) (by decide) (fun K hK => ?_)
                refine goes_ Try.func41 (by kernel_rfl) rfl #[.string (a0_5.extract 0 8)] (by rfl) rfl rfl (by (try simp only [List.map_toArray, List.map_cons, List.map_nil]); first | done | rfl | (simp only [List.length_drop, List.length_take]; rfl)) ?_
                with_reducible refine (frame_take.calls kj45 (a0_5.extract 0 8) t368 _ A77.out).mono ?_
                rintro e w' ⟨rfl, ⟨nd, rfl⟩⟩
                refine ⟨_, rfl, ?_⟩
                refine hK.out _ _ trivial (fun hHeld => ?_)
                clear hK K; refine norm_ (a' := ?_) ?_ ?_
                rotate_left
                ·show Act.put _ (some 78) _ = _
                 simp only [Act.put, sA, sB, sC, i64_w, i32_w]
                 rfl
                refine pU HT_ 6 (some 82) ?_ #[true, true, true, true, true, false, true, false, false] rfl rfl ?_ ?_ ?_ ?_
                rotate_left
                ·intro w'
                 go_simp
                 with_reducible rfl
                rotate_left
                ·simp only [Act.put, sA, sB, sC, i64_w, i32_w]
                 rfl
                refine one_ (i := 5) (N := some 81) #[true, true, true, true, true, true, true, false, false] rfl rfl (one_of HT_.out (by kernel_rfl)) (by decide) (fun K hK => ?_)
                refine goes_ Try.func41 (by kernel_rfl) rfl #[.string (a0_5.extract 16 a0_5.size)] (by rfl) rfl rfl (by (try simp only [List.map_toArray, List.map_cons, List.map_nil]); first | done | rfl | (simp only [List.length_drop, List.length_take]; rfl)) ?_
                with_reducible refine (frame_take.calls kj45 (a0_5.extract 16 a0_5.size) t369 _ A79.out).mono ?_
                rintro e w' ⟨rfl, ⟨nd, rfl⟩⟩
                refine ⟨_, rfl, ?_⟩
                refine hK.out _ _ trivial (fun hHeld => ?_)
                clear hK K; refine norm_ (a' := ?_) ?_ ?_
                rotate_left
                ·show Act.put _ (some 81) _ = _
                 simp only [Act.put, sA, sB, sC, i64_w, i32_w]
                 rfl
                refine one_ (i := 7) (N := none) #[true, true, true, true, true, true, true, true, false] rfl rfl (one_of HT_.out (by kernel_rfl)) (by decide) (fun K hK => ?_)
                have hs81 : w80.cell? ⟨gb361, 6, none⟩ = some (.int .u64 0) := (blk_cell BK361.out 6).trans rfl; have hfs81 := blk_frozen BK361.out 6; have hns81_0 := NB355_361.out; have hns81_1 := NB356_361.out; have hms81_0 := NB361_355.out; have hms81_1 := NB361_356.out; refine skip_ (w1 := ?_) (by rfl) rfl ?_ ?_
                rotate_left
                ·go_simp
                 rfl
                refine hK.out _ _ trivial (fun hHeld => ?_)
                clear hK K; refine pU HT_ 8 (some 7) ?_ #[true, true, true, true, true, true, true, true, true] rfl rfl ?_ ?_ ?_ ?_
                rotate_left
                ·intro w'
                 go_simp
                 with_reducible rfl
                rotate_left
                ·simp only [Act.put, sA, sB, sC, i64_w, i32_w]
                 rfl
                refine done_ (done_of HT_.out (by kernel_rfl)) ?_
                try go_wp2
                go_meet
                case rel => exact ⟨_, (t369), (0), (0), (t368), (by first | rfl | (simp; done) | (simp [*]; done) | (cases a0_6.toList <;> rfl)), H', ⟨by have := HJ22.out; have := HJ45.out; first | omega | exact Nat.le_refl _⟩, ⟨by (with_reducible repeat (first | apply Kd.R_alloc | apply Kd.R_drewN | apply Kd.R_drew)); exact Kd.R_mono (Kd.R_far (p := ⟨gb361, 6, none⟩) (Kd.R_types z0.out BK361.out (by decide)) (fun _ hk => hk.2) (.int .u64 t368)) (fun _ hk => trivial)⟩, ⟨bK BK355.out⟩, ⟨bK BK356.out⟩, ⟨bV BK361.out⟩, ⟨bH HB.out⟩⟩
               ·rw [if_neg c78] at H; exact absurd H (by simp)
              ·rw [if_neg c76] at H; exact absurd H (by simp)
             ·rw [if_neg c75] at H; exact absurd H (by simp)
            ·rw [if_neg c74] at H; have c74b0 : ((a0_5.size : Int) == 20) = false := beq_eq_false_iff_ne.mpr c74; have c74b1 : ((a0_5.size : Int) != 20) = true := bne_iff_ne.mpr c74; have H' := Aside0.mk H; clear H; go_wp2
             go_meet
             case rel => exact ⟨_, (4294967295), (0), (0), (0), (by first | rfl | (simp; done) | (simp [*]; done) | (cases a0_6.toList <;> rfl)), H', ⟨by have := HJ22.out; have := HJ45.out; first | omega | exact Nat.le_refl _⟩, ⟨by (with_reducible repeat (first | apply Kd.R_alloc | apply Kd.R_drewN | apply Kd.R_drew)); exact z0.out⟩, ⟨bK BK355.out⟩, ⟨bK BK356.out⟩, ⟨bK BK361.out⟩, ⟨bH HB.out⟩⟩
         case rest =>
          clear HC56; (try clear c3); (try clear c11); (try clear c11b0); (try clear c11b1); (try clear c20); (try clear c20b0); (try clear c20b1); (try clear c21); (try clear c42); (try clear c42b0); (try clear c42b1); (try clear c47); (try clear c60); (try clear c60b0); (try clear c60b1); (try clear c65); (try clear c65b0); (try clear c65b1); (try clear c66); (try clear c66b0); (try clear c66b1); (try clear c67); (try clear c67b0); (try clear c67b1); (try clear c69b0); (try clear c74); (try clear c74b0); (try clear c74b1); (try clear c75); (try clear c75b0); (try clear c75b1); (try clear c76); (try clear c76b0); (try clear c76b1); (try clear c78); (try clear c78b0); (try clear c78b1); (try clear hcz10); (try clear hcz15); (try clear hcz17); (try clear hcz18); (try clear hcz27); (try clear hcz29); (try clear hcz45); (try clear hcz50); (try clear hcz55); (try clear hcz59); (try clear hcz64); (try clear hcz7)
          (try clear hcz7); (try clear hcz9); (try clear hfz10); (try clear hfz15); (try clear hfz17); (try clear hfz18); (try clear hfz27); (try clear hfz29); (try clear hfz45); (try clear hfz50); (try clear hfz55); (try clear hfz59); (try clear hfz64); (try clear hfz7); (try clear hfz9); obtain ⟨kq, x7_55, z4, z5, z6, rfl, HA, HJ55, z0, BK355, BK356, BK361, HB⟩ := hcut; cases kq with
          | zero => exact absurd HA.out (by simp [frame_Command.j2])
          | succ kj55 =>
           have H := HA.out; clear HA; simp only [frame_Command.j2] at H; have HC82 := Aside0.mk H; clear H
           go_upto_region 20 with (fail)
           go_cut [93] (fun v93 wc => ∃ (kq : Nat) (x93_81 : Bool), v93 = .bool x93_81 ∧ Aside0 (frame_Command.j3 kq x7_55 x93_81 t357 z2 z4 z5 a0_7 a0_4 z6 (!t360) = some (r1, r2, r3, r4, r5, r6, r7, r8, r9)) ∧ Aside0 (kq ≤ kj55) ∧ Aside0 (Kd.R Kd.string 9 wc w.heap.size (fun _ => True) za z2) ∧ Aside0 (wc.heap[gb355]? = some (.cells #[.bool false, .int .u8 a0_1, .int .u16 a0_2, .int .u32 a0_3, .int .u64 a0_4, .string a0_5, .string a0_6, .string a0_7] 31 (0, 0))) ∧ Aside0 (wc.heap[gb356]? = some (.cells #[.int .i64 0, (.slice none 0 0), .int .u32 0, .int .i64 0, .string (⟨#[]⟩ : ByteArray), .int .u64 0, .int .u64 0, .bool false] 70 (0, 0))) ∧ Aside0 (wc.heap[gb361]? = some (.cells #[.int .i64 t357, za, .int .u32 z4, .int .i64 z5, .string a0_7, .int .u64 a0_4, .int .u64 z6, .bool (!t360)] 70 (0, 0))) ∧ Aside0 (Below w.heap.size w wc))
           case first =>
            have H := HC82.out; clear HC82
            by_cases c83 : a0_4 = 0
            ·rw [if_pos c83] at H; have c83b0 : (a0_4 == 0) = true := beq_iff_eq.mpr c83; have c83b1 : (a0_4 != 0) = false := bne_eq_false_iff_eq.mpr c83; clear c83
             (first | rw [c83b0] | (simp only [i64_w, i32_w]; rw [c83b0]) | skip)
             have H' := Aside0.mk H; clear H; have hnb84 := rP NB355_356 NB356_355; have hnb85 := rP NB355_361 NB361_355; obtain ⟨hcz86, hfz86⟩ := d8 BK355; go_wp2
             go_meet
             case rel => exact ⟨_, (false), (by first | rfl | (simp; done) | (simp [*]; done) | (cases a0_6.toList <;> rfl)), H', ⟨by have := HJ22.out; have := HJ45.out; have := HJ55.out; first | omega | exact Nat.le_refl _⟩, ⟨by (with_reducible repeat (first | apply Kd.R_alloc | apply Kd.R_drewN | apply Kd.R_drew)); exact z0.out⟩, ⟨bK BK355.out⟩, ⟨bK BK356.out⟩, ⟨bK BK361.out⟩, ⟨bH HB.out⟩⟩
            ·rw [if_neg c83] at H; have c83b0 : (a0_4 == 0) = false := beq_eq_false_iff_ne.mpr c83; have c83b1 : (a0_4 != 0) = true := bne_iff_ne.mpr c83
             (first | rw [c83b0] | (simp only [i64_w, i32_w]; rw [c83b0]) | skip)
             by_cases c87 : t357 = 5
             ·rw [if_pos c87] at H; have c87b0 : (t357 == 5) = true := beq_iff_eq.mpr c87; have c87b1 : (t357 != 5) = false := bne_eq_false_iff_eq.mpr c87; clear c87; have H' := Aside0.mk H; clear H; have hnb88 := rP NB355_356 NB356_355; have hnb89 := rP NB355_361 NB361_355; obtain ⟨hcz90, hfz90⟩ := d8 BK355; go_wp2
              go_meet
              case rel => exact ⟨_, (true), (by first | rfl | (simp; done) | (simp [*]; done) | (cases a0_6.toList <;> rfl)), H', ⟨by have := HJ22.out; have := HJ45.out; have := HJ55.out; first | omega | exact Nat.le_refl _⟩, ⟨by (with_reducible repeat (first | apply Kd.R_alloc | apply Kd.R_drewN | apply Kd.R_drew)); exact z0.out⟩, ⟨bK BK355.out⟩, ⟨bK BK356.out⟩, ⟨bK BK361.out⟩, ⟨bH HB.out⟩⟩
             ·rw [if_neg c87] at H; have c87b0 : (t357 == 5) = false := beq_eq_false_iff_ne.mpr c87; have c87b1 : (t357 != 5) = true := bne_iff_ne.mpr c87; have H' := Aside0.mk H; clear H; have hnb91 := rP NB355_356 NB356_355; have hnb92 := rP NB355_361 NB361_355; obtain ⟨hcz93, hfz93⟩ := d8 BK355; go_wp2
              go_meet
              case rel => exact ⟨_, ((t357 == 7)), (by first | rfl | (simp; done) | (simp [*]; done) | (cases a0_6.toList <;> rfl)), H', ⟨by have := HJ22.out; have := HJ45.out; have := HJ55.out; first | omega | exact Nat.le_refl _⟩, ⟨by (with_reducible repeat (first | apply Kd.R_alloc | apply Kd.R_drewN | apply Kd.R_drew)); exact z0.out⟩, ⟨bK BK355.out⟩, ⟨bK BK356.out⟩, ⟨bK BK361.out⟩, ⟨bH HB.out⟩⟩
           case rest =>
            clear HC82; (try clear c3); (try clear c11); (try clear c11b0); (try clear c11b1); (try clear c20); (try clear c20b0); (try clear c20b1); (try clear c21); (try clear c42); (try clear c42b0); (try clear c42b1); (try clear c47); (try clear c60); (try clear c60b0); (try clear c60b1); (try clear c65); (try clear c65b0); (try clear c65b1); (try clear c66); (try clear c66b0); (try clear c66b1); (try clear c67); (try clear c67b0); (try clear c67b1); (try clear c69b0); (try clear c74); (try clear c74b0); (try clear c74b1); (try clear c75); (try clear c75b0); (try clear c75b1); (try clear c76); (try clear c76b0); (try clear c76b1); (try clear c78); (try clear c78b0); (try clear c78b1); (try clear c83); (try clear c83b0); (try clear c83b1); (try clear c87); (try clear c87b0); (try clear c87b1); (try clear hcz10); (try clear hcz15); (try clear hcz17); (try clear hcz18); (try clear hcz27); (try clear hcz29); (try clear hcz45); (try clear hcz50); (try clear hcz55); (try clear hcz59)
            (try clear hcz59); (try clear hcz64); (try clear hcz7); (try clear hcz86); (try clear hcz90); (try clear hcz93); (try clear hcz9); (try clear hfz10); (try clear hfz15); (try clear hfz17); (try clear hfz18); (try clear hfz27); (try clear hfz29); (try clear hfz45); (try clear hfz50); (try clear hfz55); (try clear hfz59); (try clear hfz64); (try clear hfz7)
            (try clear hfz7); (try clear hfz86); (try clear hfz90); (try clear hfz93); (try clear hfz9); obtain ⟨kq, x93_81, rfl, HA, HJ81, z0, BK355, BK356, BK361, HB⟩ := hcut; cases kq with
            | zero => exact absurd HA.out (by simp [frame_Command.j3])
            | succ kj81 =>
             have H := HA.out; clear HA; simp only [frame_Command.j3] at H; have HC94 := Aside0.mk H; clear H
             go_upto_if 93 with (fail)
             go_cut [] (fun wc => ∃ (kq : Nat) (zc : Int), Aside0 (frame_Command.j4 kq x7_55 zc z2 z4 z5 a0_7 a0_4 z6 (!t360) = some (r1, r2, r3, r4, r5, r6, r7, r8, r9)) ∧ Aside0 (kq ≤ kj81) ∧ Aside0 (Kd.R Kd.string 9 wc w.heap.size (fun _ => True) za z2) ∧ Aside0 (wc.heap[gb355]? = some (.cells #[.bool false, .int .u8 a0_1, .int .u16 a0_2, .int .u32 a0_3, .int .u64 a0_4, .string a0_5, .string a0_6, .string a0_7] 31 (0, 0))) ∧ Aside0 (wc.heap[gb356]? = some (.cells #[.int .i64 0, (.slice none 0 0), .int .u32 0, .int .i64 0, .string (⟨#[]⟩ : ByteArray), .int .u64 0, .int .u64 0, .bool false] 70 (0, 0))) ∧ Aside0 (wc.heap[gb361]? = some (.cells #[.int .i64 zc, za, .int .u32 z4, .int .i64 z5, .string a0_7, .int .u64 a0_4, .int .u64 z6, .bool (!t360)] 70 (0, 0))) ∧ Aside0 (Below w.heap.size w wc))
             case first =>
              have H := HC94.out; clear HC94
              by_cases c95 : x93_81 = true
              ·subst c95; rw [if_pos rfl] at H; have H' := Aside0.mk H; clear H; have hnb96 := rP NB361_355 NB355_361; have hnb97 := rP NB361_356 NB356_361; obtain ⟨hcz98, hfz98⟩ := d8 BK361; go_wp2
               go_meet
               case rel => exact ⟨_, (10), H', ⟨by have := HJ22.out; have := HJ45.out; have := HJ55.out; have := HJ81.out; first | omega | exact Nat.le_refl _⟩, ⟨by (with_reducible repeat (first | apply Kd.R_alloc | apply Kd.R_drewN | apply Kd.R_drew)); exact Kd.R_mono (Kd.R_far (p := ⟨gb361, 0, none⟩) (Kd.R_types z0.out BK361.out (by decide)) (fun _ hk => hk.2) (.int .i64 10)) (fun _ hk => trivial)⟩, ⟨bK BK355.out⟩, ⟨bK BK356.out⟩, ⟨bV BK361.out⟩, ⟨bH HB.out⟩⟩
              ·replace c95 := Bool.eq_false_iff.mpr c95; subst c95; rw [if_neg (show ¬ (false = true) by decide)] at H; have H' := Aside0.mk H; clear H; go_wp2
               go_meet
               case rel => exact ⟨_, (t357), H', ⟨by have := HJ22.out; have := HJ45.out; have := HJ55.out; have := HJ81.out; first | omega | exact Nat.le_refl _⟩, ⟨by (with_reducible repeat (first | apply Kd.R_alloc | apply Kd.R_drewN | apply Kd.R_drew)); exact z0.out⟩, ⟨bK BK355.out⟩, ⟨bK BK356.out⟩, ⟨bK BK361.out⟩, ⟨bH HB.out⟩⟩
             case rest =>
              clear HC94; (try clear c3); (try clear c11); (try clear c11b0); (try clear c11b1); (try clear c20); (try clear c20b0); (try clear c20b1); (try clear c21); (try clear c42); (try clear c42b0); (try clear c42b1); (try clear c47); (try clear c60); (try clear c60b0); (try clear c60b1); (try clear c65); (try clear c65b0); (try clear c65b1); (try clear c66); (try clear c66b0); (try clear c66b1); (try clear c67); (try clear c67b0); (try clear c67b1); (try clear c69b0); (try clear c74); (try clear c74b0); (try clear c74b1); (try clear c75); (try clear c75b0); (try clear c75b1); (try clear c76); (try clear c76b0); (try clear c76b1); (try clear c78); (try clear c78b0); (try clear c78b1); (try clear c83); (try clear c83b0); (try clear c83b1); (try clear c87); (try clear c87b0); (try clear c87b1); (try clear c95); (try clear hcz10); (try clear hcz15); (try clear hcz17); (try clear hcz18); (try clear hcz27); (try clear hcz29); (try clear hcz45); (try clear hcz50); (try clear hcz55); (try clear hcz59)
              (try clear hcz59); (try clear hcz64); (try clear hcz7); (try clear hcz86); (try clear hcz90); (try clear hcz93); (try clear hcz98); (try clear hcz9); (try clear hfz10); (try clear hfz15); (try clear hfz17); (try clear hfz18); (try clear hfz27); (try clear hfz29); (try clear hfz45); (try clear hfz50); (try clear hfz55); (try clear hfz59); (try clear hfz64)
              (try clear hfz64); (try clear hfz7); (try clear hfz86); (try clear hfz90); (try clear hfz93); (try clear hfz98); (try clear hfz9); obtain ⟨kq, zc, HA, HJ93, z0, BK355, BK356, BK361, HB⟩ := hcut; cases kq with
              | zero => exact absurd HA.out (by simp [frame_Command.j4])
              | succ kj93 =>
               have H := HA.out; clear HA; simp only [frame_Command.j4] at H
               by_cases c99 : x7_55 = 4294967295
               ·rw [if_pos c99] at H; have c99b0 : (x7_55 == 4294967295) = true := beq_iff_eq.mpr c99; have c99b1 : (x7_55 != 4294967295) = false := bne_eq_false_iff_eq.mpr c99; clear c99; replace H := Option.bind_eq_some_iff.mp H; obtain ⟨t370, ze, H⟩ := H; (try dsimp only at H); have A100 := Aside0.mk ze; clear ze
                by_cases c101 : t370 = 0
                ·rw [if_pos c101] at H; have c101b0 : (t370 == 0) = true := beq_iff_eq.mpr c101; have c101b1 : (t370 != 0) = false := bne_eq_false_iff_eq.mpr c101; clear c101; simp only [Option.some.injEq, Prod.mk.injEq] at H; obtain ⟨rfl, rfl, rfl, rfl, rfl, rfl, rfl, rfl, rfl⟩ := H; have hnb102 := rP NB361_355 NB355_361; have hnb103 := rP NB361_356 NB356_361; obtain ⟨hcz104, hfz104⟩ := d8 BK361; obtain ⟨Ao105, co105, eo105⟩ := Kd.R_slice z0.out; subst eo105
                 go_wp2_with (first | (go_at_call 51; (with_reducible refine (verb_Check.calls kj93 zc _ _ z2 z4 z5 a0_7 a0_4 z6 (!t360) t370 _ ?side1 ?side2 A100.out).mono ?_); (case side1 => repeat (first | exact (Kd.R_reads' z0.out).2.2 | (with_reducible refine Kd.C_alloc ?_ _) | (with_reducible refine Kd.C_drewN ?_ _) | (with_reducible refine Kd.C_drew ?_))); (case side2 => exact (Kd.R_reads' z0.out).2.1); rintro e w106 ⟨rfl, hb⟩; replace z0 := Aside0.mk (Kd.R_below (by (with_reducible repeat (first | apply Kd.R_alloc | apply Kd.R_drewN | apply Kd.R_drew)); exact z0.out) hb); replace BK355 := rB BK355 hb; replace BK356 := rB BK356 hb; replace BK361 := rB BK361 hb; replace HB := rS HB hb; (try clear hb); (try clear hk); obtain ⟨hcz107, hfz107⟩ := d8 BK361; have hnb108 := rP NB356_355 NB355_356; obtain ⟨hcz109, hfz109⟩ := d8 BK356))
                 refine bodyPost_ret (results_ct rfl _ _ gb356 70 #[.int .i64 zc, .slice Ao105 z2.length co105, .int .u32 z4, .int .i64 z5, .string a0_7, .int .u64 a0_4, .int .u64 z6, .bool (!t360)] (0, 0) _ rfl (bV BK356.out) Try.underlying70 rfl (by kernel_rfl)) rfl ?_
                 exact ⟨_, xR, by (with_reducible repeat (first | apply Kd.R_alloc | apply Kd.R_drewN | apply Kd.R_drew)); exact Kd.R_mono (Kd.R_far (p := ⟨gb356, 7, none⟩) (Kd.R_far (p := ⟨gb356, 6, none⟩) (Kd.R_far (p := ⟨gb356, 5, none⟩) (Kd.R_far (p := ⟨gb356, 4, none⟩) (Kd.R_far (p := ⟨gb356, 3, none⟩) (Kd.R_far (p := ⟨gb356, 2, none⟩) (Kd.R_far (p := ⟨gb356, 1, none⟩) (Kd.R_far (p := ⟨gb356, 0, none⟩) (Kd.R_types z0.out BK356.out (by decide)) (fun _ hk => hk.2) (.int .i64 zc)) (fun _ hk => hk.2) (.slice Ao105 z2.length co105)) (fun _ hk => hk.2) (.int .u32 z4)) (fun _ hk => hk.2) (.int .i64 z5)) (fun _ hk => hk.2) (.string a0_7)) (fun _ hk => hk.2) (.int .u64 a0_4)) (fun _ hk => hk.2) (.int .u64 z6)) (fun _ hk => hk.2) (.bool (!t360))) (fun _ hk => trivial), bH HB.out⟩
                ·rw [if_neg c101] at H; have c101b0 : (t370 == 0) = false := beq_eq_false_iff_ne.mpr c101; have c101b1 : (t370 != 0) = true := bne_iff_ne.mpr c101; simp only [Option.some.injEq, Prod.mk.injEq] at H; obtain ⟨rfl, rfl, rfl, rfl, rfl, rfl, rfl, rfl, rfl⟩ := H; have hnb110 := rP NB361_355 NB355_361; have hnb111 := rP NB361_356 NB356_361; obtain ⟨hcz112, hfz112⟩ := d8 BK361; obtain ⟨Ao113, co113, eo113⟩ := Kd.R_slice z0.out; subst eo113
                 go_wp2_with (first | (go_at_call 51; (with_reducible refine (verb_Check.calls kj93 zc _ _ z2 z4 z5 a0_7 a0_4 z6 (!t360) t370 _ ?side1 ?side2 A100.out).mono ?_); (case side1 => repeat (first | exact (Kd.R_reads' z0.out).2.2 | (with_reducible refine Kd.C_alloc ?_ _) | (with_reducible refine Kd.C_drewN ?_ _) | (with_reducible refine Kd.C_drew ?_))); (case side2 => exact (Kd.R_reads' z0.out).2.1); rintro e w114 ⟨rfl, hb⟩; replace z0 := Aside0.mk (Kd.R_below (by (with_reducible repeat (first | apply Kd.R_alloc | apply Kd.R_drewN | apply Kd.R_drew)); exact z0.out) hb); replace BK355 := rB BK355 hb; replace BK356 := rB BK356 hb; replace BK361 := rB BK361 hb; replace HB := rS HB hb; (try clear hb); (try clear hk); have hnb115 := rP NB356_355 NB355_356; obtain ⟨hcz116, hfz116⟩ := d8 BK356))
                 refine bodyPost_ret (results_ct rfl _ _ gb356 70 #[.int .i64 0, .slice none 0 0, .int .u32 0, .int .i64 0, .string (⟨#[]⟩ : ByteArray), .int .u64 0, .int .u64 0, .bool false] (0, 0) _ rfl (bV BK356.out) Try.underlying70 rfl (by kernel_rfl)) rfl ?_
                 exact ⟨_, xR, xN, bH HB.out⟩
               ·rw [if_neg c99] at H; have c99b0 : (x7_55 == 4294967295) = false := beq_eq_false_iff_ne.mpr c99; have c99b1 : (x7_55 != 4294967295) = true := bne_iff_ne.mpr c99; simp only [Option.some.injEq, Prod.mk.injEq] at H; obtain ⟨rfl, rfl, rfl, rfl, rfl, rfl, rfl, rfl, rfl⟩ := H; have hnb117 := rP NB356_355 NB355_356; have hnb118 := rP NB356_361 NB361_356; obtain ⟨hcz119, hfz119⟩ := d8 BK356; go_wp2; refine bodyPost_ret (results_ct rfl _ _ gb356 70 #[.int .i64 0, .slice none 0 0, .int .u32 0, .int .i64 0, .string (⟨#[]⟩ : ByteArray), .int .u64 0, .int .u64 0, .bool false] (0, 0) _ rfl (bV BK356.out) Try.underlying70 rfl (by kernel_rfl)) rfl ?_
                exact ⟨_, xR, xN, bH HB.out⟩
    ·replace c21 := Bool.eq_false_iff.mpr c21; subst c21; rw [if_neg (show ¬ (false = true) by decide)] at H; have HC120 := Aside0.mk H; clear H; go_enter Try.func30, Try.ntmps30
     try go_wp2_with (first | ((with_reducible refine gate_dst (N := 1) rfl ?_); refine bE 1 #[.bool false, .int .u8 a0_1, .int .u16 a0_2, .int .u32 a0_3, .int .u64 a0_4, .string a0_5, .string a0_6, .string a0_7] 31 rfl rfl ?_; intro gb355 hg w121 hbox hb; have BK355 := rM hbox; have GW355 := rG HB hg; replace HB := rS HB hb; have GE355 := GW355; clear hb hbox hg) | ((with_reducible refine gate_dst (N := 2) rfl ?_); refine bE 2 #[.int .i64 0, .slice none 0 0, .int .u32 0, .int .i64 0, .string (⟨#[]⟩ : ByteArray), .int .u64 0, .int .u64 0, .bool false] 70 rfl rfl ?_; intro gb356 hg w122 hbox hb; have BK356 := rM hbox; have GW356 := rG HB hg; replace HB := rS HB hb; have GE356 := GW356; have NB355_356 := rN BK355 hg; replace BK355 := rB BK355 hb; have NB356_355 := rY NB355_356; clear hb hbox hg; have hnb123 := rP NB355_356 NB356_355; obtain ⟨hcz124, hfz124⟩ := d8 BK355) | ((with_reducible refine gate_callee (f := 43) rfl ?_); refine gL (some 12) rfl rfl Try.func43 #[.int .u8 a0_1] rfl ?_; (with_reducible refine (frame_find.calls k a0_1 t357 false _ A2.out).mono ?_); rintro e w125 ⟨rfl, hb⟩; refine ⟨_, rfl, ?_⟩; replace BK355 := rB BK355 hb; replace BK356 := rB BK356 hb; replace HB := rS HB hb; (try clear hb); (try clear hk); obtain ⟨hcz126, hfz126⟩ := d8 BK355))
     replace BK355 := Aside0.mk (bD BK355.out); replace BK356 := Aside0.mk (bD BK356.out); replace HB := Aside0.mk (eD HB.out); refine start_ (n := 7) (S := fun w' => w'.cell? ⟨gb355, 0, none⟩ = some (.bool false) ∧ w'.cell? ⟨gb355, 1, none⟩ = some (.int .u8 a0_1) ∧ w'.cell? ⟨gb355, 2, none⟩ = some (.int .u16 a0_2) ∧ w'.cell? ⟨gb355, 3, none⟩ = some (.int .u32 a0_3) ∧ w'.cell? ⟨gb355, 4, none⟩ = some (.int .u64 a0_4) ∧ w'.cell? ⟨gb355, 5, none⟩ = some (.string a0_5) ∧ w'.cell? ⟨gb355, 6, none⟩ = some (.string a0_6) ∧ w'.cell? ⟨gb355, 7, none⟩ = some (.string a0_7)) (ds := []) #[false, false, false, false, false, false, false] (by kernel_rfl) rfl rfl ⟨kC BK355 0, kC BK355 1, kC BK355 2, kC BK355 3, kC BK355 4, kC BK355 5, kC BK355 6, kC BK355 7⟩ (fun hHeld => ?_)
     generalize w125.drew = w127 at BK355 BK356 HB hHeld ⊢; refine pure_ (i := 0) (N := some 24) (v := ?_) (a' := ?_) #[true, false, false, false, false, false, false] rfl rfl (by kernel_rfl) (fun _ _ _ h => h) (Or.inl ⟨by rfl, ?_⟩) ?_ ?_
     rotate_left
     ·intro w'
      go_simp
      with_reducible rfl
     rotate_left
     ·simp only [Act.put, sA, sB, sC, i64_w, i32_w]
      rfl
     refine pure_ (i := 3) (N := some 27) (v := ?_) (a' := ?_) #[true, false, false, true, false, false, false] rfl rfl (by kernel_rfl) (fun _ _ _ h => h) (Or.inl ⟨by rfl, ?_⟩) ?_ ?_
     rotate_left
     ·intro w'
      go_simp
      with_reducible rfl
     rotate_left
     ·simp only [Act.put, sA, sB, sC, i64_w, i32_w]
      rfl
     refine take_ (i := 1) (N := some 25) (v := ?_) (a' := ?_) #[true, true, false, true, false, false, false] rfl rfl (by kernel_rfl) (fun _ _ _ h => h) (Or.inl ⟨by rfl, ?_⟩) hHeld ?_ ?_
     rotate_left
     ·rintro w' ⟨s0, s1, s2, s3, s4, s5, s6, s7⟩
      go_simp
      with_reducible rfl
     rotate_left
     ·simp only [Act.put, sA, sB, sC, i64_w, i32_w]
      rfl
     refine pure_ (i := 2) (N := some 26) (v := ?_) (a' := ?_) #[true, true, true, true, false, false, false] rfl rfl (by kernel_rfl) (fun _ _ _ h => h) (Or.inl ⟨by rfl, ?_⟩) ?_ ?_
     rotate_left
     ·intro w'
      go_simp
      with_reducible rfl
     rotate_left
     ·simp only [Act.put, sA, sB, sC, i64_w, i32_w]
      rfl
     refine one_ (i := 4) (N := some 28) #[true, true, true, true, true, false, false] rfl rfl (by kernel_rfl) (by decide) (fun K hK => ?_)
     refine goes_ Try.func49 (by kernel_rfl) rfl #[.int .i64 t357] (by rfl) rfl rfl (by (try simp only [List.map_toArray, List.map_cons, List.map_nil]); first | done | rfl | (simp only [List.length_drop, List.length_take]; rfl)) ?_
     with_reducible refine (frame_extras.calls k t357 t359 _ A19.out).mono ?_
     rintro e w' ⟨rfl, ⟨nd, rfl⟩⟩
     refine ⟨_, rfl, ?_⟩
     refine hK.out _ _ ⟨kC BK355 0, kC BK355 1, kC BK355 2, kC BK355 3, kC BK355 4, kC BK355 5, kC BK355 6, kC BK355 7⟩ (fun hHeld => ?_)
     clear hK K; refine norm_ (a' := ?_) ?_ ?_
     rotate_left
     ·show Act.put _ (some 28) _ = _
      simp only [Act.put, sA, sB, sC, i64_w, i32_w]
      rfl
     refine pure_ (i := 5) (N := some 29) (v := ?_) (a' := ?_) #[true, true, true, true, true, true, false] rfl rfl (by kernel_rfl) (fun _ _ _ h => h) (Or.inl ⟨by rfl, ?_⟩) ?_ ?_
     rotate_left
     ·intro w'
      go_simp
      with_reducible rfl
     rotate_left
     ·simp only [Act.put, sA, sB, sC, i64_w, i32_w]
      rfl
     refine pure_ (i := 6) (N := some 23) (v := ?_) (a' := ?_) #[true, true, true, true, true, true, true] rfl rfl (by kernel_rfl) (fun _ _ _ h => h) (Or.inl ⟨by rfl, ?_⟩) ?_ ?_
     rotate_left
     ·intro w'
      go_simp
      with_reducible rfl
     rotate_left
     ·simp only [Act.put, sA, sB, sC, i64_w, i32_w]
      rfl
     refine done_ (by kernel_rfl) ?_
     try go_wp2
     (try simp only [World.drewN_drewN]); (try (rw [drewN_self w127]; generalize hq_ : World.drewN w127 _ = w127; have n0_ := Aside0.mk (bQ BK355.out hq_); have n1_ := Aside0.mk (bQ BK356.out hq_); have n2_ := Aside0.mk (bF HB.out hq_); clear BK355 BK356 HB hq_; have BK355 := n0_; have BK356 := n1_; have HB := n2_; clear n0_ n1_ n2_))
     replace BK355 := Aside0.mk (bD BK355.out); replace BK356 := Aside0.mk (bD BK356.out); replace HB := Aside0.mk (eD HB.out); refine start_ (n := 14) (S := fun w' => w'.cell? ⟨gb355, 0, none⟩ = some (.bool false) ∧ w'.cell? ⟨gb355, 1, none⟩ = some (.int .u8 a0_1) ∧ w'.cell? ⟨gb355, 2, none⟩ = some (.int .u16 a0_2) ∧ w'.cell? ⟨gb355, 3, none⟩ = some (.int .u32 a0_3) ∧ w'.cell? ⟨gb355, 4, none⟩ = some (.int .u64 a0_4) ∧ w'.cell? ⟨gb355, 5, none⟩ = some (.string a0_5) ∧ w'.cell? ⟨gb355, 6, none⟩ = some (.string a0_6) ∧ w'.cell? ⟨gb355, 7, none⟩ = some (.string a0_7)) (ds := []) #[false, false, false, false, false, false, false, false, false, false, false, false, false, false] (by kernel_rfl) rfl rfl ⟨kC BK355 0, kC BK355 1, kC BK355 2, kC BK355 3, kC BK355 4, kC BK355 5, kC BK355 6, kC BK355 7⟩ (fun hHeld => ?_); refine with_tabW frame_Command.tab8 frame_Command.bits8 (fun HT_ HW_ => ?_)
     generalize w127.drew = w128 at BK355 BK356 HB hHeld ⊢; refine pU HT_ 0 (some 31) ?_ #[true, false, false, false, false, false, false, false, false, false, false, false, false, false] rfl rfl ?_ ?_ ?_ ?_
     rotate_left
     ·intro w'
      go_simp
      with_reducible rfl
     rotate_left
     ·simp only [Act.put, sA, sB, sC, i64_w, i32_w]
      rfl
     refine pU HT_ 1 (some 32) ?_ #[true, true, false, false, false, false, false, false, false, false, false, false, false, false] rfl rfl ?_ ?_ ?_ ?_
     rotate_left
     ·intro w'
      go_simp
      with_reducible rfl
     rotate_left
     ·simp only [Act.put, sA, sB, sC, i64_w, i32_w]
      rfl
     refine pU HT_ 3 (some 34) ?_ #[true, true, false, true, false, false, false, false, false, false, false, false, false, false] rfl rfl ?_ ?_ ?_ ?_
     rotate_left
     ·intro w'
      go_simp
      with_reducible rfl
     rotate_left
     ·simp only [Act.put, sA, sB, sC, i64_w, i32_w]
      rfl
     refine pU HT_ 5 (some 36) ?_ #[true, true, false, true, false, true, false, false, false, false, false, false, false, false] rfl rfl ?_ ?_ ?_ ?_
     rotate_left
     ·intro w'
      go_simp
      with_reducible rfl
     rotate_left
     ·simp only [Act.put, sA, sB, sC, i64_w, i32_w]
      rfl
     refine pU HT_ 6 (some 37) ?_ #[true, true, false, true, false, true, true, false, false, false, false, false, false, false] rfl rfl ?_ ?_ ?_ ?_
     rotate_left
     ·intro w'
      go_simp
      with_reducible rfl
     rotate_left
     ·simp only [Act.put, sA, sB, sC, i64_w, i32_w]
      rfl
     refine pure_ (i := 7) (N := some 38) (v := undef) (a' := ?_) #[true, true, false, true, false, true, true, true, false, false, false, false, false, false] rfl rfl (any_of HT_.out (by kernel_rfl)) (fun _ _ _ h => h) (Or.inr ⟨by rfl, rfl⟩) ?_ ?_
     rotate_left
     ·simp only [Act.put, sA, sB, sC, i64_w, i32_w]
      rfl
     refine pure_ (i := 8) (N := some 39) (v := undef) (a' := ?_) #[true, true, false, true, false, true, true, true, true, false, false, false, false, false] rfl rfl (any_of HT_.out (by kernel_rfl)) (fun _ _ _ h => h) (Or.inr ⟨by rfl, rfl⟩) ?_ ?_
     rotate_left
     ·simp only [Act.put, sA, sB, sC, i64_w, i32_w]
      rfl
     refine pure_ (i := 9) (N := some 40) (v := undef) (a' := ?_) #[true, true, false, true, false, true, true, true, true, true, false, false, false, false] rfl rfl (any_of HT_.out (by kernel_rfl)) (fun _ _ _ h => h) (Or.inr ⟨by rfl, rfl⟩) ?_ ?_
     rotate_left
     ·simp only [Act.put, sA, sB, sC, i64_w, i32_w]
      rfl
     refine pU HT_ 10 (some 41) ?_ #[true, true, false, true, false, true, true, true, true, true, true, false, false, false] rfl rfl ?_ ?_ ?_ ?_
     rotate_left
     ·intro w'
      go_simp
      with_reducible rfl
     rotate_left
     ·simp only [Act.put, sA, sB, sC, i64_w, i32_w]
      rfl
     refine tU HT_ HW_ hHeld 2 (some 33) ?_ #[true, true, true, true, false, true, true, true, true, true, true, false, false, false] rfl rfl ?_ ?_ ?_ ?_
     rotate_left
     ·rintro w' ⟨s0, s1, s2, s3, s4, s5, s6, s7⟩
      go_simp
      with_reducible rfl
     rotate_left
     ·simp only [Act.put, sA, sB, sC, i64_w, i32_w]
      rfl
     refine tU HT_ HW_ hHeld 4 (some 35) ?_ #[true, true, true, true, true, true, true, true, true, true, true, false, false, false] rfl rfl ?_ ?_ ?_ ?_
     rotate_left
     ·rintro w' ⟨s0, s1, s2, s3, s4, s5, s6, s7⟩
      go_simp
      with_reducible rfl
     rotate_left
     ·simp only [Act.put, sA, sB, sC, i64_w, i32_w]
      rfl
     refine pU HT_ 11 (some 42) ?_ #[true, true, true, true, true, true, true, true, true, true, true, true, false, false] rfl rfl ?_ ?_ ?_ ?_
     rotate_left
     ·intro w'
      go_simp
      with_reducible rfl
     rotate_left
     ·simp only [Act.put, sA, sB, sC, i64_w, i32_w]
      rfl
     refine one_ (i := 12) (N := some 6) #[true, true, true, true, true, true, true, true, true, true, true, true, true, false] rfl rfl (one_of HT_.out (by kernel_rfl)) (by decide) (fun K hK => ?_)
     refine box_step ?hg (N := 6) ?hd (cs := #[.int .i64 0, .slice none 0 0, .int .u32 0, .int .i64 0, .string (⟨#[]⟩ : ByteArray), .int .u64 0, .int .u64 0, .bool false]) (t := 70) ?hr ?_; (case hd => rfl); (case hg => rfl); (case hr => first | (go_simp; done) | (go_simp; rfl))
     intro gb371 hg w129 hbox hb
     have BK371 := rM hbox; have GW371 := rG HB hg; replace HB := rS HB hb; have GE371 := GW371; have NB355_371 := rN BK355 hg; replace BK355 := rB BK355 hb; have NB371_355 := rY NB355_371; have NB356_371 := rN BK356 hg; replace BK356 := rB BK356 hb; have NB371_356 := rY NB356_371; clear hb hbox hg; refine hK.out _ _ ⟨kC BK355 0, kC BK355 1, kC BK355 2, kC BK355 3, kC BK355 4, kC BK355 5, kC BK355 6, kC BK355 7⟩ (fun hHeld => ?_)
     clear hK K; refine norm_ (a' := ?_) ?_ ?_
     rotate_left
     ·show Act.put _ (some 6) _ = _
      simp only [Act.put, sA, sB, sC, i64_w, i32_w]
      rfl
     refine one_ (i := 13) (N := none) #[true, true, true, true, true, true, true, true, true, true, true, true, true, true] rfl rfl (one_of HT_.out (by kernel_rfl)) (by decide) (fun K hK => ?_)
     have hs130 : w129.cell? ⟨gb371, 0, none⟩ = some (.int .i64 0) := (blk_cell BK371.out 0).trans rfl; have hfs130 := blk_frozen BK371.out 0; have hns130_0 := NB355_371.out; have hns130_1 := NB356_371.out; have hms130_0 := NB371_355.out; have hms130_1 := NB371_356.out; have hs131 : w129.cell? ⟨gb371, 1, none⟩ = some (.slice none 0 0) := (blk_cell BK371.out 1).trans rfl; have hfs131 := blk_frozen BK371.out 1; have hns131_0 := NB355_371.out; have hns131_1 := NB356_371.out; have hms131_0 := NB371_355.out; have hms131_1 := NB371_356.out; have hs132 : w129.cell? ⟨gb371, 2, none⟩ = some (.int .u32 0) := (blk_cell BK371.out 2).trans rfl; have hfs132 := blk_frozen BK371.out 2; have hns132_0 := NB355_371.out; have hns132_1 := NB356_371.out; have hms132_0 := NB371_355.out; have hms132_1 := NB371_356.out; have hs133 : w129.cell? ⟨gb371, 3, none⟩ = some (.int .i64 0) := (blk_cell BK371.out 3).trans rfl; have hfs133 := blk_frozen BK371.out 3; have hns133_0 := NB355_371.out; have hns133_1 := NB356_371.out; have hms133_0 := NB371_355.out; have hms133_1 := NB371_356.out; have hs134 : w129.cell? ⟨gb371, 4, none⟩ = some (.string (⟨#[]⟩ : ByteArray)) := (blk_cell BK371.out 4).trans rfl; have hfs134 := blk_frozen BK371.out 4; have hns134_0 := NB355_371.out; have hns134_1 := NB356_371.out; have hms134_0 := NB371_355.out; have hms134_1 := NB371_356.out; have hs135 : w129.cell? ⟨gb371, 5, none⟩ = some (.int .u64 0) := (blk_cell BK371.out 5).trans rfl; have hfs135 := blk_frozen BK371.out 5; have hns135_0 := NB355_371.out; have hns135_1 := NB356_371.out; have hms135_0 := NB371_355.out; have hms135_1 := NB371_356.out; have hs136 : w129.cell? ⟨gb371, 6, none⟩ = some (.int .u64 0) := (blk_cell BK371.out 6).trans rfl; have hfs136 := blk_frozen BK371.out 6; have hns136_0 := NB355_371.out; have hns136_1 := NB356_371.out; have hms136_0 := NB371_355.out; have hms136_1 := NB371_356.out; have hs137 : w129.cell? ⟨gb371, 7, none⟩ = some (.bool false) := (blk_cell BK371.out 7).trans rfl; have hfs137 := blk_frozen BK371.out 7; have hns137_0 := NB355_371.out; have hns137_1 := NB356_371.out; have hms137_0 := NB371_355.out; have hms137_1 := NB371_356.out; refine skip_ (w1 := ?_) (by rfl) rfl ?_ ?_
     rotate_left
     ·go_simp
      rfl
     refine hK.out _ _ ⟨(kF hHeld.1), (kF hHeld.2.1), (kF hHeld.2.2.1), (kF hHeld.2.2.2.1), (kF hHeld.2.2.2.2.1), (kF hHeld.2.2.2.2.2.1), (kF hHeld.2.2.2.2.2.2.1), (kF hHeld.2.2.2.2.2.2.2)⟩ (fun hHeld => ?_)
     clear hK K; refine done_ (done_of HT_.out (by kernel_rfl)) ?_
     go_upto_region 9 with (fail)
     go_cut [49] (fun v49 wc => ∃ (kq : Nat) (x49_119 : Bool), v49 = .bool x49_119 ∧ Aside0 (frame_Command.j5 kq t357 x49_119 false a0_1 a0_2 a0_3 a0_4 a0_5 a0_6 a0_7 t357 0 0 a0_7 a0_4 0 false = some (r1, r2, r3, r4, r5, r6, r7, r8, r9)) ∧ Aside0 (kq ≤ k) ∧ Aside0 (wc.heap[gb355]? = some (.cells #[.bool false, .int .u8 a0_1, .int .u16 a0_2, .int .u32 a0_3, .int .u64 a0_4, .string a0_5, .string a0_6, .string a0_7] 31 (0, 0))) ∧ Aside0 (wc.heap[gb356]? = some (.cells #[.int .i64 0, (.slice none 0 0), .int .u32 0, .int .i64 0, .string (⟨#[]⟩ : ByteArray), .int .u64 0, .int .u64 0, .bool false] 70 (0, 0))) ∧ Aside0 (wc.heap[gb371]? = some (.cells #[.int .i64 t357, (.slice none 0 0), .int .u32 0, .int .i64 0, .string a0_7, .int .u64 a0_4, .int .u64 0, .bool false] 70 (0, 0))) ∧ Aside0 (Below w.heap.size w wc))
     case first =>
      have H := HC120.out; clear HC120
      by_cases c138 : t357 = 15
      ·rw [if_pos c138] at H; have c138b0 : (t357 == 15) = true := beq_iff_eq.mpr c138; have c138b1 : (t357 != 15) = false := bne_eq_false_iff_eq.mpr c138; clear c138
       (first | rw [c138b0] | (simp only [i64_w, i32_w]; rw [c138b0]) | skip)
       have H' := Aside0.mk H; clear H; have hnb139 := rP NB355_356 NB356_355; have hnb140 := rP NB355_371 NB371_355; obtain ⟨hcz141, hfz141⟩ := d8 BK355; go_wp2
       go_meet
       case rel => exact ⟨_, ((a0_6.toList != ([] : List UInt8))), (by first | rfl | (simp; done) | (simp [*]; done) | (cases a0_6.toList <;> rfl)), H', ⟨by first | omega | exact Nat.le_refl _⟩, ⟨bK BK355.out⟩, ⟨bK BK356.out⟩, ⟨bV BK371.out⟩, ⟨bH HB.out⟩⟩
      ·rw [if_neg c138] at H; have c138b0 : (t357 == 15) = false := beq_eq_false_iff_ne.mpr c138; have c138b1 : (t357 != 15) = true := bne_iff_ne.mpr c138
       (first | rw [c138b0] | (simp only [i64_w, i32_w]; rw [c138b0]) | skip)
       have H' := Aside0.mk H; clear H; go_wp2
       go_meet
       case rel => exact ⟨_, (true), (by first | rfl | (simp; done) | (simp [*]; done) | (cases a0_6.toList <;> rfl)), H', ⟨by first | omega | exact Nat.le_refl _⟩, ⟨bK BK355.out⟩, ⟨bK BK356.out⟩, ⟨bV BK371.out⟩, ⟨bH HB.out⟩⟩
     case rest =>
      clear HC120; (try clear c3); (try clear c11); (try clear c21); (try clear c99); (try clear c99b0); (try clear c99b1); (try clear c101); (try clear c101b0); (try clear c101b1); (try clear c138); (try clear c138b0); (try clear c138b1); (try clear hcz104); (try clear hcz107); (try clear hcz109); (try clear hcz112); (try clear hcz116); (try clear hcz119); (try clear hcz124); (try clear hcz126); (try clear hcz141); (try clear hcz86); (try clear hcz90); (try clear hcz93); (try clear hcz98); (try clear hcz9)
      (try clear hfz104); (try clear hfz107); (try clear hfz109); (try clear hfz10); (try clear hfz112); (try clear hfz116); (try clear hfz119); (try clear hfz124); (try clear hfz126); (try clear hfz141); (try clear hfz15); (try clear hfz17); (try clear hfz18); (try clear hfz27); (try clear hfz29); (try clear hfz45); (try clear hfz50); (try clear hfz55)
      (try clear hfz55); (try clear hfz59); (try clear hfz64); (try clear hfz7); (try clear hfz86); (try clear hfz90); (try clear hfz93); (try clear hfz98); (try clear hfz9); obtain ⟨kq, x49_119, rfl, HA, HJ119, BK355, BK356, BK371, HB⟩ := hcut; cases kq with
      | zero => exact absurd HA.out (by simp [frame_Command.j5])
      | succ kj119 =>
       have H := HA.out; clear HA; simp only [frame_Command.j5] at H; have HC142 := Aside0.mk H; clear H
       go_upto_if 49 with (fail)
       go_cut [] (fun wc => ∃ (kq : Nat) (z3 : List ByteArray) (zb : Value), Aside0 (frame_Command.j6 kq t357 false a0_1 a0_2 a0_3 a0_4 a0_5 a0_6 a0_7 t357 z3 0 0 a0_7 a0_4 0 false = some (r1, r2, r3, r4, r5, r6, r7, r8, r9)) ∧ Aside0 (kq ≤ kj119) ∧ Aside0 (Kd.R Kd.string 9 wc w.heap.size (fun _ => True) zb z3) ∧ Aside0 (wc.heap[gb355]? = some (.cells #[.bool false, .int .u8 a0_1, .int .u16 a0_2, .int .u32 a0_3, .int .u64 a0_4, .string a0_5, .string a0_6, .string a0_7] 31 (0, 0))) ∧ Aside0 (wc.heap[gb356]? = some (.cells #[.int .i64 0, (.slice none 0 0), .int .u32 0, .int .i64 0, .string (⟨#[]⟩ : ByteArray), .int .u64 0, .int .u64 0, .bool false] 70 (0, 0))) ∧ Aside0 (wc.heap[gb371]? = some (.cells #[.int .i64 t357, zb, .int .u32 0, .int .i64 0, .string a0_7, .int .u64 a0_4, .int .u64 0, .bool false] 70 (0, 0))) ∧ Aside0 (Below w.heap.size w wc))
       case first =>
        have H := HC142.out; clear HC142
        by_cases c143 : x49_119 = true
        ·subst c143; rw [if_pos rfl] at H; obtain ⟨y372, hy372⟩ : ∃ y_ : List ByteArray, y_ = (([a0_6] : List ByteArray)) := ⟨_, rfl⟩; replace H : (frame_Command.j6 kj119 t357 false a0_1 a0_2 a0_3 a0_4 a0_5 a0_6 a0_7 t357 y372 0 0 a0_7 a0_4 0 false) = some (r1, r2, r3, r4, r5, r6, r7, r8, r9) := by first | (rw [hy372]; with_reducible exact H) | (have H2_ := (Option.bind_some _ _).symm.trans H; rw [hy372]; with_reducible exact H2_) | (have H2_ := (Option.bind_some _ _).symm.trans H; with_reducible exact H2_) | with_reducible exact H | (rw [hy372]; exact H) | exact H
         have Ny372 := Aside0.mk hy372; clear hy372; have H' := Aside0.mk H; clear H; have hnb144 := rP NB355_356 NB356_355; have hnb145 := rP NB355_371 NB371_355; obtain ⟨hcz146, hfz146⟩ := d8 BK355
         go_wp2_with (first | ((with_reducible refine gate_dst (N := 52) rfl ?_); refine Kd.R_lit Kd.string _ 9 ?hg (N := 52) ?hd (xs := ([a0_6] : List ByteArray)) (inner := [.string a0_6]) (ok := fun _ => True) (okp := fun _ => True) ?hr ?hp (fun _ hk => hk) trivial (Below.refl _ _) (Nat.le_refl _) (by simp) ?_; (case hd => rfl); (case hg => rfl); (case hr => first | (go_simp; done) | (go_simp; rfl)); (case hp => exact (Reps.one (show Kd.M Kd.string _ _ _ a0_6 [.string a0_6] from rfl) (Reps.none _ _))); intro v373 w147 ho148 hb hg_ hnew_; clear hg_ hnew_; (first | rw [← Ny372.out] at ho148 | (simp only [Int.reduceToNat] at ho148; rw [← Ny372.out] at ho148)); have HO374 := Aside0.mk (Kd.R_lower ho148 (below_size (bH HB.out))); replace BK355 := rB BK355 hb; replace BK356 := rB BK356 hb; replace BK371 := rB BK371 hb; replace HB := rS HB hb; clear hb ho148; obtain ⟨Ao149, co149, eo149⟩ := Kd.R_slice HO374.out; subst eo149; have hnb150 := rP NB371_356 NB356_371; obtain ⟨hcz151, hfz151⟩ := d8 BK371))
         go_meet
         case rel => exact ⟨_, (y372), (.slice Ao149 y372.length co149), H', ⟨by have := HJ119.out; first | omega | exact Nat.le_refl _⟩, ⟨by (with_reducible repeat (first | apply Kd.R_alloc | apply Kd.R_drewN | apply Kd.R_drew)); exact Kd.R_mono (Kd.R_far (p := ⟨gb371, 1, none⟩) (Kd.R_types HO374.out BK371.out (by decide)) (fun _ hk => hk.2) (.slice Ao149 y372.length co149)) (fun _ hk => trivial)⟩, ⟨bK BK355.out⟩, ⟨bK BK356.out⟩, ⟨bV BK371.out⟩, ⟨bH HB.out⟩⟩
        ·replace c143 := Bool.eq_false_iff.mpr c143; subst c143; rw [if_neg (show ¬ (false = true) by decide)] at H; have H' := Aside0.mk H; clear H; go_wp2
         go_meet
         case rel => exact ⟨_, (([] : List ByteArray)), (.slice none 0 0), H', ⟨by have := HJ119.out; first | omega | exact Nat.le_refl _⟩, ⟨xN⟩, ⟨bK BK355.out⟩, ⟨bK BK356.out⟩, ⟨bK BK371.out⟩, ⟨bH HB.out⟩⟩
       case rest =>
        clear HC142; (try clear c3); (try clear c11); (try clear c21); (try clear c99); (try clear c99b0); (try clear c99b1); (try clear c101); (try clear c101b0); (try clear c101b1); (try clear c138); (try clear c138b0); (try clear c138b1); (try clear c143); (try clear hcz104); (try clear hcz107); (try clear hcz109); (try clear hcz112); (try clear hcz116); (try clear hcz119); (try clear hcz124); (try clear hcz126); (try clear hcz141); (try clear hcz146); (try clear hcz151); (try clear hcz86); (try clear hcz90); (try clear hcz93)
        (try clear hcz93); (try clear hcz98); (try clear hcz9); (try clear hfz104); (try clear hfz107); (try clear hfz109); (try clear hfz10); (try clear hfz112); (try clear hfz116); (try clear hfz119); (try clear hfz124); (try clear hfz126); (try clear hfz141); (try clear hfz146); (try clear hfz151); (try clear hfz15); (try clear hfz17); (try clear hfz18)
        (try clear hfz18); (try clear hfz27); (try clear hfz29); (try clear hfz45); (try clear hfz50); (try clear hfz55); (try clear hfz59); (try clear hfz64); (try clear hfz7); (try clear hfz86); (try clear hfz90); (try clear hfz93); (try clear hfz98); (try clear hfz9); obtain ⟨kq, z3, zb, HA, HJ141, z1, BK355, BK356, BK371, HB⟩ := hcut; cases kq with
        | zero => exact absurd HA.out (by simp [frame_Command.j6])
        | succ kj141 =>
         have H := HA.out; clear HA; simp only [frame_Command.j6] at H; have HC152 := Aside0.mk H; clear H; have hnb153 := rP NB355_356 NB356_355; have hnb154 := rP NB355_371 NB371_355; obtain ⟨hcz155, hfz155⟩ := d8 BK355
         go_upto_block 1 with (fail)
         go_cut [7] (fun v7 wc => ∃ (kq : Nat) (x7_151 : Int) (z7 : Int) (z8 : Int) (z9 : Int), v7 = .int .u64 x7_151 ∧ Aside0 (frame_Command.j7 kq t357 x7_151 false a0_1 a0_2 a0_3 a0_4 a0_5 a0_6 a0_7 t357 z3 z7 z8 a0_7 a0_4 z9 false = some (r1, r2, r3, r4, r5, r6, r7, r8, r9)) ∧ Aside0 (kq ≤ kj141) ∧ Aside0 (Kd.R Kd.string 9 wc w.heap.size (fun _ => True) zb z3) ∧ Aside0 (wc.heap[gb355]? = some (.cells #[.bool false, .int .u8 a0_1, .int .u16 a0_2, .int .u32 a0_3, .int .u64 a0_4, .string a0_5, .string a0_6, .string a0_7] 31 (0, 0))) ∧ Aside0 (wc.heap[gb356]? = some (.cells #[.int .i64 0, (.slice none 0 0), .int .u32 0, .int .i64 0, .string (⟨#[]⟩ : ByteArray), .int .u64 0, .int .u64 0, .bool false] 70 (0, 0))) ∧ Aside0 (wc.heap[gb371]? = some (.cells #[.int .i64 t357, zb, .int .u32 z7, .int .i64 z8, .string a0_7, .int .u64 a0_4, .int .u64 z9, .bool false] 70 (0, 0))) ∧ Aside0 (Below w.heap.size w wc))
         case first =>
          have H := HC152.out; clear HC152
          by_cases c156 : (a0_5.size : Int) = 4
          ·rw [if_pos c156] at H; have c156b0 : ((a0_5.size : Int) == 4) = true := beq_iff_eq.mpr c156; have c156b1 : ((a0_5.size : Int) != 4) = false := bne_eq_false_iff_eq.mpr c156; clear c156
           (first | rw [c156b0] | (simp only [i64_w, i32_w]; rw [c156b0]) | skip)
           replace H := Option.bind_eq_some_iff.mp H; obtain ⟨t375, zf, H⟩ := H; (try dsimp only at H); have A157 := Aside0.mk zf; clear zf; have H' := Aside0.mk H; clear H
           go_wp2_with (first | ((with_reducible refine gate_callee (f := 50) rfl ?_); refine gL (some 61) rfl rfl Try.func50 #[.string a0_5] rfl ?_; (with_reducible refine (frame_expiry.calls kj141 a0_5 t375 _ A157.out).mono ?_); rintro e w' ⟨rfl, ⟨nd, rfl⟩⟩; refine ⟨_, rfl, ?_⟩; (try simp only [World.drewN_drewN]); (try (rw [drewN_self wc]; generalize hq_ : World.drewN wc _ = wc; have n0_ : Aside0 (Kd.R Kd.string 9 wc w.heap.size (fun _ => True) zb z3) := ⟨by rw [← hq_]; exact (by (with_reducible repeat (first | apply Kd.R_alloc | apply Kd.R_drewN | apply Kd.R_drew)); exact z1.out)⟩; have n1_ := Aside0.mk (bQ BK355.out hq_); have n2_ := Aside0.mk (bQ BK356.out hq_); have n3_ := Aside0.mk (bQ BK371.out hq_); have n4_ := Aside0.mk (bF HB.out hq_); clear z1 BK355 BK356 BK371 HB hq_; have z1 := n0_; have BK355 := n1_; have BK356 := n2_; have BK371 := n3_; have HB := n4_; clear n0_ n1_ n2_ n3_ n4_)); have hnb158 := rP NB371_355 NB355_371; have hnb159 := rP NB371_356 NB356_371; obtain ⟨hcz160, hfz160⟩ := d8 BK371))
           go_meet
           case rel => exact ⟨_, (4294967295), (0), (t375), (0), (by first | rfl | (simp; done) | (simp [*]; done) | (cases a0_6.toList <;> rfl)), H', ⟨by have := HJ119.out; have := HJ141.out; first | omega | exact Nat.le_refl _⟩, ⟨by (with_reducible repeat (first | apply Kd.R_alloc | apply Kd.R_drewN | apply Kd.R_drew)); exact Kd.R_mono (Kd.R_far (p := ⟨gb371, 3, none⟩) (Kd.R_types z1.out BK371.out (by decide)) (fun _ hk => hk.2) (.int .i64 t375)) (fun _ hk => trivial)⟩, ⟨bK BK355.out⟩, ⟨bK BK356.out⟩, ⟨bV BK371.out⟩, ⟨bH HB.out⟩⟩
          ·rw [if_neg c156] at H; have c156b0 : ((a0_5.size : Int) == 4) = false := beq_eq_false_iff_ne.mpr c156; have c156b1 : ((a0_5.size : Int) != 4) = true := bne_iff_ne.mpr c156
           (first | rw [c156b0] | (simp only [i64_w, i32_w]; rw [c156b0]) | skip)
           by_cases c161 : (a0_5.size : Int) = 8
           ·rw [if_pos c161] at H; have c161b0 : ((a0_5.size : Int) == 8) = true := beq_iff_eq.mpr c161; have c161b1 : ((a0_5.size : Int) != 8) = false := bne_eq_false_iff_eq.mpr c161; clear c161
            by_cases c162 : 0 ≤ 4
            ·rw [if_pos c162] at H; have c162b0 := eq_true c162; have c162b1 : decide (0 ≤ 4) = true := decide_eq_true c162; clear c162
             by_cases c163 : 4 ≤ (a0_5.size : Int)
             ·rw [if_pos c163] at H; have c163b0 := eq_true c163; have c163b1 : decide (4 ≤ (a0_5.size : Int)) = true := decide_eq_true c163; clear c163; replace H := Option.bind_eq_some_iff.mp H; obtain ⟨t376, zg, H⟩ := H; (try dsimp only at H); have A164 := Aside0.mk zg; clear zg; have c165b0 := eq_true (of_decide_eq_true (by first | (with_reducible assumption) | assumption) : 4 ≤ (a0_5.size : Int)); replace H := Option.bind_eq_some_iff.mp H; obtain ⟨t377, zh, H⟩ := H; (try dsimp only at H); have A166 := Aside0.mk zh; clear zh; have H' := Aside0.mk H; clear H
              try go_wp2
              replace z1 := Aside0.mk (Kd.R_drew z1.out); replace BK355 := Aside0.mk (bD BK355.out); replace BK356 := Aside0.mk (bD BK356.out); replace BK371 := Aside0.mk (bD BK371.out); replace HB := Aside0.mk (eD HB.out); refine start_ (n := 11) (S := fun w' => True) (ds := []) #[false, false, false, false, false, false, false, false, false, false, false] (by kernel_rfl) rfl rfl trivial (fun hHeld => ?_); refine with_tabW frame_Command.tab17 frame_Command.bits17 (fun HT_ HW_ => ?_)
              generalize wc.drew = w167 at z1 BK355 BK356 BK371 HB hHeld ⊢; refine pU HT_ 0 (some 65) ?_ #[true, false, false, false, false, false, false, false, false, false, false] rfl rfl ?_ ?_ ?_ ?_
              rotate_left
              ·intro w'
               go_simp
               with_reducible rfl
              rotate_left
              ·simp only [Act.put, sA, sB, sC, i64_w, i32_w]
               rfl
              refine pU HT_ 1 (some 66) ?_ #[true, true, false, false, false, false, false, false, false, false, false] rfl rfl ?_ ?_ ?_ ?_
              rotate_left
              ·intro w'
               go_simp
               with_reducible rfl
              rotate_left
              ·simp only [Act.put, sA, sB, sC, i64_w, i32_w]
               rfl
              refine pU HT_ 4 (some 69) ?_ #[true, true, false, false, true, false, false, false, false, false, false] rfl rfl ?_ ?_ ?_ ?_
              rotate_left
              ·intro w'
               go_simp
               with_reducible rfl
              rotate_left
              ·simp only [Act.put, sA, sB, sC, i64_w, i32_w]
               rfl
              refine pU HT_ 5 (some 70) ?_ #[true, true, false, false, true, true, false, false, false, false, false] rfl rfl ?_ ?_ ?_ ?_
              rotate_left
              ·intro w'
               go_simp
               with_reducible rfl
              rotate_left
              ·simp only [Act.put, sA, sB, sC, i64_w, i32_w]
               rfl
              refine one_ (i := 2) (N := some 67) #[true, true, true, false, true, true, false, false, false, false, false] rfl rfl (one_of HT_.out (by kernel_rfl)) (by decide) (fun K hK => ?_)
              refine goes_ Try.func41 (by kernel_rfl) rfl #[.string (a0_5.extract 0 4)] (by rfl) rfl rfl (by (try simp only [List.map_toArray, List.map_cons, List.map_nil]); first | done | rfl | (simp only [List.length_drop, List.length_take]; rfl)) ?_
              with_reducible refine (frame_take.calls kj141 (a0_5.extract 0 4) t376 _ A164.out).mono ?_
              rintro e w' ⟨rfl, ⟨nd, rfl⟩⟩
              refine ⟨_, rfl, ?_⟩
              refine hK.out _ _ trivial (fun hHeld => ?_)
              clear hK K; refine norm_ (a' := ?_) ?_ ?_
              rotate_left
              ·show Act.put _ (some 67) _ = _
               simp only [Act.put, sA, sB, sC, i64_w, i32_w]
               rfl
              refine pU HT_ 3 (some 68) ?_ #[true, true, true, true, true, true, false, false, false, false, false] rfl rfl ?_ ?_ ?_ ?_
              rotate_left
              ·intro w'
               go_simp
               with_reducible rfl
              rotate_left
              ·simp only [Act.put, sA, sB, sC, i64_w, i32_w]
               rfl
              refine pU HT_ 7 (some 72) ?_ #[true, true, true, true, true, true, false, true, false, false, false] rfl rfl ?_ ?_ ?_ ?_
              rotate_left
              ·intro w'
               go_simp
               with_reducible rfl
              rotate_left
              ·simp only [Act.put, sA, sB, sC, i64_w, i32_w]
               rfl
              refine one_ (i := 6) (N := some 71) #[true, true, true, true, true, true, true, true, false, false, false] rfl rfl (one_of HT_.out (by kernel_rfl)) (by decide) (fun K hK => ?_)
              refine goes_ Try.func50 (by kernel_rfl) rfl #[.string (a0_5.extract 4 a0_5.size)] (by rfl) rfl rfl (by (try simp only [List.map_toArray, List.map_cons, List.map_nil]); first | done | rfl | (simp only [List.length_drop, List.length_take]; rfl)) ?_
              with_reducible refine (frame_expiry.calls kj141 (a0_5.extract 4 a0_5.size) t377 _ A166.out).mono ?_
              rintro e w' ⟨rfl, ⟨nd, rfl⟩⟩
              refine ⟨_, rfl, ?_⟩
              refine hK.out _ _ trivial (fun hHeld => ?_)
              clear hK K; refine norm_ (a' := ?_) ?_ ?_
              rotate_left
              ·show Act.put _ (some 71) _ = _
               simp only [Act.put, sA, sB, sC, i64_w, i32_w]
               rfl
              refine one_ (i := 8) (N := none) #[true, true, true, true, true, true, true, true, true, false, false] rfl rfl (one_of HT_.out (by kernel_rfl)) (by decide) (fun K hK => ?_)
              have hs168 : w167.cell? ⟨gb371, 2, none⟩ = some (.int .u32 0) := (blk_cell BK371.out 2).trans rfl; have hfs168 := blk_frozen BK371.out 2; have hns168_0 := NB355_371.out; have hns168_1 := NB356_371.out; have hms168_0 := NB371_355.out; have hms168_1 := NB371_356.out; refine skip_ (w1 := ?_) (by rfl) rfl ?_ ?_
              rotate_left
              ·go_simp
               rfl
              refine hK.out _ _ trivial (fun hHeld => ?_)
              clear hK K; refine pU HT_ 9 (some 73) ?_ #[true, true, true, true, true, true, true, true, true, true, false] rfl rfl ?_ ?_ ?_ ?_
              rotate_left
              ·intro w'
               go_simp
               with_reducible rfl
              rotate_left
              ·simp only [Act.put, sA, sB, sC, i64_w, i32_w]
               rfl
              refine one_ (i := 10) (N := none) #[true, true, true, true, true, true, true, true, true, true, true] rfl rfl (one_of HT_.out (by kernel_rfl)) (by decide) (fun K hK => ?_)
              have hs169 : w167.cell? ⟨gb371, 3, none⟩ = some (.int .i64 0) := (blk_cell BK371.out 3).trans rfl; have hfs169 := blk_frozen BK371.out 3; have hns169_0 := NB355_371.out; have hns169_1 := NB356_371.out; have hms169_0 := NB371_355.out; have hms169_1 := NB371_356.out; refine skip_ (w1 := ?_) (by rfl) rfl ?_ ?_
              rotate_left
              ·go_simp
               rfl
              refine hK.out _ _ trivial (fun hHeld => ?_)
              clear hK K; refine done_ (done_of HT_.out (by kernel_rfl)) ?_
              try go_wp2
              go_meet
              case rel => exact ⟨_, (4294967295), ((t376) % 4294967296), (t377), (0), (by first | rfl | (simp; done) | (simp [*]; done) | (cases a0_6.toList <;> rfl)), H', ⟨by have := HJ119.out; have := HJ141.out; first | omega | exact Nat.le_refl _⟩, ⟨by (with_reducible repeat (first | apply Kd.R_alloc | apply Kd.R_drewN | apply Kd.R_drew)); exact Kd.R_mono (Kd.R_far (p := ⟨gb371, 3, none⟩) (Kd.R_far (p := ⟨gb371, 2, none⟩) (Kd.R_types z1.out BK371.out (by decide)) (fun _ hk => hk.2) (.int .u32 ((t376) % 4294967296))) (fun _ hk => hk.2) (.int .i64 t377)) (fun _ hk => trivial)⟩, ⟨bK BK355.out⟩, ⟨bK BK356.out⟩, ⟨bV BK371.out⟩, ⟨bH HB.out⟩⟩
             ·rw [if_neg c163] at H; exact absurd H (by simp)
            ·rw [if_neg c162] at H; exact absurd H (by simp)
           ·rw [if_neg c161] at H; have c161b0 : ((a0_5.size : Int) == 8) = false := beq_eq_false_iff_ne.mpr c161; have c161b1 : ((a0_5.size : Int) != 8) = true := bne_iff_ne.mpr c161
            by_cases c170 : (a0_5.size : Int) = 20
            ·rw [if_pos c170] at H; have c170b0 : ((a0_5.size : Int) == 20) = true := beq_iff_eq.mpr c170; have c170b1 : ((a0_5.size : Int) != 20) = false := bne_eq_false_iff_eq.mpr c170; clear c170
             by_cases c171 : 0 ≤ 8
             ·rw [if_pos c171] at H; have c171b0 := eq_true c171; have c171b1 : decide (0 ≤ 8) = true := decide_eq_true c171; clear c171
              by_cases c172 : 8 ≤ (a0_5.size : Int)
              ·rw [if_pos c172] at H; have c172b0 := eq_true c172; have c172b1 : decide (8 ≤ (a0_5.size : Int)) = true := decide_eq_true c172; clear c172; replace H := Option.bind_eq_some_iff.mp H; obtain ⟨t378, zi, H⟩ := H; (try dsimp only at H); have A173 := Aside0.mk zi; clear zi
               by_cases c174 : 16 ≤ (a0_5.size : Int)
               ·rw [if_pos c174] at H; have c174b0 := eq_true c174; have c174b1 : decide (16 ≤ (a0_5.size : Int)) = true := decide_eq_true c174; clear c174; replace H := Option.bind_eq_some_iff.mp H; obtain ⟨t379, zj, H⟩ := H; (try dsimp only at H); have A175 := Aside0.mk zj; clear zj; have H' := Aside0.mk H; clear H
                try go_wp2
                replace z1 := Aside0.mk (Kd.R_drew z1.out); replace BK355 := Aside0.mk (bD BK355.out); replace BK356 := Aside0.mk (bD BK356.out); replace BK371 := Aside0.mk (bD BK371.out); replace HB := Aside0.mk (eD HB.out); refine start_ (n := 9) (S := fun w' => True) (ds := []) #[false, false, false, false, false, false, false, false, false] (by kernel_rfl) rfl rfl trivial (fun hHeld => ?_); refine with_tabW frame_Command.tab19 frame_Command.bits19 (fun HT_ HW_ => ?_)
                generalize wc.drew = w176 at z1 BK355 BK356 BK371 HB hHeld ⊢; refine pU HT_ 0 (some 76) ?_ #[true, false, false, false, false, false, false, false, false] rfl rfl ?_ ?_ ?_ ?_
                rotate_left
                ·intro w'
                 go_simp
                 with_reducible rfl
                rotate_left
                ·simp only [Act.put, sA, sB, sC, i64_w, i32_w]
                 rfl
                refine pU HT_ 1 (some 77) ?_ #[true, true, false, false, false, false, false, false, false] rfl rfl ?_ ?_ ?_ ?_
                rotate_left
                ·intro w'
                 go_simp
                 with_reducible rfl
                rotate_left
                ·simp only [Act.put, sA, sB, sC, i64_w, i32_w]
                 rfl
                refine pU HT_ 3 (some 79) ?_ #[true, true, false, true, false, false, false, false, false] rfl rfl ?_ ?_ ?_ ?_
                rotate_left
                ·intro w'
                 go_simp
                 with_reducible rfl
                rotate_left
                ·simp only [Act.put, sA, sB, sC, i64_w, i32_w]
                 rfl
                refine pU HT_ 4 (some 80) ?_ #[true, true, false, true, true, false, false, false, false] rfl rfl ?_ ?_ ?_ ?_
                rotate_left
                ·intro w'
                 go_simp
                 with_reducible rfl
                rotate_left
                ·simp only [Act.put, sA, sB, sC, i64_w, i32_w]
                 rfl
                refine one_ (i := 2) (N := some 78) #[true, true, true, true, true, false, false, false, false] rfl rfl (one_of HT_.out (by kernel_rfl)) (by decide) (fun K hK => ?_)
                refine goes_ Try.func41 (by kernel_rfl) rfl #[.string (a0_5.extract 0 8)] (by rfl) rfl rfl (by (try simp only [List.map_toArray, List.map_cons, List.map_nil]); first | done | rfl | (simp only [List.length_drop, List.length_take]; rfl)) ?_
                with_reducible refine (frame_take.calls kj141 (a0_5.extract 0 8) t378 _ A173.out).mono ?_
                rintro e w' ⟨rfl, ⟨nd, rfl⟩⟩
                refine ⟨_, rfl, ?_⟩
                refine hK.out _ _ trivial (fun hHeld => ?_)
                clear hK K; refine norm_ (a' := ?_) ?_ ?_
                rotate_left
                ·show Act.put _ (some 78) _ = _
                 simp only [Act.put, sA, sB, sC, i64_w, i32_w]
                 rfl
                refine pU HT_ 6 (some 82) ?_ #[true, true, true, true, true, false, true, false, false] rfl rfl ?_ ?_ ?_ ?_
                rotate_left
                ·intro w'
                 go_simp
                 with_reducible rfl
                rotate_left
                ·simp only [Act.put, sA, sB, sC, i64_w, i32_w]
                 rfl
                refine one_ (i := 5) (N := some 81) #[true, true, true, true, true, true, true, false, false] rfl rfl (one_of HT_.out (by kernel_rfl)) (by decide) (fun K hK => ?_)
                refine goes_ Try.func41 (by kernel_rfl) rfl #[.string (a0_5.extract 16 a0_5.size)] (by rfl) rfl rfl (by (try simp only [List.map_toArray, List.map_cons, List.map_nil]); first | done | rfl | (simp only [List.length_drop, List.length_take]; rfl)) ?_
                with_reducible refine (frame_take.calls kj141 (a0_5.extract 16 a0_5.size) t379 _ A175.out).mono ?_
                rintro e w' ⟨rfl, ⟨nd, rfl⟩⟩
                refine ⟨_, rfl, ?_⟩
                refine hK.out _ _ trivial (fun hHeld => ?_)
                clear hK K; refine norm_ (a' := ?_) ?_ ?_
                rotate_left
                ·show Act.put _ (some 81) _ = _
                 simp only [Act.put, sA, sB, sC, i64_w, i32_w]
                 rfl
                refine one_ (i := 7) (N := none) #[true, true, true, true, true, true, true, true, false] rfl rfl (one_of HT_.out (by kernel_rfl)) (by decide) (fun K hK => ?_)
                have hs177 : w176.cell? ⟨gb371, 6, none⟩ = some (.int .u64 0) := (blk_cell BK371.out 6).trans rfl; have hfs177 := blk_frozen BK371.out 6; have hns177_0 := NB355_371.out; have hns177_1 := NB356_371.out; have hms177_0 := NB371_355.out; have hms177_1 := NB371_356.out; refine skip_ (w1 := ?_) (by rfl) rfl ?_ ?_
                rotate_left
                ·go_simp
                 rfl
                refine hK.out _ _ trivial (fun hHeld => ?_)
                clear hK K; refine pU HT_ 8 (some 7) ?_ #[true, true, true, true, true, true, true, true, true] rfl rfl ?_ ?_ ?_ ?_
                rotate_left
                ·intro w'
                 go_simp
                 with_reducible rfl
                rotate_left
                ·simp only [Act.put, sA, sB, sC, i64_w, i32_w]
                 rfl
                refine done_ (done_of HT_.out (by kernel_rfl)) ?_
                try go_wp2
                go_meet
                case rel => exact ⟨_, (t379), (0), (0), (t378), (by first | rfl | (simp; done) | (simp [*]; done) | (cases a0_6.toList <;> rfl)), H', ⟨by have := HJ119.out; have := HJ141.out; first | omega | exact Nat.le_refl _⟩, ⟨by (with_reducible repeat (first | apply Kd.R_alloc | apply Kd.R_drewN | apply Kd.R_drew)); exact Kd.R_mono (Kd.R_far (p := ⟨gb371, 6, none⟩) (Kd.R_types z1.out BK371.out (by decide)) (fun _ hk => hk.2) (.int .u64 t378)) (fun _ hk => trivial)⟩, ⟨bK BK355.out⟩, ⟨bK BK356.out⟩, ⟨bV BK371.out⟩, ⟨bH HB.out⟩⟩
               ·rw [if_neg c174] at H; exact absurd H (by simp)
              ·rw [if_neg c172] at H; exact absurd H (by simp)
             ·rw [if_neg c171] at H; exact absurd H (by simp)
            ·rw [if_neg c170] at H; have c170b0 : ((a0_5.size : Int) == 20) = false := beq_eq_false_iff_ne.mpr c170; have c170b1 : ((a0_5.size : Int) != 20) = true := bne_iff_ne.mpr c170; have H' := Aside0.mk H; clear H; go_wp2
             go_meet
             case rel => exact ⟨_, (4294967295), (0), (0), (0), (by first | rfl | (simp; done) | (simp [*]; done) | (cases a0_6.toList <;> rfl)), H', ⟨by have := HJ119.out; have := HJ141.out; first | omega | exact Nat.le_refl _⟩, ⟨by (with_reducible repeat (first | apply Kd.R_alloc | apply Kd.R_drewN | apply Kd.R_drew)); exact z1.out⟩, ⟨bK BK355.out⟩, ⟨bK BK356.out⟩, ⟨bK BK371.out⟩, ⟨bH HB.out⟩⟩
         case rest =>
          clear HC152; (try clear c156); (try clear c156b0); (try clear c156b1); (try clear c161); (try clear c161b0); (try clear c161b1); (try clear c162); (try clear c162b0); (try clear c162b1); (try clear c163); (try clear c163b0); (try clear c163b1); (try clear c165b0); (try clear c170); (try clear c170b0); (try clear c170b1); (try clear c171); (try clear c171b0); (try clear c171b1); (try clear c172); (try clear c172b0); (try clear c172b1); (try clear c174); (try clear c174b0); (try clear c174b1); (try clear hcz155); (try clear hcz160); (try clear hcz9); (try clear hfz104); (try clear hfz107); (try clear hfz109); (try clear hfz10); (try clear hfz112); (try clear hfz116); (try clear hfz119); (try clear hfz124); (try clear hfz126); (try clear hfz141); (try clear hfz146)
          (try clear hfz146); (try clear hfz151); (try clear hfz155); (try clear hfz15); (try clear hfz160); (try clear hfz17); (try clear hfz18); (try clear hfz27); (try clear hfz29); (try clear hfz45); (try clear hfz50); (try clear hfz55); (try clear hfz59); (try clear hfz64); (try clear hfz7); (try clear hfz86); (try clear hfz90); (try clear hfz93); (try clear hfz98)
          (try clear hfz98); (try clear hfz9); obtain ⟨kq, x7_151, z7, z8, z9, rfl, HA, HJ151, z1, BK355, BK356, BK371, HB⟩ := hcut; cases kq with
          | zero => exact absurd HA.out (by simp [frame_Command.j7])
          | succ kj151 =>
           have H := HA.out; clear HA; simp only [frame_Command.j7] at H; have HC178 := Aside0.mk H; clear H
           go_upto_region 20 with (fail)
           go_cut [93] (fun v93 wc => ∃ (kq : Nat) (x93_177 : Bool), v93 = .bool x93_177 ∧ Aside0 (frame_Command.j8 kq x7_151 x93_177 t357 z3 z7 z8 a0_7 a0_4 z9 false = some (r1, r2, r3, r4, r5, r6, r7, r8, r9)) ∧ Aside0 (kq ≤ kj151) ∧ Aside0 (Kd.R Kd.string 9 wc w.heap.size (fun _ => True) zb z3) ∧ Aside0 (wc.heap[gb355]? = some (.cells #[.bool false, .int .u8 a0_1, .int .u16 a0_2, .int .u32 a0_3, .int .u64 a0_4, .string a0_5, .string a0_6, .string a0_7] 31 (0, 0))) ∧ Aside0 (wc.heap[gb356]? = some (.cells #[.int .i64 0, (.slice none 0 0), .int .u32 0, .int .i64 0, .string (⟨#[]⟩ : ByteArray), .int .u64 0, .int .u64 0, .bool false] 70 (0, 0))) ∧ Aside0 (wc.heap[gb371]? = some (.cells #[.int .i64 t357, zb, .int .u32 z7, .int .i64 z8, .string a0_7, .int .u64 a0_4, .int .u64 z9, .bool false] 70 (0, 0))) ∧ Aside0 (Below w.heap.size w wc))
           case first =>
            have H := HC178.out; clear HC178
            by_cases c179 : a0_4 = 0
            ·rw [if_pos c179] at H; have c179b0 : (a0_4 == 0) = true := beq_iff_eq.mpr c179; have c179b1 : (a0_4 != 0) = false := bne_eq_false_iff_eq.mpr c179; clear c179
             (first | rw [c179b0] | (simp only [i64_w, i32_w]; rw [c179b0]) | skip)
             have H' := Aside0.mk H; clear H; have hnb180 := rP NB355_356 NB356_355; have hnb181 := rP NB355_371 NB371_355; obtain ⟨hcz182, hfz182⟩ := d8 BK355; go_wp2
             go_meet
             case rel => exact ⟨_, (false), (by first | rfl | (simp; done) | (simp [*]; done) | (cases a0_6.toList <;> rfl)), H', ⟨by have := HJ119.out; have := HJ141.out; have := HJ151.out; first | omega | exact Nat.le_refl _⟩, ⟨by (with_reducible repeat (first | apply Kd.R_alloc | apply Kd.R_drewN | apply Kd.R_drew)); exact z1.out⟩, ⟨bK BK355.out⟩, ⟨bK BK356.out⟩, ⟨bK BK371.out⟩, ⟨bH HB.out⟩⟩
            ·rw [if_neg c179] at H; have c179b0 : (a0_4 == 0) = false := beq_eq_false_iff_ne.mpr c179; have c179b1 : (a0_4 != 0) = true := bne_iff_ne.mpr c179
             (first | rw [c179b0] | (simp only [i64_w, i32_w]; rw [c179b0]) | skip)
             by_cases c183 : t357 = 5
             ·rw [if_pos c183] at H; have c183b0 : (t357 == 5) = true := beq_iff_eq.mpr c183; have c183b1 : (t357 != 5) = false := bne_eq_false_iff_eq.mpr c183; clear c183; have H' := Aside0.mk H; clear H; have hnb184 := rP NB355_356 NB356_355; have hnb185 := rP NB355_371 NB371_355; obtain ⟨hcz186, hfz186⟩ := d8 BK355; go_wp2
              go_meet
              case rel => exact ⟨_, (true), (by first | rfl | (simp; done) | (simp [*]; done) | (cases a0_6.toList <;> rfl)), H', ⟨by have := HJ119.out; have := HJ141.out; have := HJ151.out; first | omega | exact Nat.le_refl _⟩, ⟨by (with_reducible repeat (first | apply Kd.R_alloc | apply Kd.R_drewN | apply Kd.R_drew)); exact z1.out⟩, ⟨bK BK355.out⟩, ⟨bK BK356.out⟩, ⟨bK BK371.out⟩, ⟨bH HB.out⟩⟩
             ·rw [if_neg c183] at H; have c183b0 : (t357 == 5) = false := beq_eq_false_iff_ne.mpr c183; have c183b1 : (t357 != 5) = true := bne_iff_ne.mpr c183; have H' := Aside0.mk H; clear H; have hnb187 := rP NB355_356 NB356_355; have hnb188 := rP NB355_371 NB371_355; obtain ⟨hcz189, hfz189⟩ := d8 BK355; go_wp2
              go_meet
              case rel => exact ⟨_, ((t357 == 7)), (by first | rfl | (simp; done) | (simp [*]; done) | (cases a0_6.toList <;> rfl)), H', ⟨by have := HJ119.out; have := HJ141.out; have := HJ151.out; first | omega | exact Nat.le_refl _⟩, ⟨by (with_reducible repeat (first | apply Kd.R_alloc | apply Kd.R_drewN | apply Kd.R_drew)); exact z1.out⟩, ⟨bK BK355.out⟩, ⟨bK BK356.out⟩, ⟨bK BK371.out⟩, ⟨bH HB.out⟩⟩
           case rest =>
            clear HC178; (try clear c156); (try clear c156b0); (try clear c156b1); (try clear c161); (try clear c161b0); (try clear c161b1); (try clear c162); (try clear c162b0); (try clear c162b1); (try clear c163); (try clear c163b0); (try clear c163b1); (try clear c165b0); (try clear c170); (try clear c170b0); (try clear c170b1); (try clear c171); (try clear c171b0); (try clear c171b1); (try clear c172); (try clear c172b0); (try clear c172b1); (try clear c174); (try clear c174b0); (try clear c174b1); (try clear c179); (try clear c179b0); (try clear c179b1); (try clear c183); (try clear c183b0); (try clear c183b1); (try clear hcz155); (try clear hcz160); (try clear hcz182); (try clear hcz186); (try clear hcz189); (try clear hcz9); (try clear hfz104); (try clear hfz107); (try clear hfz109); (try clear hfz10); (try clear hfz112); (try clear hfz116); (try clear hfz119)
            (try clear hfz119); (try clear hfz124); (try clear hfz126); (try clear hfz141); (try clear hfz146); (try clear hfz151); (try clear hfz155); (try clear hfz15); (try clear hfz160); (try clear hfz17); (try clear hfz182); (try clear hfz186); (try clear hfz189); (try clear hfz18); (try clear hfz27); (try clear hfz29); (try clear hfz45); (try clear hfz50)
            (try clear hfz50); (try clear hfz55); (try clear hfz59); (try clear hfz64); (try clear hfz7); (try clear hfz86); (try clear hfz90); (try clear hfz93); (try clear hfz98); (try clear hfz9); obtain ⟨kq, x93_177, rfl, HA, HJ177, z1, BK355, BK356, BK371, HB⟩ := hcut; cases kq with
            | zero => exact absurd HA.out (by simp [frame_Command.j8])
            | succ kj177 =>
             have H := HA.out; clear HA; simp only [frame_Command.j8] at H; have HC190 := Aside0.mk H; clear H
             go_upto_if 93 with (fail)
             go_cut [] (fun wc => ∃ (kq : Nat) (zd : Int), Aside0 (frame_Command.j9 kq x7_151 zd z3 z7 z8 a0_7 a0_4 z9 false = some (r1, r2, r3, r4, r5, r6, r7, r8, r9)) ∧ Aside0 (kq ≤ kj177) ∧ Aside0 (Kd.R Kd.string 9 wc w.heap.size (fun _ => True) zb z3) ∧ Aside0 (wc.heap[gb355]? = some (.cells #[.bool false, .int .u8 a0_1, .int .u16 a0_2, .int .u32 a0_3, .int .u64 a0_4, .string a0_5, .string a0_6, .string a0_7] 31 (0, 0))) ∧ Aside0 (wc.heap[gb356]? = some (.cells #[.int .i64 0, (.slice none 0 0), .int .u32 0, .int .i64 0, .string (⟨#[]⟩ : ByteArray), .int .u64 0, .int .u64 0, .bool false] 70 (0, 0))) ∧ Aside0 (wc.heap[gb371]? = some (.cells #[.int .i64 zd, zb, .int .u32 z7, .int .i64 z8, .string a0_7, .int .u64 a0_4, .int .u64 z9, .bool false] 70 (0, 0))) ∧ Aside0 (Below w.heap.size w wc))
             case first =>
              have H := HC190.out; clear HC190
              by_cases c191 : x93_177 = true
              ·subst c191; rw [if_pos rfl] at H; have H' := Aside0.mk H; clear H; have hnb192 := rP NB371_355 NB355_371; have hnb193 := rP NB371_356 NB356_371; obtain ⟨hcz194, hfz194⟩ := d8 BK371; go_wp2
               go_meet
               case rel => exact ⟨_, (10), H', ⟨by have := HJ119.out; have := HJ141.out; have := HJ151.out; have := HJ177.out; first | omega | exact Nat.le_refl _⟩, ⟨by (with_reducible repeat (first | apply Kd.R_alloc | apply Kd.R_drewN | apply Kd.R_drew)); exact Kd.R_mono (Kd.R_far (p := ⟨gb371, 0, none⟩) (Kd.R_types z1.out BK371.out (by decide)) (fun _ hk => hk.2) (.int .i64 10)) (fun _ hk => trivial)⟩, ⟨bK BK355.out⟩, ⟨bK BK356.out⟩, ⟨bV BK371.out⟩, ⟨bH HB.out⟩⟩
              ·replace c191 := Bool.eq_false_iff.mpr c191; subst c191; rw [if_neg (show ¬ (false = true) by decide)] at H; have H' := Aside0.mk H; clear H; go_wp2
               go_meet
               case rel => exact ⟨_, (t357), H', ⟨by have := HJ119.out; have := HJ141.out; have := HJ151.out; have := HJ177.out; first | omega | exact Nat.le_refl _⟩, ⟨by (with_reducible repeat (first | apply Kd.R_alloc | apply Kd.R_drewN | apply Kd.R_drew)); exact z1.out⟩, ⟨bK BK355.out⟩, ⟨bK BK356.out⟩, ⟨bK BK371.out⟩, ⟨bH HB.out⟩⟩
             case rest =>
              clear HC190; (try clear c156); (try clear c156b0); (try clear c156b1); (try clear c161); (try clear c161b0); (try clear c161b1); (try clear c162); (try clear c162b0); (try clear c162b1); (try clear c163); (try clear c163b0); (try clear c163b1); (try clear c165b0); (try clear c170); (try clear c170b0); (try clear c170b1); (try clear c171); (try clear c171b0); (try clear c171b1); (try clear c172); (try clear c172b0); (try clear c172b1); (try clear c174); (try clear c174b0); (try clear c174b1); (try clear c179); (try clear c179b0); (try clear c179b1); (try clear c183); (try clear c183b0); (try clear c183b1); (try clear c191); (try clear hcz155); (try clear hcz160); (try clear hcz182); (try clear hcz186); (try clear hcz189); (try clear hcz194); (try clear hcz9); (try clear hfz104); (try clear hfz107); (try clear hfz109); (try clear hfz10); (try clear hfz112)
              (try clear hfz112); (try clear hfz116); (try clear hfz119); (try clear hfz124); (try clear hfz126); (try clear hfz141); (try clear hfz146); (try clear hfz151); (try clear hfz155); (try clear hfz15); (try clear hfz160); (try clear hfz17); (try clear hfz182); (try clear hfz186); (try clear hfz189); (try clear hfz18); (try clear hfz194); (try clear hfz27)
              (try clear hfz29); (try clear hfz45); (try clear hfz50); (try clear hfz55); (try clear hfz59); (try clear hfz64); (try clear hfz7); (try clear hfz86); (try clear hfz90); (try clear hfz93); (try clear hfz98); (try clear hfz9); obtain ⟨kq, zd, HA, HJ189, z1, BK355, BK356, BK371, HB⟩ := hcut; cases kq with
              | zero => exact absurd HA.out (by simp [frame_Command.j9])
              | succ kj189 =>
               have H := HA.out; clear HA; simp only [frame_Command.j9] at H
               by_cases c195 : x7_151 = 4294967295
               ·rw [if_pos c195] at H; have c195b0 : (x7_151 == 4294967295) = true := beq_iff_eq.mpr c195; have c195b1 : (x7_151 != 4294967295) = false := bne_eq_false_iff_eq.mpr c195; clear c195; replace H := Option.bind_eq_some_iff.mp H; obtain ⟨t380, zk, H⟩ := H; (try dsimp only at H); have A196 := Aside0.mk zk; clear zk
                by_cases c197 : t380 = 0
                ·rw [if_pos c197] at H; have c197b0 : (t380 == 0) = true := beq_iff_eq.mpr c197; have c197b1 : (t380 != 0) = false := bne_eq_false_iff_eq.mpr c197; clear c197; simp only [Option.some.injEq, Prod.mk.injEq] at H; obtain ⟨rfl, rfl, rfl, rfl, rfl, rfl, rfl, rfl, rfl⟩ := H; have hnb198 := rP NB371_355 NB355_371; have hnb199 := rP NB371_356 NB356_371; obtain ⟨hcz200, hfz200⟩ := d8 BK371; obtain ⟨Ao201, co201, eo201⟩ := Kd.R_slice z1.out; subst eo201
                 go_wp2_with (first | (go_at_call 51; (with_reducible refine (verb_Check.calls kj189 zd _ _ z3 z7 z8 a0_7 a0_4 z9 false t380 _ ?side1 ?side2 A196.out).mono ?_); (case side1 => repeat (first | exact (Kd.R_reads' z1.out).2.2 | (with_reducible refine Kd.C_alloc ?_ _) | (with_reducible refine Kd.C_drewN ?_ _) | (with_reducible refine Kd.C_drew ?_))); (case side2 => exact (Kd.R_reads' z1.out).2.1); rintro e w202 ⟨rfl, hb⟩; replace z1 := Aside0.mk (Kd.R_below (by (with_reducible repeat (first | apply Kd.R_alloc | apply Kd.R_drewN | apply Kd.R_drew)); exact z1.out) hb); replace BK355 := rB BK355 hb; replace BK356 := rB BK356 hb; replace BK371 := rB BK371 hb; replace HB := rS HB hb; (try clear hb); (try clear hk); obtain ⟨hcz203, hfz203⟩ := d8 BK371; have hnb204 := rP NB356_355 NB355_356; obtain ⟨hcz205, hfz205⟩ := d8 BK356))
                 refine bodyPost_ret (results_ct rfl _ _ gb356 70 #[.int .i64 zd, .slice Ao201 z3.length co201, .int .u32 z7, .int .i64 z8, .string a0_7, .int .u64 a0_4, .int .u64 z9, .bool false] (0, 0) _ rfl (bV BK356.out) Try.underlying70 rfl (by kernel_rfl)) rfl ?_
                 exact ⟨_, xR, by (with_reducible repeat (first | apply Kd.R_alloc | apply Kd.R_drewN | apply Kd.R_drew)); exact Kd.R_mono (Kd.R_far (p := ⟨gb356, 7, none⟩) (Kd.R_far (p := ⟨gb356, 6, none⟩) (Kd.R_far (p := ⟨gb356, 5, none⟩) (Kd.R_far (p := ⟨gb356, 4, none⟩) (Kd.R_far (p := ⟨gb356, 3, none⟩) (Kd.R_far (p := ⟨gb356, 2, none⟩) (Kd.R_far (p := ⟨gb356, 1, none⟩) (Kd.R_far (p := ⟨gb356, 0, none⟩) (Kd.R_types z1.out BK356.out (by decide)) (fun _ hk => hk.2) (.int .i64 zd)) (fun _ hk => hk.2) (.slice Ao201 z3.length co201)) (fun _ hk => hk.2) (.int .u32 z7)) (fun _ hk => hk.2) (.int .i64 z8)) (fun _ hk => hk.2) (.string a0_7)) (fun _ hk => hk.2) (.int .u64 a0_4)) (fun _ hk => hk.2) (.int .u64 z9)) (fun _ hk => hk.2) (.bool false)) (fun _ hk => trivial), bH HB.out⟩
                ·rw [if_neg c197] at H; have c197b0 : (t380 == 0) = false := beq_eq_false_iff_ne.mpr c197; have c197b1 : (t380 != 0) = true := bne_iff_ne.mpr c197; simp only [Option.some.injEq, Prod.mk.injEq] at H; obtain ⟨rfl, rfl, rfl, rfl, rfl, rfl, rfl, rfl, rfl⟩ := H; have hnb206 := rP NB371_355 NB355_371; have hnb207 := rP NB371_356 NB356_371; obtain ⟨hcz208, hfz208⟩ := d8 BK371; obtain ⟨Ao209, co209, eo209⟩ := Kd.R_slice z1.out; subst eo209
                 go_wp2_with (first | (go_at_call 51; (with_reducible refine (verb_Check.calls kj189 zd _ _ z3 z7 z8 a0_7 a0_4 z9 false t380 _ ?side1 ?side2 A196.out).mono ?_); (case side1 => repeat (first | exact (Kd.R_reads' z1.out).2.2 | (with_reducible refine Kd.C_alloc ?_ _) | (with_reducible refine Kd.C_drewN ?_ _) | (with_reducible refine Kd.C_drew ?_))); (case side2 => exact (Kd.R_reads' z1.out).2.1); rintro e w210 ⟨rfl, hb⟩; replace z1 := Aside0.mk (Kd.R_below (by (with_reducible repeat (first | apply Kd.R_alloc | apply Kd.R_drewN | apply Kd.R_drew)); exact z1.out) hb); replace BK355 := rB BK355 hb; replace BK356 := rB BK356 hb; replace BK371 := rB BK371 hb; replace HB := rS HB hb; (try clear hb); (try clear hk); have hnb211 := rP NB356_355 NB355_356; obtain ⟨hcz212, hfz212⟩ := d8 BK356))
                 refine bodyPost_ret (results_ct rfl _ _ gb356 70 #[.int .i64 0, .slice none 0 0, .int .u32 0, .int .i64 0, .string (⟨#[]⟩ : ByteArray), .int .u64 0, .int .u64 0, .bool false] (0, 0) _ rfl (bV BK356.out) Try.underlying70 rfl (by kernel_rfl)) rfl ?_
                 exact ⟨_, xR, xN, bH HB.out⟩
               ·rw [if_neg c195] at H; have c195b0 : (x7_151 == 4294967295) = false := beq_eq_false_iff_ne.mpr c195; have c195b1 : (x7_151 != 4294967295) = true := bne_iff_ne.mpr c195; simp only [Option.some.injEq, Prod.mk.injEq] at H; obtain ⟨rfl, rfl, rfl, rfl, rfl, rfl, rfl, rfl, rfl⟩ := H; have hnb213 := rP NB356_355 NB355_356; have hnb214 := rP NB356_371 NB371_356; obtain ⟨hcz215, hfz215⟩ := d8 BK356; go_wp2; refine bodyPost_ret (results_ct rfl _ _ gb356 70 #[.int .i64 0, .slice none 0 0, .int .u32 0, .int .i64 0, .string (⟨#[]⟩ : ByteArray), .int .u64 0, .int .u64 0, .bool false] (0, 0) _ rfl (bV BK356.out) Try.underlying70 rfl (by kernel_rfl)) rfl ?_
                exact ⟨_, xR, xN, bH HB.out⟩
   ·rw [if_neg c20] at H; have c20b0 : ((a0_5.size : Int) == t359) = false := beq_eq_false_iff_ne.mpr c20; have c20b1 : ((a0_5.size : Int) != t359) = true := bne_iff_ne.mpr c20; simp only [Option.some.injEq, Prod.mk.injEq] at H; obtain ⟨rfl, rfl, rfl, rfl, rfl, rfl, rfl, rfl, rfl⟩ := H; go_enter Try.func30, Try.ntmps30
    try go_wp2_with (first | ((with_reducible refine gate_dst (N := 1) rfl ?_); refine bE 1 #[.bool false, .int .u8 a0_1, .int .u16 a0_2, .int .u32 a0_3, .int .u64 a0_4, .string a0_5, .string a0_6, .string a0_7] 31 rfl rfl ?_; intro gb355 hg w216 hbox hb; have BK355 := rM hbox; have GW355 := rG HB hg; replace HB := rS HB hb; have GE355 := GW355; clear hb hbox hg) | ((with_reducible refine gate_dst (N := 2) rfl ?_); refine bE 2 #[.int .i64 0, .slice none 0 0, .int .u32 0, .int .i64 0, .string (⟨#[]⟩ : ByteArray), .int .u64 0, .int .u64 0, .bool false] 70 rfl rfl ?_; intro gb356 hg w217 hbox hb; have BK356 := rM hbox; have GW356 := rG HB hg; replace HB := rS HB hb; have GE356 := GW356; have NB355_356 := rN BK355 hg; replace BK355 := rB BK355 hb; have NB356_355 := rY NB355_356; clear hb hbox hg; have hnb218 := rP NB355_356 NB356_355; obtain ⟨hcz219, hfz219⟩ := d8 BK355) | ((with_reducible refine gate_callee (f := 43) rfl ?_); refine gL (some 12) rfl rfl Try.func43 #[.int .u8 a0_1] rfl ?_; (with_reducible refine (frame_find.calls k a0_1 t357 t358 _ A2.out).mono ?_); rintro e w220 ⟨rfl, hb⟩; refine ⟨_, rfl, ?_⟩; replace BK355 := rB BK355 hb; replace BK356 := rB BK356 hb; replace HB := rS HB hb; (try clear hb); (try clear hk); obtain ⟨hcz221, hfz221⟩ := d8 BK355))
    replace BK355 := Aside0.mk (bD BK355.out); replace BK356 := Aside0.mk (bD BK356.out); replace HB := Aside0.mk (eD HB.out); refine start_ (n := 7) (S := fun w' => w'.cell? ⟨gb355, 0, none⟩ = some (.bool false) ∧ w'.cell? ⟨gb355, 1, none⟩ = some (.int .u8 a0_1) ∧ w'.cell? ⟨gb355, 2, none⟩ = some (.int .u16 a0_2) ∧ w'.cell? ⟨gb355, 3, none⟩ = some (.int .u32 a0_3) ∧ w'.cell? ⟨gb355, 4, none⟩ = some (.int .u64 a0_4) ∧ w'.cell? ⟨gb355, 5, none⟩ = some (.string a0_5) ∧ w'.cell? ⟨gb355, 6, none⟩ = some (.string a0_6) ∧ w'.cell? ⟨gb355, 7, none⟩ = some (.string a0_7)) (ds := []) #[false, false, false, false, false, false, false] (by kernel_rfl) rfl rfl ⟨kC BK355 0, kC BK355 1, kC BK355 2, kC BK355 3, kC BK355 4, kC BK355 5, kC BK355 6, kC BK355 7⟩ (fun hHeld => ?_)
    generalize w220.drew = w222 at BK355 BK356 HB hHeld ⊢; refine pure_ (i := 0) (N := some 24) (v := ?_) (a' := ?_) #[true, false, false, false, false, false, false] rfl rfl (by kernel_rfl) (fun _ _ _ h => h) (Or.inl ⟨by rfl, ?_⟩) ?_ ?_
    rotate_left
    ·intro w'
     go_simp
     with_reducible rfl
    rotate_left
    ·simp only [Act.put, sA, sB, sC, i64_w, i32_w]
     rfl
    refine pure_ (i := 3) (N := some 27) (v := ?_) (a' := ?_) #[true, false, false, true, false, false, false] rfl rfl (by kernel_rfl) (fun _ _ _ h => h) (Or.inl ⟨by rfl, ?_⟩) ?_ ?_
    rotate_left
    ·intro w'
     go_simp
     with_reducible rfl
    rotate_left
    ·simp only [Act.put, sA, sB, sC, i64_w, i32_w]
     rfl
    refine take_ (i := 1) (N := some 25) (v := ?_) (a' := ?_) #[true, true, false, true, false, false, false] rfl rfl (by kernel_rfl) (fun _ _ _ h => h) (Or.inl ⟨by rfl, ?_⟩) hHeld ?_ ?_
    rotate_left
    ·rintro w' ⟨s0, s1, s2, s3, s4, s5, s6, s7⟩
     go_simp
     with_reducible rfl
    rotate_left
    ·simp only [Act.put, sA, sB, sC, i64_w, i32_w]
     rfl
    refine pure_ (i := 2) (N := some 26) (v := ?_) (a' := ?_) #[true, true, true, true, false, false, false] rfl rfl (by kernel_rfl) (fun _ _ _ h => h) (Or.inl ⟨by rfl, ?_⟩) ?_ ?_
    rotate_left
    ·intro w'
     go_simp
     with_reducible rfl
    rotate_left
    ·simp only [Act.put, sA, sB, sC, i64_w, i32_w]
     rfl
    refine one_ (i := 4) (N := some 28) #[true, true, true, true, true, false, false] rfl rfl (by kernel_rfl) (by decide) (fun K hK => ?_)
    refine goes_ Try.func49 (by kernel_rfl) rfl #[.int .i64 t357] (by rfl) rfl rfl (by (try simp only [List.map_toArray, List.map_cons, List.map_nil]); first | done | rfl | (simp only [List.length_drop, List.length_take]; rfl)) ?_
    with_reducible refine (frame_extras.calls k t357 t359 _ A19.out).mono ?_
    rintro e w' ⟨rfl, ⟨nd, rfl⟩⟩
    refine ⟨_, rfl, ?_⟩
    refine hK.out _ _ ⟨kC BK355 0, kC BK355 1, kC BK355 2, kC BK355 3, kC BK355 4, kC BK355 5, kC BK355 6, kC BK355 7⟩ (fun hHeld => ?_)
    clear hK K; refine norm_ (a' := ?_) ?_ ?_
    rotate_left
    ·show Act.put _ (some 28) _ = _
     simp only [Act.put, sA, sB, sC, i64_w, i32_w]
     rfl
    refine pure_ (i := 5) (N := some 29) (v := ?_) (a' := ?_) #[true, true, true, true, true, true, false] rfl rfl (by kernel_rfl) (fun _ _ _ h => h) (Or.inl ⟨by rfl, ?_⟩) ?_ ?_
    rotate_left
    ·intro w'
     go_simp
     with_reducible rfl
    rotate_left
    ·simp only [Act.put, sA, sB, sC, i64_w, i32_w]
     rfl
    refine pure_ (i := 6) (N := some 23) (v := ?_) (a' := ?_) #[true, true, true, true, true, true, true] rfl rfl (by kernel_rfl) (fun _ _ _ h => h) (Or.inl ⟨by rfl, ?_⟩) ?_ ?_
    rotate_left
    ·intro w'
     go_simp
     with_reducible rfl
    rotate_left
    ·simp only [Act.put, sA, sB, sC, i64_w, i32_w]
     rfl
    refine done_ (by kernel_rfl) ?_
    obtain ⟨hcz223, hfz223⟩ := d8 BK356
    try go_wp2
    refine bodyPost_ret (results_ct rfl _ _ gb356 70 #[.int .i64 0, .slice none 0 0, .int .u32 0, .int .i64 0, .string (⟨#[]⟩ : ByteArray), .int .u64 0, .int .u64 0, .bool false] (0, 0) _ rfl (bV BK356.out) Try.underlying70 rfl (by kernel_rfl)) rfl ?_
    exact ⟨_, xR, xN, bH HB.out⟩

end Go.Proofs.Ytdepkgikdmlgiaa.P
