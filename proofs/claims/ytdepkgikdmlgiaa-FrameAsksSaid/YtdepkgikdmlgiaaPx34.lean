/- Lean functions for the Go functions that the laws of this seat use, and the proofs that the Go code computes them; conditions: the readings that each theorem names. Written by a program. -/
import Derived.Test.YtdepkgikdmlgiaaPx0
import Derived.Test.YtdepkgikdmlgiaaPx9
import Derived.Test.YtdepkgikdmlgiaaPx17
import Derived.Test.YtdepkgikdmlgiaaPx18
import Derived.Test.YtdepkgikdmlgiaaPx30
import Derived.Test.YtdepkgikdmlgiaaPx32
import Derived.Test.YtdepkgikdmlgiaaPx33
import Derived.Test.YtdepkgikdmlgiaaShort
namespace Go.Proofs.Ytdepkgikdmlgiaa.P
open Go.RowKit Go.Proofs.YtdepkgikdmlgiaaW.PrintWords Go.Proofs.YtdepkgikdmlgiaaW.PrintLast Go.Proofs.YtdepkgikdmlgiaaW.PrintMore
set_option linter.unusedVariables false
set_option linter.unusedSimpArgs false

/-! ### tallboyref29_Command: function 31 -/
set_option maxHeartbeats 8000000 in
set_option maxRecDepth 100000 in
theorem tallboyref29_Command.calls (k : Nat) (a0_0 : Bool) (a0_1 : Int) (a0_2 : Int) (a0_3 : Int) (a0_4 : Int) (a0_5 : ByteArray) (a0_6 : ByteArray) (a0_7 : ByteArray) (r1 : Int) (r2 : List ByteArray) (r3 : Int) (r4 : Int) (r5 : ByteArray) (r6 : Int) (r7 : Int) (r8 : Bool) (r9 : Int) (w : World) (h : tallboyref29_Command.f k a0_0 a0_1 a0_2 a0_3 a0_4 a0_5 a0_6 a0_7 = some (r1, r2, r3, r4, r5, r6, r7, r8, r9)) :
  Calls Try.prog 31 #[.agg #[.bool a0_0, .int .u8 a0_1, .int .u16 a0_2, .int .u32 a0_3, .int .u64 a0_4, .string a0_5, .string a0_6, .string a0_7]] w fun e w' => ∃ v1_ : Value, e = .returned (.tuple #[.agg #[.int .i64 r1, v1_, .int .u32 r3, .int .i64 r4, .string r5, .int .u64 r6, .int .u64 r7, .bool r8], .int .i64 r9]) ∧ Kd.R Kd.string 9 w' w.heap.size (fun _ => True) v1_ r2 ∧ Below w.heap.size w w' := by
 have hu26 := Try.underlying26; have hu70 := Try.underlying70; have HB := Aside0.mk (Below.refl w.heap.size w); have H : (if a0_0 = true then (some (0, ([] : List ByteArray), 0, 0, (⟨#[]⟩ : ByteArray), 0, 0, false, 5)) else ((tallboyref29_op.f k a0_1).bind fun bt394 => (if bt394.1 = 0 then (some (0, ([] : List ByteArray), 0, 0, (⟨#[]⟩ : ByteArray), 0, 0, false, 70)) else ((tallboyref29_extras.f k bt394.1).bind fun t396 => (if (a0_5.size : Int) = t396 then (if bt394.2 = true then ((tallboyref15_Reads.f bt394.1).bind fun t397 => (if bt394.1 = 15 then (tallboyref29_Command.j0 k bt394.1 (a0_6.toList != ([] : List UInt8)) a0_0 a0_1 a0_2 a0_3 a0_4 a0_5 a0_6 a0_7 bt394.1 0 0 a0_7 0 0 (!t397)) else (tallboyref29_Command.j0 k bt394.1 true a0_0 a0_1 a0_2 a0_3 a0_4 a0_5 a0_6 a0_7 bt394.1 0 0 a0_7 0 0 (!t397)))) else (if bt394.1 = 15 then (tallboyref29_Command.j4 k bt394.1 (a0_6.toList != ([] : List UInt8)) a0_0 a0_1 a0_2 a0_3 a0_4 a0_5 a0_6 a0_7 bt394.1 0 0 a0_7 0 0 false) else (tallboyref29_Command.j4 k bt394.1 true a0_0 a0_1 a0_2 a0_3 a0_4 a0_5 a0_6 a0_7 bt394.1 0 0 a0_7 0 0 false))) else (some (0, ([] : List ByteArray), 0, 0, (⟨#[]⟩ : ByteArray), 0, 0, false, 6))))))) = some (r1, r2, r3, r4, r5, r6, r7, r8, r9) := h; clear h
 by_cases c2 : a0_0 = true
 ·subst c2; rw [if_pos rfl] at H; simp only [Option.some.injEq, Prod.mk.injEq] at H; obtain ⟨rfl, rfl, rfl, rfl, rfl, rfl, rfl, rfl, rfl⟩ := H; go_enter Try.func31, Try.ntmps31
  go_wp2_with (first | ((with_reducible refine gate_dst (N := 1) rfl ?_); refine bE 1 #[.bool true, .int .u8 a0_1, .int .u16 a0_2, .int .u32 a0_3, .int .u64 a0_4, .string a0_5, .string a0_6, .string a0_7] 26 rfl rfl ?_; intro gb392 hg w3 hbox hb; have BK392 := rM hbox; have GW392 := rG HB hg; replace HB := rS HB hb; have GE392 := GW392; clear hb hbox hg) | ((with_reducible refine gate_dst (N := 2) rfl ?_); refine bE 2 #[.int .i64 0, .slice none 0 0, .int .u32 0, .int .i64 0, .string (⟨#[]⟩ : ByteArray), .int .u64 0, .int .u64 0, .bool false] 70 rfl rfl ?_; intro gb393 hg w4 hbox hb; have BK393 := rM hbox; have GW393 := rG HB hg; replace HB := rS HB hb; have GE393 := GW393; have NB392_393 := rN BK392 hg; replace BK392 := rB BK392 hb; have NB393_392 := rY NB392_393; clear hb hbox hg; have hnb5 := rP NB392_393 NB393_392; obtain ⟨hcz6, hfz6⟩ := d8 BK392; obtain ⟨hcz7, hfz7⟩ := d8 BK393))
  refine bodyPost_ret (results_ct rfl _ _ gb393 70 #[.int .i64 0, .slice none 0 0, .int .u32 0, .int .i64 0, .string (⟨#[]⟩ : ByteArray), .int .u64 0, .int .u64 0, .bool false] (0, 0) _ rfl (bV BK393.out) Try.underlying70 rfl (by kernel_rfl)) rfl ?_
  exact ⟨_, xR, xN, bH HB.out⟩
 ·replace c2 := Bool.eq_false_iff.mpr c2; subst c2; rw [if_neg (show ¬ (false = true) by decide)] at H; replace H := Option.bind_eq_some_iff.mp H; obtain ⟨⟨t394, t395⟩, A80, H⟩ := H; (try dsimp only at H); have A8 := Aside0.mk A80; clear A80
  by_cases c9 : t394 = 0
  ·rw [if_pos c9] at H; have c9b0 : (t394 == 0) = true := beq_iff_eq.mpr c9; have c9b1 : (t394 != 0) = false := bne_eq_false_iff_eq.mpr c9; clear c9; simp only [Option.some.injEq, Prod.mk.injEq] at H; obtain ⟨rfl, rfl, rfl, rfl, rfl, rfl, rfl, rfl, rfl⟩ := H; go_enter Try.func31, Try.ntmps31
   go_wp2_with (first | ((with_reducible refine gate_dst (N := 1) rfl ?_); refine bE 1 #[.bool false, .int .u8 a0_1, .int .u16 a0_2, .int .u32 a0_3, .int .u64 a0_4, .string a0_5, .string a0_6, .string a0_7] 26 rfl rfl ?_; intro gb392 hg w10 hbox hb; have BK392 := rM hbox; have GW392 := rG HB hg; replace HB := rS HB hb; have GE392 := GW392; clear hb hbox hg) | ((with_reducible refine gate_dst (N := 2) rfl ?_); refine bE 2 #[.int .i64 0, .slice none 0 0, .int .u32 0, .int .i64 0, .string (⟨#[]⟩ : ByteArray), .int .u64 0, .int .u64 0, .bool false] 70 rfl rfl ?_; intro gb393 hg w11 hbox hb; have BK393 := rM hbox; have GW393 := rG HB hg; replace HB := rS HB hb; have GE393 := GW393; have NB392_393 := rN BK392 hg; replace BK392 := rB BK392 hb; have NB393_392 := rY NB392_393; clear hb hbox hg; have hnb12 := rP NB392_393 NB393_392; obtain ⟨hcz13, hfz13⟩ := d8 BK392) | ((with_reducible refine gate_callee (f := 47) rfl ?_); refine gL (some 14) rfl rfl Try.func47 #[.int .u8 a0_1] rfl ?_; (with_reducible refine (tallboyref29_op.calls k a0_1 t394 t395 _ A8.out).mono ?_); rintro e w' ⟨rfl, ⟨nd, rfl⟩⟩; refine ⟨_, rfl, ?_⟩; (try simp only [World.drewN_drewN]); (try (rw [drewN_self w11]; generalize hq_ : World.drewN w11 _ = w11; have n0_ := Aside0.mk (bQ BK392.out hq_); have n1_ := Aside0.mk (bQ BK393.out hq_); have n2_ := Aside0.mk (bF HB.out hq_); clear BK392 BK393 HB hq_; have BK392 := n0_; have BK393 := n1_; have HB := n2_; clear n0_ n1_ n2_)); obtain ⟨hcz14, hfz14⟩ := d8 BK393))
   refine bodyPost_ret (results_ct rfl _ _ gb393 70 #[.int .i64 0, .slice none 0 0, .int .u32 0, .int .i64 0, .string (⟨#[]⟩ : ByteArray), .int .u64 0, .int .u64 0, .bool false] (0, 0) _ rfl (bV BK393.out) Try.underlying70 rfl (by kernel_rfl)) rfl ?_
   exact ⟨_, xR, xN, bH HB.out⟩
  ·rw [if_neg c9] at H; have c9b0 : (t394 == 0) = false := beq_eq_false_iff_ne.mpr c9; have c9b1 : (t394 != 0) = true := bne_iff_ne.mpr c9; replace H := Option.bind_eq_some_iff.mp H; obtain ⟨t396, A150, H⟩ := H; (try dsimp only at H); have A15 := Aside0.mk A150; clear A150
   by_cases c16 : (a0_5.size : Int) = t396
   ·rw [if_pos c16] at H; have c16b0 : ((a0_5.size : Int) == t396) = true := beq_iff_eq.mpr c16; have c16b1 : ((a0_5.size : Int) != t396) = false := bne_eq_false_iff_eq.mpr c16; clear c16
    by_cases c17 : t395 = true
    ·subst c17; rw [if_pos rfl] at H; replace H := Option.bind_eq_some_iff.mp H; obtain ⟨t397, A180, H⟩ := H; (try dsimp only at H); have A18 := Aside0.mk A180; clear A180; have HC19 := Aside0.mk H; clear H; go_enter Try.func31, Try.ntmps31
     try go_wp2_with (first | ((with_reducible refine gate_dst (N := 1) rfl ?_); refine bE 1 #[.bool false, .int .u8 a0_1, .int .u16 a0_2, .int .u32 a0_3, .int .u64 a0_4, .string a0_5, .string a0_6, .string a0_7] 26 rfl rfl ?_; intro gb392 hg w20 hbox hb; have BK392 := rM hbox; have GW392 := rG HB hg; replace HB := rS HB hb; have GE392 := GW392; clear hb hbox hg) | ((with_reducible refine gate_dst (N := 2) rfl ?_); refine bE 2 #[.int .i64 0, .slice none 0 0, .int .u32 0, .int .i64 0, .string (⟨#[]⟩ : ByteArray), .int .u64 0, .int .u64 0, .bool false] 70 rfl rfl ?_; intro gb393 hg w21 hbox hb; have BK393 := rM hbox; have GW393 := rG HB hg; replace HB := rS HB hb; have GE393 := GW393; have NB392_393 := rN BK392 hg; replace BK392 := rB BK392 hb; have NB393_392 := rY NB392_393; clear hb hbox hg; have hnb22 := rP NB392_393 NB393_392; obtain ⟨hcz23, hfz23⟩ := d8 BK392) | ((with_reducible refine gate_callee (f := 47) rfl ?_); refine gL (some 14) rfl rfl Try.func47 #[.int .u8 a0_1] rfl ?_; (with_reducible refine (tallboyref29_op.calls k a0_1 t394 true _ A8.out).mono ?_); rintro e w' ⟨rfl, ⟨nd, rfl⟩⟩; refine ⟨_, rfl, ?_⟩; (try simp only [World.drewN_drewN]); (try (rw [drewN_self w21]; generalize hq_ : World.drewN w21 _ = w21; have n0_ := Aside0.mk (bQ BK392.out hq_); have n1_ := Aside0.mk (bQ BK393.out hq_); have n2_ := Aside0.mk (bF HB.out hq_); clear BK392 BK393 HB hq_; have BK392 := n0_; have BK393 := n1_; have HB := n2_; clear n0_ n1_ n2_))))
     replace BK392 := Aside0.mk (bD BK392.out); replace BK393 := Aside0.mk (bD BK393.out); replace HB := Aside0.mk (eD HB.out); refine start_ (n := 6) (S := fun w' => w'.cell? ⟨gb392, 0, none⟩ = some (.bool false) ∧ w'.cell? ⟨gb392, 1, none⟩ = some (.int .u8 a0_1) ∧ w'.cell? ⟨gb392, 2, none⟩ = some (.int .u16 a0_2) ∧ w'.cell? ⟨gb392, 3, none⟩ = some (.int .u32 a0_3) ∧ w'.cell? ⟨gb392, 4, none⟩ = some (.int .u64 a0_4) ∧ w'.cell? ⟨gb392, 5, none⟩ = some (.string a0_5) ∧ w'.cell? ⟨gb392, 6, none⟩ = some (.string a0_6) ∧ w'.cell? ⟨gb392, 7, none⟩ = some (.string a0_7)) (ds := []) #[false, false, false, false, false, false] (by kernel_rfl) rfl rfl ⟨kC BK392 0, kC BK392 1, kC BK392 2, kC BK392 3, kC BK392 4, kC BK392 5, kC BK392 6, kC BK392 7⟩ (fun hHeld => ?_)
     generalize w21.drew = w24 at BK392 BK393 HB hHeld ⊢; refine pure_ (i := 0) (N := some 20) (v := ?_) (a' := ?_) #[true, false, false, false, false, false] rfl rfl (by kernel_rfl) (fun _ _ _ h => h) (Or.inl ⟨by rfl, ?_⟩) ?_ ?_
     rotate_left
     ·intro w'
      go_simp
      with_reducible rfl
     rotate_left
     ·simp only [Act.put, sA, sB, sC, i64_w, i32_w]
      rfl
     refine pure_ (i := 3) (N := some 23) (v := ?_) (a' := ?_) #[true, false, false, true, false, false] rfl rfl (by kernel_rfl) (fun _ _ _ h => h) (Or.inl ⟨by rfl, ?_⟩) ?_ ?_
     rotate_left
     ·intro w'
      go_simp
      with_reducible rfl
     rotate_left
     ·simp only [Act.put, sA, sB, sC, i64_w, i32_w]
      rfl
     refine take_ (i := 1) (N := some 21) (v := ?_) (a' := ?_) #[true, true, false, true, false, false] rfl rfl (by kernel_rfl) (fun _ _ _ h => h) (Or.inl ⟨by rfl, ?_⟩) hHeld ?_ ?_
     rotate_left
     ·rintro w' ⟨s0, s1, s2, s3, s4, s5, s6, s7⟩
      go_simp
      with_reducible rfl
     rotate_left
     ·simp only [Act.put, sA, sB, sC, i64_w, i32_w]
      rfl
     refine pure_ (i := 2) (N := some 22) (v := ?_) (a' := ?_) #[true, true, true, true, false, false] rfl rfl (by kernel_rfl) (fun _ _ _ h => h) (Or.inl ⟨by rfl, ?_⟩) ?_ ?_
     rotate_left
     ·intro w'
      go_simp
      with_reducible rfl
     rotate_left
     ·simp only [Act.put, sA, sB, sC, i64_w, i32_w]
      rfl
     refine one_ (i := 4) (N := some 24) #[true, true, true, true, true, false] rfl rfl (by kernel_rfl) (by decide) (fun K hK => ?_)
     refine goes_ Try.func52 (by kernel_rfl) rfl #[.int .i64 t394] (by rfl) rfl rfl (by (try simp only [List.map_toArray, List.map_cons, List.map_nil]); first | done | rfl | (simp only [List.length_drop, List.length_take]; rfl)) ?_
     with_reducible refine (tallboyref29_extras.calls k t394 t396 _ A15.out).mono ?_
     rintro e w' ⟨rfl, ⟨nd, rfl⟩⟩
     refine ⟨_, rfl, ?_⟩
     refine hK.out _ _ ⟨kC BK392 0, kC BK392 1, kC BK392 2, kC BK392 3, kC BK392 4, kC BK392 5, kC BK392 6, kC BK392 7⟩ (fun hHeld => ?_)
     clear hK K; refine norm_ (a' := ?_) ?_ ?_
     rotate_left
     ·show Act.put _ (some 24) _ = _
      simp only [Act.put, sA, sB, sC, i64_w, i32_w]
      rfl
     refine pure_ (i := 5) (N := some 25) (v := ?_) (a' := ?_) #[true, true, true, true, true, true] rfl rfl (by kernel_rfl) (fun _ _ _ h => h) (Or.inl ⟨by rfl, ?_⟩) ?_ ?_
     rotate_left
     ·intro w'
      go_simp
      with_reducible rfl
     rotate_left
     ·simp only [Act.put, sA, sB, sC, i64_w, i32_w]
      rfl
     refine done_ (by kernel_rfl) ?_
     try go_wp2
     (try simp only [World.drewN_drewN]); (try (rw [drewN_self w24]; generalize hq_ : World.drewN w24 _ = w24; have n0_ := Aside0.mk (bQ BK392.out hq_); have n1_ := Aside0.mk (bQ BK393.out hq_); have n2_ := Aside0.mk (bF HB.out hq_); clear BK392 BK393 HB hq_; have BK392 := n0_; have BK393 := n1_; have HB := n2_; clear n0_ n1_ n2_))
     replace BK392 := Aside0.mk (bD BK392.out); replace BK393 := Aside0.mk (bD BK393.out); replace HB := Aside0.mk (eD HB.out); refine start_ (n := 12) (S := fun w' => w'.cell? ⟨gb392, 0, none⟩ = some (.bool false) ∧ w'.cell? ⟨gb392, 1, none⟩ = some (.int .u8 a0_1) ∧ w'.cell? ⟨gb392, 2, none⟩ = some (.int .u16 a0_2) ∧ w'.cell? ⟨gb392, 3, none⟩ = some (.int .u32 a0_3) ∧ w'.cell? ⟨gb392, 4, none⟩ = some (.int .u64 a0_4) ∧ w'.cell? ⟨gb392, 5, none⟩ = some (.string a0_5) ∧ w'.cell? ⟨gb392, 6, none⟩ = some (.string a0_6) ∧ w'.cell? ⟨gb392, 7, none⟩ = some (.string a0_7)) (ds := []) #[false, false, false, false, false, false, false, false, false, false, false, false] (by kernel_rfl) rfl rfl ⟨kC BK392 0, kC BK392 1, kC BK392 2, kC BK392 3, kC BK392 4, kC BK392 5, kC BK392 6, kC BK392 7⟩ (fun hHeld => ?_); refine with_tabW tallboyref29_Command.tab8 tallboyref29_Command.bits8 (fun HT_ HW_ => ?_)
     generalize w24.drew = w25 at BK392 BK393 HB hHeld ⊢; refine pU HT_ 0 (some 27) ?_ #[true, false, false, false, false, false, false, false, false, false, false, false] rfl rfl ?_ ?_ ?_ ?_
     rotate_left
     ·intro w'
      go_simp
      with_reducible rfl
     rotate_left
     ·simp only [Act.put, sA, sB, sC, i64_w, i32_w]
      rfl
     refine pU HT_ 1 (some 28) ?_ #[true, true, false, false, false, false, false, false, false, false, false, false] rfl rfl ?_ ?_ ?_ ?_
     rotate_left
     ·intro w'
      go_simp
      with_reducible rfl
     rotate_left
     ·simp only [Act.put, sA, sB, sC, i64_w, i32_w]
      rfl
     refine pU HT_ 3 (some 30) ?_ #[true, true, false, true, false, false, false, false, false, false, false, false] rfl rfl ?_ ?_ ?_ ?_
     rotate_left
     ·intro w'
      go_simp
      with_reducible rfl
     rotate_left
     ·simp only [Act.put, sA, sB, sC, i64_w, i32_w]
      rfl
     refine pU HT_ 4 (some 31) ?_ #[true, true, false, true, true, false, false, false, false, false, false, false] rfl rfl ?_ ?_ ?_ ?_
     rotate_left
     ·intro w'
      go_simp
      with_reducible rfl
     rotate_left
     ·simp only [Act.put, sA, sB, sC, i64_w, i32_w]
      rfl
     refine pU HT_ 5 (some 32) ?_ #[true, true, false, true, true, true, false, false, false, false, false, false] rfl rfl ?_ ?_ ?_ ?_
     rotate_left
     ·intro w'
      go_simp
      with_reducible rfl
     rotate_left
     ·simp only [Act.put, sA, sB, sC, i64_w, i32_w]
      rfl
     refine tU HT_ HW_ hHeld 2 (some 29) ?_ #[true, true, true, true, true, true, false, false, false, false, false, false] rfl rfl ?_ ?_ ?_ ?_
     rotate_left
     ·rintro w' ⟨s0, s1, s2, s3, s4, s5, s6, s7⟩
      go_simp
      with_reducible rfl
     rotate_left
     ·simp only [Act.put, sA, sB, sC, i64_w, i32_w]
      rfl
     refine join_ (σ := Nat) 1 #[true, true, true, true, true, true, true, true, true, true, true, false] (fun s_ => [(33, .bool t397), (6, .pointer (some ⟨s_, 0, none⟩)), (34, .bool (!t397)), (35, .bool (!t397)), (36, .agg #[.int .i64 t394, .slice none 0 0, .int .u32 0, .int .i64 0, .string a0_7, .int .u64 0, .int .u64 0, .bool (!t397)])]) (fun s_ w' => (w'.cell? ⟨gb392, 0, none⟩ = some (.bool false) ∧ w'.cell? ⟨gb392, 1, none⟩ = some (.int .u8 a0_1) ∧ w'.cell? ⟨gb392, 2, none⟩ = some (.int .u16 a0_2) ∧ w'.cell? ⟨gb392, 3, none⟩ = some (.int .u32 a0_3) ∧ w'.cell? ⟨gb392, 4, none⟩ = some (.int .u64 a0_4) ∧ w'.cell? ⟨gb392, 5, none⟩ = some (.string a0_5) ∧ w'.cell? ⟨gb392, 6, none⟩ = some (.string a0_6) ∧ w'.cell? ⟨gb392, 7, none⟩ = some (.string a0_7)) ∧ (w'.heap[gb392]? = some (.cells #[.bool false, .int .u8 a0_1, .int .u16 a0_2, .int .u32 a0_3, .int .u64 a0_4, .string a0_5, .string a0_6, .string a0_7] 26 (0, 0))) ∧ (w'.heap[gb393]? = some (.cells #[.int .i64 0, .slice none 0 0, .int .u32 0, .int .i64 0, .string (⟨#[]⟩ : ByteArray), .int .u64 0, .int .u64 0, .bool false] 70 (0, 0))) ∧ (w'.heap[s_]? = some (.cells #[.int .i64 0, .slice none 0 0, .int .u32 0, .int .i64 0, .string (⟨#[]⟩ : ByteArray), .int .u64 0, .int .u64 0, .bool false] 70 (0, 0))) ∧ (w.heap.size ≤ s_) ∧ (w.heap.size ≤ s_) ∧ (gb392 ≠ s_) ∧ (s_ ≠ gb392) ∧ (gb393 ≠ s_) ∧ (s_ ≠ gb393) ∧ (Below w.heap.size w w')) ?_ ?_
     rotate_left
     ·intro hCont
      refine two_ (i := 6) (j := 10) (Ni := some 33) (Nj := some 6) #[true, true, true, true, true, true, true, false, false, false, false, false] #[true, true, true, true, true, true, false, false, false, false, true, false] rfl rfl rfl rfl (two_of HT_.out (by kernel_rfl)) (by decide) (by decide) (fun K hK => ?_) (fun K hK => ?_)
      ·skip
       refine goes_ Try.func48 (by kernel_rfl) rfl #[.int .i64 t394] (by rfl) rfl rfl (by (try simp only [List.map_toArray, List.map_cons, List.map_nil]); first | done | rfl | (simp only [List.length_drop, List.length_take]; rfl)) ?_
       with_reducible refine (tallboyref15_Reads.calls t394 t397 _ A18.out).mono ?_
       rintro e w' ⟨rfl, ⟨nd, rfl⟩⟩
       refine ⟨_, rfl, ?_⟩
       refine hK.out _ _ ⟨kC BK392 0, kC BK392 1, kC BK392 2, kC BK392 3, kC BK392 4, kC BK392 5, kC BK392 6, kC BK392 7⟩ (fun hHeld => ?_)
       clear hK K; refine norm_ (a' := ?_) ?_ ?_
       rotate_left
       ·show Act.put _ (some 33) _ = _
        simp only [Act.put, sA, sB, sC, i64_w, i32_w]
        rfl
       refine pU HT_ 7 (some 34) ?_ #[true, true, true, true, true, true, true, true, false, false, false, false] rfl rfl ?_ ?_ ?_ ?_
       rotate_left
       ·intro w'
        go_simp
        with_reducible rfl
       rotate_left
       ·simp only [Act.put, sA, sB, sC, i64_w, i32_w]
        rfl
       refine pU HT_ 8 (some 35) ?_ #[true, true, true, true, true, true, true, true, true, false, false, false] rfl rfl ?_ ?_ ?_ ?_
       rotate_left
       ·intro w'
        go_simp
        with_reducible rfl
       rotate_left
       ·simp only [Act.put, sA, sB, sC, i64_w, i32_w]
        rfl
       refine pU HT_ 9 (some 36) ?_ #[true, true, true, true, true, true, true, true, true, true, false, false] rfl rfl ?_ ?_ ?_ ?_
       rotate_left
       ·intro w'
        go_simp
        with_reducible rfl
       rotate_left
       ·simp only [Act.put, sA, sB, sC, i64_w, i32_w]
        rfl
       refine one_ (i := 10) (N := some 6) #[true, true, true, true, true, true, true, true, true, true, true, false] rfl rfl (one_of HT_.out (by kernel_rfl)) (by decide) (fun K hK => ?_)
       refine box_step ?hg (N := 6) ?hd (cs := #[.int .i64 0, .slice none 0 0, .int .u32 0, .int .i64 0, .string (⟨#[]⟩ : ByteArray), .int .u64 0, .int .u64 0, .bool false]) (t := 70) ?hr ?_; (case hd => rfl); (case hg => rfl); (case hr => first | (go_simp; done) | (go_simp; rfl))
       intro gb398 hg w26 hbox hb
       have BK398 := rM hbox; have GW398 := rG HB hg; replace HB := rS HB hb; have GE398 := GW398; have NB392_398 := rN BK392 hg; replace BK392 := rB BK392 hb; have NB398_392 := rY NB392_398; have NB393_398 := rN BK393 hg; replace BK393 := rB BK393 hb; have NB398_393 := rY NB393_398; clear hb hbox hg; refine hK.out _ _ ⟨kC BK392 0, kC BK392 1, kC BK392 2, kC BK392 3, kC BK392 4, kC BK392 5, kC BK392 6, kC BK392 7⟩ (fun hHeld => ?_)
       clear hK K; refine norm_ (a' := ?_) ?_ ?_
       rotate_left
       ·show Act.put _ (some 6) _ = _
        simp only [Act.put, sA, sB, sC, i64_w, i32_w]
        rfl
       exact norm_ (by simp only [putAll, Act.put, sA, sB, sC]) (hCont (gb398) _ ⟨hHeld, (bK BK392.out), (bK BK393.out), (bK BK398.out), GW398.out, GE398.out, NB392_398.out, NB398_392.out, NB393_398.out, NB398_393.out, (bH HB.out)⟩)
      ·skip
       refine box_step ?hg (N := 6) ?hd (cs := #[.int .i64 0, .slice none 0 0, .int .u32 0, .int .i64 0, .string (⟨#[]⟩ : ByteArray), .int .u64 0, .int .u64 0, .bool false]) (t := 70) ?hr ?_; (case hd => rfl); (case hg => rfl); (case hr => first | (go_simp; done) | (go_simp; rfl))
       intro gb398 hg w26 hbox hb
       have BK398 := rM hbox; have GW398 := rG HB hg; replace HB := rS HB hb; have GE398 := GW398; have NB392_398 := rN BK392 hg; replace BK392 := rB BK392 hb; have NB398_392 := rY NB392_398; have NB393_398 := rN BK393 hg; replace BK393 := rB BK393 hb; have NB398_393 := rY NB393_398; clear hb hbox hg; refine hK.out _ _ ⟨kC BK392 0, kC BK392 1, kC BK392 2, kC BK392 3, kC BK392 4, kC BK392 5, kC BK392 6, kC BK392 7⟩ (fun hHeld => ?_)
       clear hK K; refine norm_ (a' := ?_) ?_ ?_
       rotate_left
       ·show Act.put _ (some 6) _ = _
        simp only [Act.put, sA, sB, sC, i64_w, i32_w]
        rfl
       refine one_ (i := 6) (N := some 33) #[true, true, true, true, true, true, true, false, false, false, true, false] rfl rfl (one_of HT_.out (by kernel_rfl)) (by decide) (fun K hK => ?_)
       refine goes_ Try.func48 (by kernel_rfl) rfl #[.int .i64 t394] (by rfl) rfl rfl (by (try simp only [List.map_toArray, List.map_cons, List.map_nil]); first | done | rfl | (simp only [List.length_drop, List.length_take]; rfl)) ?_
       with_reducible refine (tallboyref15_Reads.calls t394 t397 _ A18.out).mono ?_
       rintro e w' ⟨rfl, ⟨nd, rfl⟩⟩
       refine ⟨_, rfl, ?_⟩
       refine hK.out _ _ ⟨kC BK392 0, kC BK392 1, kC BK392 2, kC BK392 3, kC BK392 4, kC BK392 5, kC BK392 6, kC BK392 7⟩ (fun hHeld => ?_)
       clear hK K; refine norm_ (a' := ?_) ?_ ?_
       rotate_left
       ·show Act.put _ (some 33) _ = _
        simp only [Act.put, sA, sB, sC, i64_w, i32_w]
        rfl
       refine pU HT_ 7 (some 34) ?_ #[true, true, true, true, true, true, true, true, false, false, true, false] rfl rfl ?_ ?_ ?_ ?_
       rotate_left
       ·intro w'
        go_simp
        with_reducible rfl
       rotate_left
       ·simp only [Act.put, sA, sB, sC, i64_w, i32_w]
        rfl
       refine pU HT_ 8 (some 35) ?_ #[true, true, true, true, true, true, true, true, true, false, true, false] rfl rfl ?_ ?_ ?_ ?_
       rotate_left
       ·intro w'
        go_simp
        with_reducible rfl
       rotate_left
       ·simp only [Act.put, sA, sB, sC, i64_w, i32_w]
        rfl
       refine pU HT_ 9 (some 36) ?_ #[true, true, true, true, true, true, true, true, true, true, true, false] rfl rfl ?_ ?_ ?_ ?_
       rotate_left
       ·intro w'
        go_simp
        with_reducible rfl
       rotate_left
       ·simp only [Act.put, sA, sB, sC, i64_w, i32_w]
        rfl
       exact norm_ (by simp only [putAll, Act.put, sA, sB, sC]) (hCont (gb398) _ ⟨hHeld, (bK BK392.out), (bK BK393.out), (bK BK398.out), GW398.out, GE398.out, NB392_398.out, NB398_392.out, NB393_398.out, NB398_393.out, (bH HB.out)⟩)
     rintro gb398 w27 ⟨hS_, h0_, h1_, h2_, h3_, h4_, h5_, h6_, h7_, h8_, h9_⟩
     have n0_ : Aside0 (w27.heap[gb392]? = some (.cells #[.bool false, .int .u8 a0_1, .int .u16 a0_2, .int .u32 a0_3, .int .u64 a0_4, .string a0_5, .string a0_6, .string a0_7] 26 (0, 0))) := ⟨h0_⟩; have n1_ : Aside0 (w27.heap[gb393]? = some (.cells #[.int .i64 0, .slice none 0 0, .int .u32 0, .int .i64 0, .string (⟨#[]⟩ : ByteArray), .int .u64 0, .int .u64 0, .bool false] 70 (0, 0))) := ⟨h1_⟩; have n2_ : Aside0 (w27.heap[gb398]? = some (.cells #[.int .i64 0, .slice none 0 0, .int .u32 0, .int .i64 0, .string (⟨#[]⟩ : ByteArray), .int .u64 0, .int .u64 0, .bool false] 70 (0, 0))) := ⟨h2_⟩; have n3_ : Aside0 (w.heap.size ≤ gb398) := ⟨h3_⟩; have n4_ : Aside0 (w.heap.size ≤ gb398) := ⟨h4_⟩; have n5_ : Aside0 (gb392 ≠ gb398) := ⟨h5_⟩; have n6_ : Aside0 (gb398 ≠ gb392) := ⟨h6_⟩; have n7_ : Aside0 (gb393 ≠ gb398) := ⟨h7_⟩; have n8_ : Aside0 (gb398 ≠ gb393) := ⟨h8_⟩; have n9_ : Aside0 (Below w.heap.size w w27) := ⟨h9_⟩; clear BK392; clear BK393; clear HB; clear h0_ h1_ h2_ h3_ h4_ h5_ h6_ h7_ h8_ h9_; have BK392 := n0_; have BK393 := n1_; have BK398 := n2_; have GW398 := n3_; have GE398 := n4_; have NB392_398 := n5_; have NB398_392 := n6_; have NB393_398 := n7_; have NB398_393 := n8_; have HB := n9_; clear n0_ n1_ n2_ n3_ n4_ n5_ n6_ n7_ n8_ n9_; have hHeld : w27.cell? ⟨gb392, 0, none⟩ = some (.bool false) ∧ w27.cell? ⟨gb392, 1, none⟩ = some (.int .u8 a0_1) ∧ w27.cell? ⟨gb392, 2, none⟩ = some (.int .u16 a0_2) ∧ w27.cell? ⟨gb392, 3, none⟩ = some (.int .u32 a0_3) ∧ w27.cell? ⟨gb392, 4, none⟩ = some (.int .u64 a0_4) ∧ w27.cell? ⟨gb392, 5, none⟩ = some (.string a0_5) ∧ w27.cell? ⟨gb392, 6, none⟩ = some (.string a0_6) ∧ w27.cell? ⟨gb392, 7, none⟩ = some (.string a0_7) := hS_; refine norm_ (a' := ?_) ?_ ?_
     rotate_left
     ·simp only [putAll, Act.put, sA, sB, sC]
      rfl
     refine one_ (i := 11) (N := none) #[true, true, true, true, true, true, true, true, true, true, true, true] rfl rfl (one_of HT_.out (by kernel_rfl)) (by decide) (fun K hK => ?_)
     have hs28 : w27.cell? ⟨gb398, 0, none⟩ = some (.int .i64 0) := (blk_cell BK398.out 0).trans rfl; have hfs28 := blk_frozen BK398.out 0; have hns28_0 := NB392_398.out; have hns28_1 := NB393_398.out; have hms28_0 := NB398_392.out; have hms28_1 := NB398_393.out; have hs29 : w27.cell? ⟨gb398, 1, none⟩ = some (.slice none 0 0) := (blk_cell BK398.out 1).trans rfl; have hfs29 := blk_frozen BK398.out 1; have hns29_0 := NB392_398.out; have hns29_1 := NB393_398.out; have hms29_0 := NB398_392.out; have hms29_1 := NB398_393.out; have hs30 : w27.cell? ⟨gb398, 2, none⟩ = some (.int .u32 0) := (blk_cell BK398.out 2).trans rfl; have hfs30 := blk_frozen BK398.out 2; have hns30_0 := NB392_398.out; have hns30_1 := NB393_398.out; have hms30_0 := NB398_392.out; have hms30_1 := NB398_393.out; have hs31 : w27.cell? ⟨gb398, 3, none⟩ = some (.int .i64 0) := (blk_cell BK398.out 3).trans rfl; have hfs31 := blk_frozen BK398.out 3; have hns31_0 := NB392_398.out; have hns31_1 := NB393_398.out; have hms31_0 := NB398_392.out; have hms31_1 := NB398_393.out; have hs32 : w27.cell? ⟨gb398, 4, none⟩ = some (.string (⟨#[]⟩ : ByteArray)) := (blk_cell BK398.out 4).trans rfl; have hfs32 := blk_frozen BK398.out 4; have hns32_0 := NB392_398.out; have hns32_1 := NB393_398.out; have hms32_0 := NB398_392.out; have hms32_1 := NB398_393.out; have hs33 : w27.cell? ⟨gb398, 5, none⟩ = some (.int .u64 0) := (blk_cell BK398.out 5).trans rfl; have hfs33 := blk_frozen BK398.out 5; have hns33_0 := NB392_398.out; have hns33_1 := NB393_398.out; have hms33_0 := NB398_392.out; have hms33_1 := NB398_393.out; have hs34 : w27.cell? ⟨gb398, 6, none⟩ = some (.int .u64 0) := (blk_cell BK398.out 6).trans rfl; have hfs34 := blk_frozen BK398.out 6; have hns34_0 := NB392_398.out; have hns34_1 := NB393_398.out; have hms34_0 := NB398_392.out; have hms34_1 := NB398_393.out; have hs35 : w27.cell? ⟨gb398, 7, none⟩ = some (.bool false) := (blk_cell BK398.out 7).trans rfl; have hfs35 := blk_frozen BK398.out 7; have hns35_0 := NB392_398.out; have hns35_1 := NB393_398.out; have hms35_0 := NB398_392.out; have hms35_1 := NB398_393.out; refine skip_ (w1 := ?_) (by rfl) rfl ?_ ?_
     rotate_left
     ·go_simp
      rfl
     refine hK.out _ _ ⟨(kF hHeld.1), (kF hHeld.2.1), (kF hHeld.2.2.1), (kF hHeld.2.2.2.1), (kF hHeld.2.2.2.2.1), (kF hHeld.2.2.2.2.2.1), (kF hHeld.2.2.2.2.2.2.1), (kF hHeld.2.2.2.2.2.2.2)⟩ (fun hHeld => ?_)
     clear hK K; refine done_ (done_of HT_.out (by kernel_rfl)) ?_
     go_upto_region 9 with (fail)
     go_cut [43] (fun v43 wc => ∃ (kq : Nat) (x43_18 : Bool), v43 = .bool x43_18 ∧ Aside0 (tallboyref29_Command.j0 kq t394 x43_18 false a0_1 a0_2 a0_3 a0_4 a0_5 a0_6 a0_7 t394 0 0 a0_7 0 0 (!t397) = some (r1, r2, r3, r4, r5, r6, r7, r8, r9)) ∧ Aside0 (kq ≤ k) ∧ Aside0 (wc.heap[gb392]? = some (.cells #[.bool false, .int .u8 a0_1, .int .u16 a0_2, .int .u32 a0_3, .int .u64 a0_4, .string a0_5, .string a0_6, .string a0_7] 26 (0, 0))) ∧ Aside0 (wc.heap[gb393]? = some (.cells #[.int .i64 0, (.slice none 0 0), .int .u32 0, .int .i64 0, .string (⟨#[]⟩ : ByteArray), .int .u64 0, .int .u64 0, .bool false] 70 (0, 0))) ∧ Aside0 (wc.heap[gb398]? = some (.cells #[.int .i64 t394, (.slice none 0 0), .int .u32 0, .int .i64 0, .string a0_7, .int .u64 0, .int .u64 0, .bool (!t397)] 70 (0, 0))) ∧ Aside0 (Below w.heap.size w wc))
     case first =>
      have H := HC19.out; clear HC19
      by_cases c36 : t394 = 15
      ·rw [if_pos c36] at H; have c36b0 : (t394 == 15) = true := beq_iff_eq.mpr c36; have c36b1 : (t394 != 15) = false := bne_eq_false_iff_eq.mpr c36; clear c36
       (first | rw [c36b0] | (simp only [i64_w, i32_w]; rw [c36b0]) | skip)
       have H' := Aside0.mk H; clear H; have hnb37 := rP NB392_393 NB393_392; have hnb38 := rP NB392_398 NB398_392; obtain ⟨hcz39, hfz39⟩ := d8 BK392; go_wp2
       go_meet
       case rel => exact ⟨_, ((a0_6.toList != ([] : List UInt8))), (by first | rfl | (simp; done) | (simp [*]; done) | (cases a0_6.toList <;> rfl)), H', ⟨by first | omega | exact Nat.le_refl _⟩, ⟨bK BK392.out⟩, ⟨bK BK393.out⟩, ⟨bV BK398.out⟩, ⟨bH HB.out⟩⟩
      ·rw [if_neg c36] at H; have c36b0 : (t394 == 15) = false := beq_eq_false_iff_ne.mpr c36; have c36b1 : (t394 != 15) = true := bne_iff_ne.mpr c36
       (first | rw [c36b0] | (simp only [i64_w, i32_w]; rw [c36b0]) | skip)
       have H' := Aside0.mk H; clear H; go_wp2
       go_meet
       case rel => exact ⟨_, (true), (by first | rfl | (simp; done) | (simp [*]; done) | (cases a0_6.toList <;> rfl)), H', ⟨by first | omega | exact Nat.le_refl _⟩, ⟨bK BK392.out⟩, ⟨bK BK393.out⟩, ⟨bV BK398.out⟩, ⟨bH HB.out⟩⟩
     case rest =>
      clear HC19; (try clear c2); (try clear c9); (try clear c9b0); (try clear c9b1); (try clear c16); (try clear c16b0); (try clear c16b1); (try clear c17); (try clear c36); (try clear c36b0); (try clear c36b1); (try clear hcz13); (try clear hcz14); (try clear hcz23); (try clear hcz39); (try clear hcz6); (try clear hcz7); (try clear hfz13); (try clear hfz14); (try clear hfz23); (try clear hfz39); (try clear hfz6); (try clear hfz7); obtain ⟨kq, x43_18, rfl, HA, HJ18, BK392, BK393, BK398, HB⟩ := hcut; cases kq with
      | zero => exact absurd HA.out (by simp [tallboyref29_Command.j0])
      | succ kj18 =>
       have H := HA.out; clear HA; simp only [tallboyref29_Command.j0] at H; have HC40 := Aside0.mk H; clear H
       go_upto_if 43 with (fail)
       go_cut [] (fun wc => ∃ (kq : Nat) (z2 : List ByteArray) (z4 : Value), Aside0 (tallboyref29_Command.j1 kq t394 false a0_1 a0_2 a0_3 a0_4 a0_5 a0_6 a0_7 t394 z2 0 0 a0_7 0 0 (!t397) = some (r1, r2, r3, r4, r5, r6, r7, r8, r9)) ∧ Aside0 (kq ≤ kj18) ∧ Aside0 (Kd.R Kd.string 9 wc w.heap.size (fun _ => True) z4 z2) ∧ Aside0 (wc.heap[gb392]? = some (.cells #[.bool false, .int .u8 a0_1, .int .u16 a0_2, .int .u32 a0_3, .int .u64 a0_4, .string a0_5, .string a0_6, .string a0_7] 26 (0, 0))) ∧ Aside0 (wc.heap[gb393]? = some (.cells #[.int .i64 0, (.slice none 0 0), .int .u32 0, .int .i64 0, .string (⟨#[]⟩ : ByteArray), .int .u64 0, .int .u64 0, .bool false] 70 (0, 0))) ∧ Aside0 (wc.heap[gb398]? = some (.cells #[.int .i64 t394, z4, .int .u32 0, .int .i64 0, .string a0_7, .int .u64 0, .int .u64 0, .bool (!t397)] 70 (0, 0))) ∧ Aside0 (Below w.heap.size w wc))
       case first =>
        have H := HC40.out; clear HC40
        by_cases c41 : x43_18 = true
        ·subst c41; rw [if_pos rfl] at H; obtain ⟨y399, hy399⟩ : ∃ y_ : List ByteArray, y_ = (([a0_6] : List ByteArray)) := ⟨_, rfl⟩; replace H : (tallboyref29_Command.j1 kj18 t394 false a0_1 a0_2 a0_3 a0_4 a0_5 a0_6 a0_7 t394 y399 0 0 a0_7 0 0 (!t397)) = some (r1, r2, r3, r4, r5, r6, r7, r8, r9) := by first | (rw [hy399]; with_reducible exact H) | (have H2_ := (Option.bind_some _ _).symm.trans H; rw [hy399]; with_reducible exact H2_) | (have H2_ := (Option.bind_some _ _).symm.trans H; with_reducible exact H2_) | with_reducible exact H | (rw [hy399]; exact H) | exact H
         have Ny399 := Aside0.mk hy399; clear hy399; have H' := Aside0.mk H; clear H; have hnb42 := rP NB392_393 NB393_392; have hnb43 := rP NB392_398 NB398_392; obtain ⟨hcz44, hfz44⟩ := d8 BK392
         go_wp2_with (first | ((with_reducible refine gate_dst (N := 46) rfl ?_); refine Kd.R_lit Kd.string _ 9 ?hg (N := 46) ?hd (xs := ([a0_6] : List ByteArray)) (inner := [.string a0_6]) (ok := fun _ => True) (okp := fun _ => True) ?hr ?hp (fun _ hk => hk) trivial (Below.refl _ _) (Nat.le_refl _) (by simp) ?_; (case hd => rfl); (case hg => rfl); (case hr => first | (go_simp; done) | (go_simp; rfl)); (case hp => exact (Reps.one (show Kd.M Kd.string _ _ _ a0_6 [.string a0_6] from rfl) (Reps.none _ _))); intro v400 w45 ho46 hb hg_ hnew_; clear hg_ hnew_; (first | rw [← Ny399.out] at ho46 | (simp only [Int.reduceToNat] at ho46; rw [← Ny399.out] at ho46)); have HO401 := Aside0.mk (Kd.R_lower ho46 (below_size (bH HB.out))); replace BK392 := rB BK392 hb; replace BK393 := rB BK393 hb; replace BK398 := rB BK398 hb; replace HB := rS HB hb; clear hb ho46; obtain ⟨Ao47, co47, eo47⟩ := Kd.R_slice HO401.out; subst eo47; have hnb48 := rP NB398_393 NB393_398; obtain ⟨hcz49, hfz49⟩ := d8 BK398))
         go_meet
         case rel => exact ⟨_, (y399), (.slice Ao47 y399.length co47), H', ⟨by have := HJ18.out; first | omega | exact Nat.le_refl _⟩, ⟨by (with_reducible repeat (first | apply Kd.R_alloc | apply Kd.R_drewN | apply Kd.R_drew)); exact Kd.R_mono (Kd.R_far (p := ⟨gb398, 1, none⟩) (Kd.R_types HO401.out BK398.out (by decide)) (fun _ hk => hk.2) (.slice Ao47 y399.length co47)) (fun _ hk => trivial)⟩, ⟨bK BK392.out⟩, ⟨bK BK393.out⟩, ⟨bV BK398.out⟩, ⟨bH HB.out⟩⟩
        ·replace c41 := Bool.eq_false_iff.mpr c41; subst c41; rw [if_neg (show ¬ (false = true) by decide)] at H; have H' := Aside0.mk H; clear H; go_wp2
         go_meet
         case rel => exact ⟨_, (([] : List ByteArray)), (.slice none 0 0), H', ⟨by have := HJ18.out; first | omega | exact Nat.le_refl _⟩, ⟨xN⟩, ⟨bK BK392.out⟩, ⟨bK BK393.out⟩, ⟨bK BK398.out⟩, ⟨bH HB.out⟩⟩
       case rest =>
        clear HC40; (try clear c2); (try clear c9); (try clear c9b0); (try clear c9b1); (try clear c16); (try clear c16b0); (try clear c16b1); (try clear c17); (try clear c36); (try clear c36b0); (try clear c36b1); (try clear c41); (try clear hcz13); (try clear hcz14); (try clear hcz23); (try clear hcz39); (try clear hcz44); (try clear hcz49); (try clear hcz6); (try clear hcz7); (try clear hfz13); (try clear hfz14); (try clear hfz23); (try clear hfz39); (try clear hfz44); (try clear hfz49); (try clear hfz6); (try clear hfz7)
        (try clear hfz7); obtain ⟨kq, z2, z4, HA, HJ39, z0, BK392, BK393, BK398, HB⟩ := hcut; cases kq with
        | zero => exact absurd HA.out (by simp [tallboyref29_Command.j1])
        | succ kj39 =>
         have H := HA.out; clear HA; simp only [tallboyref29_Command.j1] at H; replace H := Option.bind_eq_some_iff.mp H; obtain ⟨t402, A500, H⟩ := H; (try dsimp only at H); have A50 := Aside0.mk A500; clear A500; have HC51 := Aside0.mk H; clear H; have hnb52 := rP NB392_393 NB393_392; have hnb53 := rP NB392_398 NB398_392; obtain ⟨hcz54, hfz54⟩ := d8 BK392
         go_upto_block 0 with (first | ((with_reducible refine gate_callee (f := 52) rfl ?_); refine gL (some 51) rfl rfl Try.func52 #[.int .i64 t394] rfl ?_; (with_reducible refine (tallboyref29_extras.calls kj39 t394 t402 _ A50.out).mono ?_); rintro e w' ⟨rfl, ⟨nd, rfl⟩⟩; refine ⟨_, rfl, ?_⟩))
         (try simp only [Act.put, sA, sB, sC])
         go_cut [] (fun wc => ∃ (kq : Nat) (zg : Int) (zh : Int) (zi : Int) (zj : ByteArray) (zk : Int) (zl : Int) (zm : Bool) (z5 : Int) (z6 : Int) (z7 : Int), Aside0 (tallboyref29_Command.j2 kq t394 false a0_1 a0_2 a0_3 a0_4 a0_5 a0_6 a0_7 t394 z2 z5 z6 a0_7 0 z7 (!t397) = some (r1, r2, r3, r4, r5, r6, r7, r8, r9)) ∧ Aside0 (kq ≤ kj39) ∧ Aside0 (Kd.R Kd.string 9 wc w.heap.size (fun _ => True) z4 z2) ∧ Aside0 (wc.heap[gb392]? = some (.cells #[.bool false, .int .u8 a0_1, .int .u16 a0_2, .int .u32 a0_3, .int .u64 a0_4, .string a0_5, .string a0_6, .string a0_7] 26 (0, 0))) ∧ Aside0 (wc.heap[gb393]? = some (.cells #[.int .i64 zg, (.slice none 0 0), .int .u32 zh, .int .i64 zi, .string zj, .int .u64 zk, .int .u64 zl, .bool zm] 70 (0, 0))) ∧ Aside0 (wc.heap[gb398]? = some (.cells #[.int .i64 t394, z4, .int .u32 z5, .int .i64 z6, .string a0_7, .int .u64 0, .int .u64 z7, .bool (!t397)] 70 (0, 0))) ∧ Aside0 (Below w.heap.size w wc))
         case first =>
          have H := HC51.out; clear HC51
          by_cases c55 : t402 = 8
          ·rw [if_pos c55] at H; have c55b0 : (t402 == 8) = true := beq_iff_eq.mpr c55; have c55b1 : (t402 != 8) = false := bne_eq_false_iff_eq.mpr c55; clear c55
           (first | rw [c55b0] | (simp only [i64_w, i32_w]; rw [c55b0]) | skip)
           by_cases c56 : 0 ≤ 4
           ·rw [if_pos c56] at H; have c56b0 := eq_true c56; have c56b1 : decide (0 ≤ 4) = true := decide_eq_true c56; clear c56
            by_cases c57 : 4 ≤ (a0_5.size : Int)
            ·rw [if_pos c57] at H; have c57b0 := eq_true c57; have c57b1 : decide (4 ≤ (a0_5.size : Int)) = true := decide_eq_true c57; clear c57; replace H := Option.bind_eq_some_iff.mp H; obtain ⟨t403, A580, H⟩ := H; (try dsimp only at H); have A58 := Aside0.mk A580; clear A580; have c59b0 := eq_true (of_decide_eq_true (by first | (with_reducible assumption) | assumption) : 4 ≤ (a0_5.size : Int)); replace H := Option.bind_eq_some_iff.mp H; obtain ⟨t404, A600, H⟩ := H; (try dsimp only at H); have A60 := Aside0.mk A600; clear A600; have H' := Aside0.mk H; clear H
             go_wp2_with (first | ((with_reducible refine gate_callee (f := 42) rfl ?_); refine gL (some 56) rfl rfl Try.func42 #[.string (a0_5.extract 0 4)] rfl ?_; (with_reducible refine (tallboyref29_Take.calls kj39 (a0_5.extract 0 4) t403 _ A58.out).mono ?_); rintro e w' ⟨rfl, ⟨nd, rfl⟩⟩; refine ⟨_, rfl, ?_⟩; (try simp only [World.drewN_drewN]); (try (rw [drewN_self wc]; generalize hq_ : World.drewN wc _ = wc; have n0_ : Aside0 (Kd.R Kd.string 9 wc w.heap.size (fun _ => True) z4 z2) := ⟨by rw [← hq_]; exact (by (with_reducible repeat (first | apply Kd.R_alloc | apply Kd.R_drewN | apply Kd.R_drew)); exact z0.out)⟩; have n1_ := Aside0.mk (bQ BK392.out hq_); have n2_ := Aside0.mk (bQ BK393.out hq_); have n3_ := Aside0.mk (bQ BK398.out hq_); have n4_ := Aside0.mk (bF HB.out hq_); clear z0 BK392 BK393 BK398 HB hq_; have z0 := n0_; have BK392 := n1_; have BK393 := n2_; have BK398 := n3_; have HB := n4_; clear n0_ n1_ n2_ n3_ n4_)); have hnb61 := rP NB398_392 NB392_398; have hnb62 := rP NB398_393 NB393_398; obtain ⟨hcz63, hfz63⟩ := d8 BK398) | ((with_reducible refine gate_callee (f := 42) rfl ?_); refine gL (some 61) rfl rfl Try.func42 #[.string (a0_5.extract 4 a0_5.size)] rfl ?_; (with_reducible refine (tallboyref29_Take.calls kj39 (a0_5.extract 4 a0_5.size) t404 _ A60.out).mono ?_); rintro e w' ⟨rfl, ⟨nd, rfl⟩⟩; refine ⟨_, rfl, ?_⟩))
             go_meet
             case rel => exact ⟨_, (0), (0), (0), ((⟨#[]⟩ : ByteArray)), (0), (0), (false), ((t403) % 4294967296), (wrap64 (wrap32 ((t404) % 4294967296))), (0), H', ⟨by have := HJ18.out; have := HJ39.out; first | omega | exact Nat.le_refl _⟩, ⟨by (with_reducible repeat (first | apply Kd.R_alloc | apply Kd.R_drewN | apply Kd.R_drew)); exact Kd.R_mono (Kd.R_far (p := ⟨gb398, 3, none⟩) (Kd.R_far (p := ⟨gb398, 2, none⟩) (Kd.R_types z0.out BK398.out (by decide)) (fun _ hk => hk.2) (.int .u32 ((t403) % 4294967296))) (fun _ hk => hk.2) (.int .i64 (wrap64 (wrap32 ((t404) % 4294967296))))) (fun _ hk => trivial)⟩, ⟨bK BK392.out⟩, ⟨bK BK393.out⟩, ⟨bV BK398.out⟩, ⟨bH HB.out⟩⟩
            ·rw [if_neg c57] at H; exact absurd H (by simp)
           ·rw [if_neg c56] at H; exact absurd H (by simp)
          ·rw [if_neg c55] at H; have c55b0 : (t402 == 8) = false := beq_eq_false_iff_ne.mpr c55; have c55b1 : (t402 != 8) = true := bne_iff_ne.mpr c55
           (first | rw [c55b0] | (simp only [i64_w, i32_w]; rw [c55b0]) | skip)
           by_cases c64 : t402 = 4
           ·rw [if_pos c64] at H; have c64b0 : (t402 == 4) = true := beq_iff_eq.mpr c64; have c64b1 : (t402 != 4) = false := bne_eq_false_iff_eq.mpr c64; clear c64; replace H := Option.bind_eq_some_iff.mp H; obtain ⟨t405, A650, H⟩ := H; (try dsimp only at H); have A65 := Aside0.mk A650; clear A650; have H' := Aside0.mk H; clear H
            go_wp2_with (first | ((with_reducible refine gate_callee (f := 42) rfl ?_); refine gL (some 69) rfl rfl Try.func42 #[.string a0_5] rfl ?_; (with_reducible refine (tallboyref29_Take.calls kj39 a0_5 t405 _ A65.out).mono ?_); rintro e w' ⟨rfl, ⟨nd, rfl⟩⟩; refine ⟨_, rfl, ?_⟩; (try simp only [World.drewN_drewN]); (try (rw [drewN_self wc]; generalize hq_ : World.drewN wc _ = wc; have n0_ : Aside0 (Kd.R Kd.string 9 wc w.heap.size (fun _ => True) z4 z2) := ⟨by rw [← hq_]; exact (by (with_reducible repeat (first | apply Kd.R_alloc | apply Kd.R_drewN | apply Kd.R_drew)); exact z0.out)⟩; have n1_ := Aside0.mk (bQ BK392.out hq_); have n2_ := Aside0.mk (bQ BK393.out hq_); have n3_ := Aside0.mk (bQ BK398.out hq_); have n4_ := Aside0.mk (bF HB.out hq_); clear z0 BK392 BK393 BK398 HB hq_; have z0 := n0_; have BK392 := n1_; have BK393 := n2_; have BK398 := n3_; have HB := n4_; clear n0_ n1_ n2_ n3_ n4_)); have hnb66 := rP NB398_392 NB392_398; have hnb67 := rP NB398_393 NB393_398; obtain ⟨hcz68, hfz68⟩ := d8 BK398))
            go_meet
            case rel => exact ⟨_, (0), (0), (0), ((⟨#[]⟩ : ByteArray)), (0), (0), (false), (0), (wrap64 (wrap32 ((t405) % 4294967296))), (0), H', ⟨by have := HJ18.out; have := HJ39.out; first | omega | exact Nat.le_refl _⟩, ⟨by (with_reducible repeat (first | apply Kd.R_alloc | apply Kd.R_drewN | apply Kd.R_drew)); exact Kd.R_mono (Kd.R_far (p := ⟨gb398, 3, none⟩) (Kd.R_types z0.out BK398.out (by decide)) (fun _ hk => hk.2) (.int .i64 (wrap64 (wrap32 ((t405) % 4294967296))))) (fun _ hk => trivial)⟩, ⟨bK BK392.out⟩, ⟨bK BK393.out⟩, ⟨bV BK398.out⟩, ⟨bH HB.out⟩⟩
           ·rw [if_neg c64] at H; have c64b0 : (t402 == 4) = false := beq_eq_false_iff_ne.mpr c64; have c64b1 : (t402 != 4) = true := bne_iff_ne.mpr c64
            by_cases c69 : t402 = 20
            ·rw [if_pos c69] at H; have c69b0 : (t402 == 20) = true := beq_iff_eq.mpr c69; have c69b1 : (t402 != 20) = false := bne_eq_false_iff_eq.mpr c69; clear c69
             by_cases c70 : 0 ≤ 8
             ·rw [if_pos c70] at H; have c70b0 := eq_true c70; have c70b1 : decide (0 ≤ 8) = true := decide_eq_true c70; clear c70
              by_cases c71 : 8 ≤ (a0_5.size : Int)
              ·rw [if_pos c71] at H; have c71b0 := eq_true c71; have c71b1 : decide (8 ≤ (a0_5.size : Int)) = true := decide_eq_true c71; clear c71; replace H := Option.bind_eq_some_iff.mp H; obtain ⟨t406, A720, H⟩ := H; (try dsimp only at H); have A72 := Aside0.mk A720; clear A720
               by_cases c73 : 16 ≤ (a0_5.size : Int)
               ·rw [if_pos c73] at H; have c73b0 := eq_true c73; have c73b1 : decide (16 ≤ (a0_5.size : Int)) = true := decide_eq_true c73; clear c73; replace H := Option.bind_eq_some_iff.mp H; obtain ⟨t407, A740, H⟩ := H; (try dsimp only at H); have A74 := Aside0.mk A740; clear A740
                by_cases c75 : t407 = 4294967295
                ·rw [if_pos c75] at H; have c75b0 : (t407 == 4294967295) = true := beq_iff_eq.mpr c75; have c75b1 : (t407 != 4294967295) = false := bne_eq_false_iff_eq.mpr c75; clear c75; have H' := Aside0.mk H; clear H
                 go_wp2_with (first | ((with_reducible refine gate_callee (f := 42) rfl ?_); refine gL (some 78) rfl rfl Try.func42 #[.string (a0_5.extract 0 8)] rfl ?_; (with_reducible refine (tallboyref29_Take.calls kj39 (a0_5.extract 0 8) t406 _ A72.out).mono ?_); rintro e w' ⟨rfl, ⟨nd, rfl⟩⟩; refine ⟨_, rfl, ?_⟩; (try simp only [World.drewN_drewN]); (try (rw [drewN_self wc]; generalize hq_ : World.drewN wc _ = wc; have n0_ : Aside0 (Kd.R Kd.string 9 wc w.heap.size (fun _ => True) z4 z2) := ⟨by rw [← hq_]; exact (by (with_reducible repeat (first | apply Kd.R_alloc | apply Kd.R_drewN | apply Kd.R_drew)); exact z0.out)⟩; have n1_ := Aside0.mk (bQ BK392.out hq_); have n2_ := Aside0.mk (bQ BK393.out hq_); have n3_ := Aside0.mk (bQ BK398.out hq_); have n4_ := Aside0.mk (bF HB.out hq_); clear z0 BK392 BK393 BK398 HB hq_; have z0 := n0_; have BK392 := n1_; have BK393 := n2_; have BK398 := n3_; have HB := n4_; clear n0_ n1_ n2_ n3_ n4_)); have hnb76 := rP NB398_392 NB392_398; have hnb77 := rP NB398_393 NB393_398; obtain ⟨hcz78, hfz78⟩ := d8 BK398) | ((with_reducible refine gate_callee (f := 42) rfl ?_); refine gL (some 82) rfl rfl Try.func42 #[.string (a0_5.extract 16 a0_5.size)] rfl ?_; (with_reducible refine (tallboyref29_Take.calls kj39 (a0_5.extract 16 a0_5.size) t407 _ A74.out).mono ?_); rintro e w' ⟨rfl, ⟨nd, rfl⟩⟩; refine ⟨_, rfl, ?_⟩))
                 go_meet
                 case rel => exact ⟨_, (0), (0), (0), ((⟨#[]⟩ : ByteArray)), (0), (0), (false), (0), (0), (t406), H', ⟨by have := HJ18.out; have := HJ39.out; first | omega | exact Nat.le_refl _⟩, ⟨by (with_reducible repeat (first | apply Kd.R_alloc | apply Kd.R_drewN | apply Kd.R_drew)); exact Kd.R_mono (Kd.R_far (p := ⟨gb398, 6, none⟩) (Kd.R_types z0.out BK398.out (by decide)) (fun _ hk => hk.2) (.int .u64 t406)) (fun _ hk => trivial)⟩, ⟨bK BK392.out⟩, ⟨bK BK393.out⟩, ⟨bV BK398.out⟩, ⟨bH HB.out⟩⟩
                ·rw [if_neg c75] at H; have c75b0 : (t407 == 4294967295) = false := beq_eq_false_iff_ne.mpr c75; have c75b1 : (t407 != 4294967295) = true := bne_iff_ne.mpr c75; simp only [Option.some.injEq, Prod.mk.injEq] at H; obtain ⟨rfl, rfl, rfl, rfl, rfl, rfl, rfl, rfl, rfl⟩ := H
                 go_wp2_with (first | ((with_reducible refine gate_callee (f := 42) rfl ?_); refine gL (some 78) rfl rfl Try.func42 #[.string (a0_5.extract 0 8)] rfl ?_; (with_reducible refine (tallboyref29_Take.calls kj39 (a0_5.extract 0 8) t406 _ A72.out).mono ?_); rintro e w' ⟨rfl, ⟨nd, rfl⟩⟩; refine ⟨_, rfl, ?_⟩; (try simp only [World.drewN_drewN]); (try (rw [drewN_self wc]; generalize hq_ : World.drewN wc _ = wc; have n0_ : Aside0 (Kd.R Kd.string 9 wc w.heap.size (fun _ => True) z4 z2) := ⟨by rw [← hq_]; exact (by (with_reducible repeat (first | apply Kd.R_alloc | apply Kd.R_drewN | apply Kd.R_drew)); exact z0.out)⟩; have n1_ := Aside0.mk (bQ BK392.out hq_); have n2_ := Aside0.mk (bQ BK393.out hq_); have n3_ := Aside0.mk (bQ BK398.out hq_); have n4_ := Aside0.mk (bF HB.out hq_); clear z0 BK392 BK393 BK398 HB hq_; have z0 := n0_; have BK392 := n1_; have BK393 := n2_; have BK398 := n3_; have HB := n4_; clear n0_ n1_ n2_ n3_ n4_)); have hnb79 := rP NB398_392 NB392_398; have hnb80 := rP NB398_393 NB393_398; obtain ⟨hcz81, hfz81⟩ := d8 BK398) | ((with_reducible refine gate_callee (f := 42) rfl ?_); refine gL (some 82) rfl rfl Try.func42 #[.string (a0_5.extract 16 a0_5.size)] rfl ?_; (with_reducible refine (tallboyref29_Take.calls kj39 (a0_5.extract 16 a0_5.size) t407 _ A74.out).mono ?_); rintro e w' ⟨rfl, ⟨nd, rfl⟩⟩; refine ⟨_, rfl, ?_⟩; have hnb82 := rP NB393_392 NB392_393; obtain ⟨hcz83, hfz83⟩ := d8 BK393))
                 refine bodyPost_ret (results_ct rfl _ _ gb393 70 #[.int .i64 0, .slice none 0 0, .int .u32 0, .int .i64 0, .string (⟨#[]⟩ : ByteArray), .int .u64 0, .int .u64 0, .bool false] (0, 0) _ rfl (bV BK393.out) Try.underlying70 rfl (by kernel_rfl)) rfl ?_
                 exact ⟨_, xR, xN, bH HB.out⟩
               ·rw [if_neg c73] at H; exact absurd H (by simp)
              ·rw [if_neg c71] at H; exact absurd H (by simp)
             ·rw [if_neg c70] at H; exact absurd H (by simp)
            ·rw [if_neg c69] at H; have c69b0 : (t402 == 20) = false := beq_eq_false_iff_ne.mpr c69; have c69b1 : (t402 != 20) = true := bne_iff_ne.mpr c69; have H' := Aside0.mk H; clear H; go_wp2
             go_meet
             case rel => exact ⟨_, (0), (0), (0), ((⟨#[]⟩ : ByteArray)), (0), (0), (false), (0), (0), (0), H', ⟨by have := HJ18.out; have := HJ39.out; first | omega | exact Nat.le_refl _⟩, ⟨by (with_reducible repeat (first | apply Kd.R_alloc | apply Kd.R_drewN | apply Kd.R_drew)); exact z0.out⟩, ⟨bK BK392.out⟩, ⟨bK BK393.out⟩, ⟨bK BK398.out⟩, ⟨bH HB.out⟩⟩
         case rest =>
          clear HC51; (try clear c2); (try clear c9); (try clear c9b0); (try clear c9b1); (try clear c16); (try clear c16b0); (try clear c16b1); (try clear c17); (try clear c36); (try clear c36b0); (try clear c36b1); (try clear c41); (try clear c55); (try clear c55b0); (try clear c55b1); (try clear c56); (try clear c56b0); (try clear c56b1); (try clear c57); (try clear c57b0); (try clear c57b1); (try clear c59b0); (try clear c64); (try clear c64b0); (try clear c64b1); (try clear c69); (try clear c69b0); (try clear c69b1); (try clear c70); (try clear c70b0); (try clear c70b1); (try clear c71); (try clear c71b0); (try clear c71b1); (try clear c73); (try clear c73b0); (try clear c73b1); (try clear c75); (try clear c75b0); (try clear c75b1); (try clear hcz13); (try clear hcz14); (try clear hcz23); (try clear hcz39); (try clear hcz44); (try clear hcz49); (try clear hcz54); (try clear hcz63); (try clear hcz68); (try clear hcz6); (try clear hcz78)
          (try clear hcz78); (try clear hcz7); (try clear hcz81); (try clear hcz83); (try clear hfz13); (try clear hfz14); (try clear hfz23); (try clear hfz39); (try clear hfz44); (try clear hfz49); (try clear hfz54); (try clear hfz63); (try clear hfz68); (try clear hfz6); (try clear hfz78); (try clear hfz7); (try clear hfz81); (try clear hfz83)
          ; obtain ⟨kq, zg, zh, zi, zj, zk, zl, zm, z5, z6, z7, HA, HJ50, z0, BK392, BK393, BK398, HB⟩ := hcut; cases kq with
          | zero => exact absurd HA.out (by simp [tallboyref29_Command.j2])
          | succ kj50 =>
           have H := HA.out; clear HA; simp only [tallboyref29_Command.j2] at H; have HC84 := Aside0.mk H; clear H; have hnb85 := rP NB392_393 NB393_392; have hnb86 := rP NB392_398 NB398_392; obtain ⟨hcz87, hfz87⟩ := d8 BK392
           go_upto_if 87 with (fail)
           go_cut [] (fun wc => ∃ (kq : Nat) (zu : Int) (zv : Int) (zw : Int) (zx : ByteArray) (zy : Int) (zz : Int) (z00 : Bool) (zc : Int) (zd : Int), Aside0 (tallboyref29_Command.j3 kq zc z2 z5 z6 a0_7 zd z7 (!t397) = some (r1, r2, r3, r4, r5, r6, r7, r8, r9)) ∧ Aside0 (kq ≤ kj50) ∧ Aside0 (Kd.R Kd.string 9 wc w.heap.size (fun _ => True) z4 z2) ∧ Aside0 (wc.heap[gb392]? = some (.cells #[.bool false, .int .u8 a0_1, .int .u16 a0_2, .int .u32 a0_3, .int .u64 a0_4, .string a0_5, .string a0_6, .string a0_7] 26 (0, 0))) ∧ Aside0 (wc.heap[gb393]? = some (.cells #[.int .i64 zu, (.slice none 0 0), .int .u32 zv, .int .i64 zw, .string zx, .int .u64 zy, .int .u64 zz, .bool z00] 70 (0, 0))) ∧ Aside0 (wc.heap[gb398]? = some (.cells #[.int .i64 zc, z4, .int .u32 z5, .int .i64 z6, .string a0_7, .int .u64 zd, .int .u64 z7, .bool (!t397)] 70 (0, 0))) ∧ Aside0 (Below w.heap.size w wc))
           case first =>
            have H := HC84.out; clear HC84
            by_cases c88 : a0_4 = 0
            ·rw [if_pos c88] at H; have c88b0 : (a0_4 == 0) = true := beq_iff_eq.mpr c88; have c88b1 : (a0_4 != 0) = false := bne_eq_false_iff_eq.mpr c88; clear c88
             (first | rw [c88b0] | (simp only [i64_w, i32_w]; rw [c88b0]) | skip)
             have H' := Aside0.mk H; clear H; go_wp2
             go_meet
             case rel => exact ⟨_, (zg), (zh), (zi), (zj), (zk), (zl), (zm), (t394), (0), H', ⟨by have := HJ18.out; have := HJ39.out; have := HJ50.out; first | omega | exact Nat.le_refl _⟩, ⟨by (with_reducible repeat (first | apply Kd.R_alloc | apply Kd.R_drewN | apply Kd.R_drew)); exact z0.out⟩, ⟨bK BK392.out⟩, ⟨bK BK393.out⟩, ⟨bK BK398.out⟩, ⟨bH HB.out⟩⟩
            ·rw [if_neg c88] at H; have c88b0 : (a0_4 == 0) = false := beq_eq_false_iff_ne.mpr c88; have c88b1 : (a0_4 != 0) = true := bne_iff_ne.mpr c88
             (first | rw [c88b0] | (simp only [i64_w, i32_w]; rw [c88b0]) | skip)
             by_cases c89 : t394 = 5
             ·rw [if_pos c89] at H; have c89b0 : (t394 == 5) = true := beq_iff_eq.mpr c89; have c89b1 : (t394 != 5) = false := bne_eq_false_iff_eq.mpr c89; clear c89; have H' := Aside0.mk H; clear H; have hnb90 := rP NB398_392 NB392_398; have hnb91 := rP NB398_393 NB393_398; obtain ⟨hcz92, hfz92⟩ := d8 BK398; have hnb93 := rP NB392_393 NB393_392; obtain ⟨hcz94, hfz94⟩ := d8 BK392; go_wp2
              go_meet
              case rel => exact ⟨_, (zg), (zh), (zi), (zj), (zk), (zl), (zm), (10), (a0_4), H', ⟨by have := HJ18.out; have := HJ39.out; have := HJ50.out; first | omega | exact Nat.le_refl _⟩, ⟨by (with_reducible repeat (first | apply Kd.R_alloc | apply Kd.R_drewN | apply Kd.R_drew)); exact Kd.R_mono (Kd.R_far (p := ⟨gb398, 5, none⟩) (Kd.R_far (p := ⟨gb398, 0, none⟩) (Kd.R_types z0.out BK398.out (by decide)) (fun _ hk => hk.2) (.int .i64 10)) (fun _ hk => hk.2) (.int .u64 a0_4)) (fun _ hk => trivial)⟩, ⟨bK BK392.out⟩, ⟨bK BK393.out⟩, ⟨bV BK398.out⟩, ⟨bH HB.out⟩⟩
             ·rw [if_neg c89] at H; have c89b0 : (t394 == 5) = false := beq_eq_false_iff_ne.mpr c89; have c89b1 : (t394 != 5) = true := bne_iff_ne.mpr c89
              by_cases c95 : t394 = 7
              ·rw [if_pos c95] at H; have c95b0 : (t394 == 7) = true := beq_iff_eq.mpr c95; have c95b1 : (t394 != 7) = false := bne_eq_false_iff_eq.mpr c95; clear c95; have H' := Aside0.mk H; clear H; have hnb96 := rP NB398_392 NB392_398; have hnb97 := rP NB398_393 NB393_398; obtain ⟨hcz98, hfz98⟩ := d8 BK398; have hnb99 := rP NB392_393 NB393_392; obtain ⟨hcz100, hfz100⟩ := d8 BK392; go_wp2
               go_meet
               case rel => exact ⟨_, (zg), (zh), (zi), (zj), (zk), (zl), (zm), (10), (a0_4), H', ⟨by have := HJ18.out; have := HJ39.out; have := HJ50.out; first | omega | exact Nat.le_refl _⟩, ⟨by (with_reducible repeat (first | apply Kd.R_alloc | apply Kd.R_drewN | apply Kd.R_drew)); exact Kd.R_mono (Kd.R_far (p := ⟨gb398, 5, none⟩) (Kd.R_far (p := ⟨gb398, 0, none⟩) (Kd.R_types z0.out BK398.out (by decide)) (fun _ hk => hk.2) (.int .i64 10)) (fun _ hk => hk.2) (.int .u64 a0_4)) (fun _ hk => trivial)⟩, ⟨bK BK392.out⟩, ⟨bK BK393.out⟩, ⟨bV BK398.out⟩, ⟨bH HB.out⟩⟩
              ·rw [if_neg c95] at H; have c95b0 : (t394 == 7) = false := beq_eq_false_iff_ne.mpr c95; have c95b1 : (t394 != 7) = true := bne_iff_ne.mpr c95; simp only [Option.some.injEq, Prod.mk.injEq] at H; obtain ⟨rfl, rfl, rfl, rfl, rfl, rfl, rfl, rfl, rfl⟩ := H; have hnb101 := rP NB393_392 NB392_393; have hnb102 := rP NB393_398 NB398_393; obtain ⟨hcz103, hfz103⟩ := d8 BK393; go_wp2; refine bodyPost_ret (results_ct rfl _ _ gb393 70 #[.int .i64 0, .slice none 0 0, .int .u32 0, .int .i64 0, .string (⟨#[]⟩ : ByteArray), .int .u64 0, .int .u64 0, .bool false] (0, 0) _ rfl (bV BK393.out) Try.underlying70 rfl (by kernel_rfl)) rfl ?_
               exact ⟨_, xR, xN, bH HB.out⟩
           case rest =>
            clear HC84; (try clear c2); (try clear c9); (try clear c9b0); (try clear c9b1); (try clear c16); (try clear c16b0); (try clear c16b1); (try clear c17); (try clear c36); (try clear c36b0); (try clear c36b1); (try clear c41); (try clear c55); (try clear c55b0); (try clear c55b1); (try clear c56); (try clear c56b0); (try clear c56b1); (try clear c57); (try clear c57b0); (try clear c57b1); (try clear c59b0); (try clear c64); (try clear c64b0); (try clear c64b1); (try clear c69); (try clear c69b0); (try clear c69b1); (try clear c70); (try clear c70b0); (try clear c70b1); (try clear c71); (try clear c71b0); (try clear c71b1); (try clear c73); (try clear c73b0); (try clear c73b1); (try clear c75); (try clear c75b0); (try clear c75b1); (try clear c88); (try clear c88b0); (try clear c88b1); (try clear c89); (try clear c89b0); (try clear c89b1); (try clear c95); (try clear c95b0); (try clear c95b1); (try clear hcz100); (try clear hcz103); (try clear hcz13); (try clear hcz14); (try clear hcz23); (try clear hcz39); (try clear hcz44); (try clear hcz49)
            (try clear hcz49); (try clear hcz54); (try clear hcz63); (try clear hcz68); (try clear hcz6); (try clear hcz78); (try clear hcz7); (try clear hcz81); (try clear hcz83); (try clear hcz87); (try clear hcz92); (try clear hcz94); (try clear hcz98); (try clear hfz100); (try clear hfz103); (try clear hfz13); (try clear hfz14); (try clear hfz23); (try clear hfz39)
            (try clear hfz39); (try clear hfz44); (try clear hfz49); (try clear hfz54); (try clear hfz63); (try clear hfz68); (try clear hfz6); (try clear hfz78); (try clear hfz7); (try clear hfz81); (try clear hfz83); (try clear hfz87); (try clear hfz92); (try clear hfz94); (try clear hfz98); obtain ⟨kq, zu, zv, zw, zx, zy, zz, z00, zc, zd, HA, HJ83, z0, BK392, BK393, BK398, HB⟩ := hcut; cases kq with
            | zero => exact absurd HA.out (by simp [tallboyref29_Command.j3])
            | succ kj83 =>
             have H := HA.out; clear HA; simp only [tallboyref29_Command.j3] at H; replace H := Option.bind_eq_some_iff.mp H; obtain ⟨t408, z10, H⟩ := H; (try dsimp only at H); have A104 := Aside0.mk z10; clear z10
             by_cases c105 : t408 = 0
             ·rw [if_pos c105] at H; have c105b0 : (t408 == 0) = true := beq_iff_eq.mpr c105; have c105b1 : (t408 != 0) = false := bne_eq_false_iff_eq.mpr c105; clear c105; simp only [Option.some.injEq, Prod.mk.injEq] at H; obtain ⟨rfl, rfl, rfl, rfl, rfl, rfl, rfl, rfl, rfl⟩ := H; have hnb106 := rP NB398_392 NB392_398; have hnb107 := rP NB398_393 NB393_398; obtain ⟨hcz108, hfz108⟩ := d8 BK398; obtain ⟨Ao109, co109, eo109⟩ := Kd.R_slice z0.out; subst eo109
              go_wp2_with (first | ((with_reducible refine gate_callee (f := 53) rfl ?_); refine gL (some 100) rfl rfl Try.func53 #[.agg #[.int .i64 zc, .slice Ao109 z2.length co109, .int .u32 z5, .int .i64 z6, .string a0_7, .int .u64 zd, .int .u64 z7, .bool (!t397)]] rfl ?_; (with_reducible refine (tallboyref15_Check.calls kj83 zc _ _ z2 z5 z6 a0_7 zd z7 (!t397) t408 _ ?side1 ?side2 A104.out).mono ?_); (case side1 => repeat (first | exact (Kd.R_reads' z0.out).2.2 | (with_reducible refine Kd.C_alloc ?_ _) | (with_reducible refine Kd.C_drewN ?_ _) | (with_reducible refine Kd.C_drew ?_))); (case side2 => exact (Kd.R_reads' z0.out).2.1); rintro e w110 ⟨rfl, hb⟩; refine ⟨_, rfl, ?_⟩; replace z0 := Aside0.mk (Kd.R_below (by (with_reducible repeat (first | apply Kd.R_alloc | apply Kd.R_drewN | apply Kd.R_drew)); exact z0.out) hb); replace BK392 := rB BK392 hb; replace BK393 := rB BK393 hb; replace BK398 := rB BK398 hb; replace HB := rS HB hb; (try clear hb); (try clear hk); obtain ⟨hcz111, hfz111⟩ := d8 BK398; have hnb112 := rP NB393_392 NB392_393; obtain ⟨hcz113, hfz113⟩ := d8 BK393))
              refine bodyPost_ret (results_ct rfl _ _ gb393 70 #[.int .i64 zc, .slice Ao109 z2.length co109, .int .u32 z5, .int .i64 z6, .string a0_7, .int .u64 zd, .int .u64 z7, .bool (!t397)] (0, 0) _ rfl (bV BK393.out) Try.underlying70 rfl (by kernel_rfl)) rfl ?_
              exact ⟨_, xR, by (with_reducible repeat (first | apply Kd.R_alloc | apply Kd.R_drewN | apply Kd.R_drew)); exact Kd.R_mono (Kd.R_far (p := ⟨gb393, 7, none⟩) (Kd.R_far (p := ⟨gb393, 6, none⟩) (Kd.R_far (p := ⟨gb393, 5, none⟩) (Kd.R_far (p := ⟨gb393, 4, none⟩) (Kd.R_far (p := ⟨gb393, 3, none⟩) (Kd.R_far (p := ⟨gb393, 2, none⟩) (Kd.R_far (p := ⟨gb393, 1, none⟩) (Kd.R_far (p := ⟨gb393, 0, none⟩) (Kd.R_types z0.out BK393.out (by decide)) (fun _ hk => hk.2) (.int .i64 zc)) (fun _ hk => hk.2) (.slice Ao109 z2.length co109)) (fun _ hk => hk.2) (.int .u32 z5)) (fun _ hk => hk.2) (.int .i64 z6)) (fun _ hk => hk.2) (.string a0_7)) (fun _ hk => hk.2) (.int .u64 zd)) (fun _ hk => hk.2) (.int .u64 z7)) (fun _ hk => hk.2) (.bool (!t397))) (fun _ hk => trivial), bH HB.out⟩
             ·rw [if_neg c105] at H; have c105b0 : (t408 == 0) = false := beq_eq_false_iff_ne.mpr c105; have c105b1 : (t408 != 0) = true := bne_iff_ne.mpr c105; simp only [Option.some.injEq, Prod.mk.injEq] at H; obtain ⟨rfl, rfl, rfl, rfl, rfl, rfl, rfl, rfl, rfl⟩ := H; have hnb114 := rP NB398_392 NB392_398; have hnb115 := rP NB398_393 NB393_398; obtain ⟨hcz116, hfz116⟩ := d8 BK398; obtain ⟨Ao117, co117, eo117⟩ := Kd.R_slice z0.out; subst eo117
              go_wp2_with (first | ((with_reducible refine gate_callee (f := 53) rfl ?_); refine gL (some 100) rfl rfl Try.func53 #[.agg #[.int .i64 zc, .slice Ao117 z2.length co117, .int .u32 z5, .int .i64 z6, .string a0_7, .int .u64 zd, .int .u64 z7, .bool (!t397)]] rfl ?_; (with_reducible refine (tallboyref15_Check.calls kj83 zc _ _ z2 z5 z6 a0_7 zd z7 (!t397) t408 _ ?side1 ?side2 A104.out).mono ?_); (case side1 => repeat (first | exact (Kd.R_reads' z0.out).2.2 | (with_reducible refine Kd.C_alloc ?_ _) | (with_reducible refine Kd.C_drewN ?_ _) | (with_reducible refine Kd.C_drew ?_))); (case side2 => exact (Kd.R_reads' z0.out).2.1); rintro e w118 ⟨rfl, hb⟩; refine ⟨_, rfl, ?_⟩; replace z0 := Aside0.mk (Kd.R_below (by (with_reducible repeat (first | apply Kd.R_alloc | apply Kd.R_drewN | apply Kd.R_drew)); exact z0.out) hb); replace BK392 := rB BK392 hb; replace BK393 := rB BK393 hb; replace BK398 := rB BK398 hb; replace HB := rS HB hb; (try clear hb); (try clear hk); have hnb119 := rP NB393_392 NB392_393; obtain ⟨hcz120, hfz120⟩ := d8 BK393))
              refine bodyPost_ret (results_ct rfl _ _ gb393 70 #[.int .i64 0, .slice none 0 0, .int .u32 0, .int .i64 0, .string (⟨#[]⟩ : ByteArray), .int .u64 0, .int .u64 0, .bool false] (0, 0) _ rfl (bV BK393.out) Try.underlying70 rfl (by kernel_rfl)) rfl ?_
              exact ⟨_, xR, xN, bH HB.out⟩
    ·replace c17 := Bool.eq_false_iff.mpr c17; subst c17; rw [if_neg (show ¬ (false = true) by decide)] at H; have HC121 := Aside0.mk H; clear H; go_enter Try.func31, Try.ntmps31
     try go_wp2_with (first | ((with_reducible refine gate_dst (N := 1) rfl ?_); refine bE 1 #[.bool false, .int .u8 a0_1, .int .u16 a0_2, .int .u32 a0_3, .int .u64 a0_4, .string a0_5, .string a0_6, .string a0_7] 26 rfl rfl ?_; intro gb392 hg w122 hbox hb; have BK392 := rM hbox; have GW392 := rG HB hg; replace HB := rS HB hb; have GE392 := GW392; clear hb hbox hg) | ((with_reducible refine gate_dst (N := 2) rfl ?_); refine bE 2 #[.int .i64 0, .slice none 0 0, .int .u32 0, .int .i64 0, .string (⟨#[]⟩ : ByteArray), .int .u64 0, .int .u64 0, .bool false] 70 rfl rfl ?_; intro gb393 hg w123 hbox hb; have BK393 := rM hbox; have GW393 := rG HB hg; replace HB := rS HB hb; have GE393 := GW393; have NB392_393 := rN BK392 hg; replace BK392 := rB BK392 hb; have NB393_392 := rY NB392_393; clear hb hbox hg; have hnb124 := rP NB392_393 NB393_392; obtain ⟨hcz125, hfz125⟩ := d8 BK392) | ((with_reducible refine gate_callee (f := 47) rfl ?_); refine gL (some 14) rfl rfl Try.func47 #[.int .u8 a0_1] rfl ?_; (with_reducible refine (tallboyref29_op.calls k a0_1 t394 false _ A8.out).mono ?_); rintro e w' ⟨rfl, ⟨nd, rfl⟩⟩; refine ⟨_, rfl, ?_⟩; (try simp only [World.drewN_drewN]); (try (rw [drewN_self w123]; generalize hq_ : World.drewN w123 _ = w123; have n0_ := Aside0.mk (bQ BK392.out hq_); have n1_ := Aside0.mk (bQ BK393.out hq_); have n2_ := Aside0.mk (bF HB.out hq_); clear BK392 BK393 HB hq_; have BK392 := n0_; have BK393 := n1_; have HB := n2_; clear n0_ n1_ n2_))))
     replace BK392 := Aside0.mk (bD BK392.out); replace BK393 := Aside0.mk (bD BK393.out); replace HB := Aside0.mk (eD HB.out); refine start_ (n := 6) (S := fun w' => w'.cell? ⟨gb392, 0, none⟩ = some (.bool false) ∧ w'.cell? ⟨gb392, 1, none⟩ = some (.int .u8 a0_1) ∧ w'.cell? ⟨gb392, 2, none⟩ = some (.int .u16 a0_2) ∧ w'.cell? ⟨gb392, 3, none⟩ = some (.int .u32 a0_3) ∧ w'.cell? ⟨gb392, 4, none⟩ = some (.int .u64 a0_4) ∧ w'.cell? ⟨gb392, 5, none⟩ = some (.string a0_5) ∧ w'.cell? ⟨gb392, 6, none⟩ = some (.string a0_6) ∧ w'.cell? ⟨gb392, 7, none⟩ = some (.string a0_7)) (ds := []) #[false, false, false, false, false, false] (by kernel_rfl) rfl rfl ⟨kC BK392 0, kC BK392 1, kC BK392 2, kC BK392 3, kC BK392 4, kC BK392 5, kC BK392 6, kC BK392 7⟩ (fun hHeld => ?_)
     generalize w123.drew = w126 at BK392 BK393 HB hHeld ⊢; refine pure_ (i := 0) (N := some 20) (v := ?_) (a' := ?_) #[true, false, false, false, false, false] rfl rfl (by kernel_rfl) (fun _ _ _ h => h) (Or.inl ⟨by rfl, ?_⟩) ?_ ?_
     rotate_left
     ·intro w'
      go_simp
      with_reducible rfl
     rotate_left
     ·simp only [Act.put, sA, sB, sC, i64_w, i32_w]
      rfl
     refine pure_ (i := 3) (N := some 23) (v := ?_) (a' := ?_) #[true, false, false, true, false, false] rfl rfl (by kernel_rfl) (fun _ _ _ h => h) (Or.inl ⟨by rfl, ?_⟩) ?_ ?_
     rotate_left
     ·intro w'
      go_simp
      with_reducible rfl
     rotate_left
     ·simp only [Act.put, sA, sB, sC, i64_w, i32_w]
      rfl
     refine take_ (i := 1) (N := some 21) (v := ?_) (a' := ?_) #[true, true, false, true, false, false] rfl rfl (by kernel_rfl) (fun _ _ _ h => h) (Or.inl ⟨by rfl, ?_⟩) hHeld ?_ ?_
     rotate_left
     ·rintro w' ⟨s0, s1, s2, s3, s4, s5, s6, s7⟩
      go_simp
      with_reducible rfl
     rotate_left
     ·simp only [Act.put, sA, sB, sC, i64_w, i32_w]
      rfl
     refine pure_ (i := 2) (N := some 22) (v := ?_) (a' := ?_) #[true, true, true, true, false, false] rfl rfl (by kernel_rfl) (fun _ _ _ h => h) (Or.inl ⟨by rfl, ?_⟩) ?_ ?_
     rotate_left
     ·intro w'
      go_simp
      with_reducible rfl
     rotate_left
     ·simp only [Act.put, sA, sB, sC, i64_w, i32_w]
      rfl
     refine one_ (i := 4) (N := some 24) #[true, true, true, true, true, false] rfl rfl (by kernel_rfl) (by decide) (fun K hK => ?_)
     refine goes_ Try.func52 (by kernel_rfl) rfl #[.int .i64 t394] (by rfl) rfl rfl (by (try simp only [List.map_toArray, List.map_cons, List.map_nil]); first | done | rfl | (simp only [List.length_drop, List.length_take]; rfl)) ?_
     with_reducible refine (tallboyref29_extras.calls k t394 t396 _ A15.out).mono ?_
     rintro e w' ⟨rfl, ⟨nd, rfl⟩⟩
     refine ⟨_, rfl, ?_⟩
     refine hK.out _ _ ⟨kC BK392 0, kC BK392 1, kC BK392 2, kC BK392 3, kC BK392 4, kC BK392 5, kC BK392 6, kC BK392 7⟩ (fun hHeld => ?_)
     clear hK K; refine norm_ (a' := ?_) ?_ ?_
     rotate_left
     ·show Act.put _ (some 24) _ = _
      simp only [Act.put, sA, sB, sC, i64_w, i32_w]
      rfl
     refine pure_ (i := 5) (N := some 25) (v := ?_) (a' := ?_) #[true, true, true, true, true, true] rfl rfl (by kernel_rfl) (fun _ _ _ h => h) (Or.inl ⟨by rfl, ?_⟩) ?_ ?_
     rotate_left
     ·intro w'
      go_simp
      with_reducible rfl
     rotate_left
     ·simp only [Act.put, sA, sB, sC, i64_w, i32_w]
      rfl
     refine done_ (by kernel_rfl) ?_
     try go_wp2
     (try simp only [World.drewN_drewN]); (try (rw [drewN_self w126]; generalize hq_ : World.drewN w126 _ = w126; have n0_ := Aside0.mk (bQ BK392.out hq_); have n1_ := Aside0.mk (bQ BK393.out hq_); have n2_ := Aside0.mk (bF HB.out hq_); clear BK392 BK393 HB hq_; have BK392 := n0_; have BK393 := n1_; have HB := n2_; clear n0_ n1_ n2_))
     replace BK392 := Aside0.mk (bD BK392.out); replace BK393 := Aside0.mk (bD BK393.out); replace HB := Aside0.mk (eD HB.out); refine start_ (n := 12) (S := fun w' => w'.cell? ⟨gb392, 0, none⟩ = some (.bool false) ∧ w'.cell? ⟨gb392, 1, none⟩ = some (.int .u8 a0_1) ∧ w'.cell? ⟨gb392, 2, none⟩ = some (.int .u16 a0_2) ∧ w'.cell? ⟨gb392, 3, none⟩ = some (.int .u32 a0_3) ∧ w'.cell? ⟨gb392, 4, none⟩ = some (.int .u64 a0_4) ∧ w'.cell? ⟨gb392, 5, none⟩ = some (.string a0_5) ∧ w'.cell? ⟨gb392, 6, none⟩ = some (.string a0_6) ∧ w'.cell? ⟨gb392, 7, none⟩ = some (.string a0_7)) (ds := []) #[false, false, false, false, false, false, false, false, false, false, false, false] (by kernel_rfl) rfl rfl ⟨kC BK392 0, kC BK392 1, kC BK392 2, kC BK392 3, kC BK392 4, kC BK392 5, kC BK392 6, kC BK392 7⟩ (fun hHeld => ?_); refine with_tabW tallboyref29_Command.tab8 tallboyref29_Command.bits8 (fun HT_ HW_ => ?_)
     generalize w126.drew = w127 at BK392 BK393 HB hHeld ⊢; refine pU HT_ 0 (some 27) ?_ #[true, false, false, false, false, false, false, false, false, false, false, false] rfl rfl ?_ ?_ ?_ ?_
     rotate_left
     ·intro w'
      go_simp
      with_reducible rfl
     rotate_left
     ·simp only [Act.put, sA, sB, sC, i64_w, i32_w]
      rfl
     refine pU HT_ 1 (some 28) ?_ #[true, true, false, false, false, false, false, false, false, false, false, false] rfl rfl ?_ ?_ ?_ ?_
     rotate_left
     ·intro w'
      go_simp
      with_reducible rfl
     rotate_left
     ·simp only [Act.put, sA, sB, sC, i64_w, i32_w]
      rfl
     refine pU HT_ 3 (some 30) ?_ #[true, true, false, true, false, false, false, false, false, false, false, false] rfl rfl ?_ ?_ ?_ ?_
     rotate_left
     ·intro w'
      go_simp
      with_reducible rfl
     rotate_left
     ·simp only [Act.put, sA, sB, sC, i64_w, i32_w]
      rfl
     refine pU HT_ 4 (some 31) ?_ #[true, true, false, true, true, false, false, false, false, false, false, false] rfl rfl ?_ ?_ ?_ ?_
     rotate_left
     ·intro w'
      go_simp
      with_reducible rfl
     rotate_left
     ·simp only [Act.put, sA, sB, sC, i64_w, i32_w]
      rfl
     refine pure_ (i := 5) (N := some 32) (v := undef) (a' := ?_) #[true, true, false, true, true, true, false, false, false, false, false, false] rfl rfl (any_of HT_.out (by kernel_rfl)) (fun _ _ _ h => h) (Or.inr ⟨by rfl, rfl⟩) ?_ ?_
     rotate_left
     ·simp only [Act.put, sA, sB, sC, i64_w, i32_w]
      rfl
     refine pure_ (i := 6) (N := some 33) (v := undef) (a' := ?_) #[true, true, false, true, true, true, true, false, false, false, false, false] rfl rfl (any_of HT_.out (by kernel_rfl)) (fun _ _ _ h => h) (Or.inr ⟨by rfl, rfl⟩) ?_ ?_
     rotate_left
     ·simp only [Act.put, sA, sB, sC, i64_w, i32_w]
      rfl
     refine pure_ (i := 7) (N := some 34) (v := undef) (a' := ?_) #[true, true, false, true, true, true, true, true, false, false, false, false] rfl rfl (any_of HT_.out (by kernel_rfl)) (fun _ _ _ h => h) (Or.inr ⟨by rfl, rfl⟩) ?_ ?_
     rotate_left
     ·simp only [Act.put, sA, sB, sC, i64_w, i32_w]
      rfl
     refine pU HT_ 8 (some 35) ?_ #[true, true, false, true, true, true, true, true, true, false, false, false] rfl rfl ?_ ?_ ?_ ?_
     rotate_left
     ·intro w'
      go_simp
      with_reducible rfl
     rotate_left
     ·simp only [Act.put, sA, sB, sC, i64_w, i32_w]
      rfl
     refine tU HT_ HW_ hHeld 2 (some 29) ?_ #[true, true, true, true, true, true, true, true, true, false, false, false] rfl rfl ?_ ?_ ?_ ?_
     rotate_left
     ·rintro w' ⟨s0, s1, s2, s3, s4, s5, s6, s7⟩
      go_simp
      with_reducible rfl
     rotate_left
     ·simp only [Act.put, sA, sB, sC, i64_w, i32_w]
      rfl
     refine pU HT_ 9 (some 36) ?_ #[true, true, true, true, true, true, true, true, true, true, false, false] rfl rfl ?_ ?_ ?_ ?_
     rotate_left
     ·intro w'
      go_simp
      with_reducible rfl
     rotate_left
     ·simp only [Act.put, sA, sB, sC, i64_w, i32_w]
      rfl
     refine one_ (i := 10) (N := some 6) #[true, true, true, true, true, true, true, true, true, true, true, false] rfl rfl (one_of HT_.out (by kernel_rfl)) (by decide) (fun K hK => ?_)
     refine box_step ?hg (N := 6) ?hd (cs := #[.int .i64 0, .slice none 0 0, .int .u32 0, .int .i64 0, .string (⟨#[]⟩ : ByteArray), .int .u64 0, .int .u64 0, .bool false]) (t := 70) ?hr ?_; (case hd => rfl); (case hg => rfl); (case hr => first | (go_simp; done) | (go_simp; rfl))
     intro gb409 hg w128 hbox hb
     have BK409 := rM hbox; have GW409 := rG HB hg; replace HB := rS HB hb; have GE409 := GW409; have NB392_409 := rN BK392 hg; replace BK392 := rB BK392 hb; have NB409_392 := rY NB392_409; have NB393_409 := rN BK393 hg; replace BK393 := rB BK393 hb; have NB409_393 := rY NB393_409; clear hb hbox hg; refine hK.out _ _ ⟨kC BK392 0, kC BK392 1, kC BK392 2, kC BK392 3, kC BK392 4, kC BK392 5, kC BK392 6, kC BK392 7⟩ (fun hHeld => ?_)
     clear hK K; refine norm_ (a' := ?_) ?_ ?_
     rotate_left
     ·show Act.put _ (some 6) _ = _
      simp only [Act.put, sA, sB, sC, i64_w, i32_w]
      rfl
     refine one_ (i := 11) (N := none) #[true, true, true, true, true, true, true, true, true, true, true, true] rfl rfl (one_of HT_.out (by kernel_rfl)) (by decide) (fun K hK => ?_)
     have hs129 : w128.cell? ⟨gb409, 0, none⟩ = some (.int .i64 0) := (blk_cell BK409.out 0).trans rfl; have hfs129 := blk_frozen BK409.out 0; have hns129_0 := NB392_409.out; have hns129_1 := NB393_409.out; have hms129_0 := NB409_392.out; have hms129_1 := NB409_393.out; have hs130 : w128.cell? ⟨gb409, 1, none⟩ = some (.slice none 0 0) := (blk_cell BK409.out 1).trans rfl; have hfs130 := blk_frozen BK409.out 1; have hns130_0 := NB392_409.out; have hns130_1 := NB393_409.out; have hms130_0 := NB409_392.out; have hms130_1 := NB409_393.out; have hs131 : w128.cell? ⟨gb409, 2, none⟩ = some (.int .u32 0) := (blk_cell BK409.out 2).trans rfl; have hfs131 := blk_frozen BK409.out 2; have hns131_0 := NB392_409.out; have hns131_1 := NB393_409.out; have hms131_0 := NB409_392.out; have hms131_1 := NB409_393.out; have hs132 : w128.cell? ⟨gb409, 3, none⟩ = some (.int .i64 0) := (blk_cell BK409.out 3).trans rfl; have hfs132 := blk_frozen BK409.out 3; have hns132_0 := NB392_409.out; have hns132_1 := NB393_409.out; have hms132_0 := NB409_392.out; have hms132_1 := NB409_393.out; have hs133 : w128.cell? ⟨gb409, 4, none⟩ = some (.string (⟨#[]⟩ : ByteArray)) := (blk_cell BK409.out 4).trans rfl; have hfs133 := blk_frozen BK409.out 4; have hns133_0 := NB392_409.out; have hns133_1 := NB393_409.out; have hms133_0 := NB409_392.out; have hms133_1 := NB409_393.out; have hs134 : w128.cell? ⟨gb409, 5, none⟩ = some (.int .u64 0) := (blk_cell BK409.out 5).trans rfl; have hfs134 := blk_frozen BK409.out 5; have hns134_0 := NB392_409.out; have hns134_1 := NB393_409.out; have hms134_0 := NB409_392.out; have hms134_1 := NB409_393.out; have hs135 : w128.cell? ⟨gb409, 6, none⟩ = some (.int .u64 0) := (blk_cell BK409.out 6).trans rfl; have hfs135 := blk_frozen BK409.out 6; have hns135_0 := NB392_409.out; have hns135_1 := NB393_409.out; have hms135_0 := NB409_392.out; have hms135_1 := NB409_393.out; have hs136 : w128.cell? ⟨gb409, 7, none⟩ = some (.bool false) := (blk_cell BK409.out 7).trans rfl; have hfs136 := blk_frozen BK409.out 7; have hns136_0 := NB392_409.out; have hns136_1 := NB393_409.out; have hms136_0 := NB409_392.out; have hms136_1 := NB409_393.out; refine skip_ (w1 := ?_) (by rfl) rfl ?_ ?_
     rotate_left
     ·go_simp
      rfl
     refine hK.out _ _ ⟨(kF hHeld.1), (kF hHeld.2.1), (kF hHeld.2.2.1), (kF hHeld.2.2.2.1), (kF hHeld.2.2.2.2.1), (kF hHeld.2.2.2.2.2.1), (kF hHeld.2.2.2.2.2.2.1), (kF hHeld.2.2.2.2.2.2.2)⟩ (fun hHeld => ?_)
     clear hK K; refine done_ (done_of HT_.out (by kernel_rfl)) ?_
     go_upto_region 9 with (fail)
     go_cut [43] (fun v43 wc => ∃ (kq : Nat) (x43_120 : Bool), v43 = .bool x43_120 ∧ Aside0 (tallboyref29_Command.j4 kq t394 x43_120 false a0_1 a0_2 a0_3 a0_4 a0_5 a0_6 a0_7 t394 0 0 a0_7 0 0 false = some (r1, r2, r3, r4, r5, r6, r7, r8, r9)) ∧ Aside0 (kq ≤ k) ∧ Aside0 (wc.heap[gb392]? = some (.cells #[.bool false, .int .u8 a0_1, .int .u16 a0_2, .int .u32 a0_3, .int .u64 a0_4, .string a0_5, .string a0_6, .string a0_7] 26 (0, 0))) ∧ Aside0 (wc.heap[gb393]? = some (.cells #[.int .i64 0, (.slice none 0 0), .int .u32 0, .int .i64 0, .string (⟨#[]⟩ : ByteArray), .int .u64 0, .int .u64 0, .bool false] 70 (0, 0))) ∧ Aside0 (wc.heap[gb409]? = some (.cells #[.int .i64 t394, (.slice none 0 0), .int .u32 0, .int .i64 0, .string a0_7, .int .u64 0, .int .u64 0, .bool false] 70 (0, 0))) ∧ Aside0 (Below w.heap.size w wc))
     case first =>
      have H := HC121.out; clear HC121
      by_cases c137 : t394 = 15
      ·rw [if_pos c137] at H; have c137b0 : (t394 == 15) = true := beq_iff_eq.mpr c137; have c137b1 : (t394 != 15) = false := bne_eq_false_iff_eq.mpr c137; clear c137
       (first | rw [c137b0] | (simp only [i64_w, i32_w]; rw [c137b0]) | skip)
       have H' := Aside0.mk H; clear H; have hnb138 := rP NB392_393 NB393_392; have hnb139 := rP NB392_409 NB409_392; obtain ⟨hcz140, hfz140⟩ := d8 BK392; go_wp2
       go_meet
       case rel => exact ⟨_, ((a0_6.toList != ([] : List UInt8))), (by first | rfl | (simp; done) | (simp [*]; done) | (cases a0_6.toList <;> rfl)), H', ⟨by first | omega | exact Nat.le_refl _⟩, ⟨bK BK392.out⟩, ⟨bK BK393.out⟩, ⟨bV BK409.out⟩, ⟨bH HB.out⟩⟩
      ·rw [if_neg c137] at H; have c137b0 : (t394 == 15) = false := beq_eq_false_iff_ne.mpr c137; have c137b1 : (t394 != 15) = true := bne_iff_ne.mpr c137
       (first | rw [c137b0] | (simp only [i64_w, i32_w]; rw [c137b0]) | skip)
       have H' := Aside0.mk H; clear H; go_wp2
       go_meet
       case rel => exact ⟨_, (true), (by first | rfl | (simp; done) | (simp [*]; done) | (cases a0_6.toList <;> rfl)), H', ⟨by first | omega | exact Nat.le_refl _⟩, ⟨bK BK392.out⟩, ⟨bK BK393.out⟩, ⟨bV BK409.out⟩, ⟨bH HB.out⟩⟩
     case rest =>
      clear HC121; (try clear c17); (try clear c105); (try clear c105b0); (try clear c105b1); (try clear c137); (try clear c137b0); (try clear c137b1); (try clear hcz108); (try clear hcz111); (try clear hcz113); (try clear hcz116); (try clear hcz120); (try clear hcz125); (try clear hcz140); (try clear hcz6); (try clear hcz78); (try clear hcz7); (try clear hcz81); (try clear hcz83); (try clear hcz87); (try clear hcz92); (try clear hcz94)
      (try clear hcz94); (try clear hcz98); (try clear hfz100); (try clear hfz103); (try clear hfz108); (try clear hfz111); (try clear hfz113); (try clear hfz116); (try clear hfz120); (try clear hfz125); (try clear hfz13); (try clear hfz140); (try clear hfz14); (try clear hfz23); (try clear hfz39); (try clear hfz44); (try clear hfz49); (try clear hfz54); (try clear hfz63)
      (try clear hfz63); (try clear hfz68); (try clear hfz6); (try clear hfz78); (try clear hfz7); (try clear hfz81); (try clear hfz83); (try clear hfz87); (try clear hfz92); (try clear hfz94); (try clear hfz98); obtain ⟨kq, x43_120, rfl, HA, HJ120, BK392, BK393, BK409, HB⟩ := hcut; cases kq with
      | zero => exact absurd HA.out (by simp [tallboyref29_Command.j4])
      | succ kj120 =>
       have H := HA.out; clear HA; simp only [tallboyref29_Command.j4] at H; have HC141 := Aside0.mk H; clear H
       go_upto_if 43 with (fail)
       go_cut [] (fun wc => ∃ (kq : Nat) (z3 : List ByteArray) (z8 : Value), Aside0 (tallboyref29_Command.j5 kq t394 false a0_1 a0_2 a0_3 a0_4 a0_5 a0_6 a0_7 t394 z3 0 0 a0_7 0 0 false = some (r1, r2, r3, r4, r5, r6, r7, r8, r9)) ∧ Aside0 (kq ≤ kj120) ∧ Aside0 (Kd.R Kd.string 9 wc w.heap.size (fun _ => True) z8 z3) ∧ Aside0 (wc.heap[gb392]? = some (.cells #[.bool false, .int .u8 a0_1, .int .u16 a0_2, .int .u32 a0_3, .int .u64 a0_4, .string a0_5, .string a0_6, .string a0_7] 26 (0, 0))) ∧ Aside0 (wc.heap[gb393]? = some (.cells #[.int .i64 0, (.slice none 0 0), .int .u32 0, .int .i64 0, .string (⟨#[]⟩ : ByteArray), .int .u64 0, .int .u64 0, .bool false] 70 (0, 0))) ∧ Aside0 (wc.heap[gb409]? = some (.cells #[.int .i64 t394, z8, .int .u32 0, .int .i64 0, .string a0_7, .int .u64 0, .int .u64 0, .bool false] 70 (0, 0))) ∧ Aside0 (Below w.heap.size w wc))
       case first =>
        have H := HC141.out; clear HC141
        by_cases c142 : x43_120 = true
        ·subst c142; rw [if_pos rfl] at H; obtain ⟨y410, hy410⟩ : ∃ y_ : List ByteArray, y_ = (([a0_6] : List ByteArray)) := ⟨_, rfl⟩; replace H : (tallboyref29_Command.j5 kj120 t394 false a0_1 a0_2 a0_3 a0_4 a0_5 a0_6 a0_7 t394 y410 0 0 a0_7 0 0 false) = some (r1, r2, r3, r4, r5, r6, r7, r8, r9) := by first | (rw [hy410]; with_reducible exact H) | (have H2_ := (Option.bind_some _ _).symm.trans H; rw [hy410]; with_reducible exact H2_) | (have H2_ := (Option.bind_some _ _).symm.trans H; with_reducible exact H2_) | with_reducible exact H | (rw [hy410]; exact H) | exact H
         have Ny410 := Aside0.mk hy410; clear hy410; have H' := Aside0.mk H; clear H; have hnb143 := rP NB392_393 NB393_392; have hnb144 := rP NB392_409 NB409_392; obtain ⟨hcz145, hfz145⟩ := d8 BK392
         go_wp2_with (first | ((with_reducible refine gate_dst (N := 46) rfl ?_); refine Kd.R_lit Kd.string _ 9 ?hg (N := 46) ?hd (xs := ([a0_6] : List ByteArray)) (inner := [.string a0_6]) (ok := fun _ => True) (okp := fun _ => True) ?hr ?hp (fun _ hk => hk) trivial (Below.refl _ _) (Nat.le_refl _) (by simp) ?_; (case hd => rfl); (case hg => rfl); (case hr => first | (go_simp; done) | (go_simp; rfl)); (case hp => exact (Reps.one (show Kd.M Kd.string _ _ _ a0_6 [.string a0_6] from rfl) (Reps.none _ _))); intro v411 w146 ho147 hb hg_ hnew_; clear hg_ hnew_; (first | rw [← Ny410.out] at ho147 | (simp only [Int.reduceToNat] at ho147; rw [← Ny410.out] at ho147)); have HO412 := Aside0.mk (Kd.R_lower ho147 (below_size (bH HB.out))); replace BK392 := rB BK392 hb; replace BK393 := rB BK393 hb; replace BK409 := rB BK409 hb; replace HB := rS HB hb; clear hb ho147; obtain ⟨Ao148, co148, eo148⟩ := Kd.R_slice HO412.out; subst eo148; have hnb149 := rP NB409_393 NB393_409; obtain ⟨hcz150, hfz150⟩ := d8 BK409))
         go_meet
         case rel => exact ⟨_, (y410), (.slice Ao148 y410.length co148), H', ⟨by have := HJ120.out; first | omega | exact Nat.le_refl _⟩, ⟨by (with_reducible repeat (first | apply Kd.R_alloc | apply Kd.R_drewN | apply Kd.R_drew)); exact Kd.R_mono (Kd.R_far (p := ⟨gb409, 1, none⟩) (Kd.R_types HO412.out BK409.out (by decide)) (fun _ hk => hk.2) (.slice Ao148 y410.length co148)) (fun _ hk => trivial)⟩, ⟨bK BK392.out⟩, ⟨bK BK393.out⟩, ⟨bV BK409.out⟩, ⟨bH HB.out⟩⟩
        ·replace c142 := Bool.eq_false_iff.mpr c142; subst c142; rw [if_neg (show ¬ (false = true) by decide)] at H; have H' := Aside0.mk H; clear H; go_wp2
         go_meet
         case rel => exact ⟨_, (([] : List ByteArray)), (.slice none 0 0), H', ⟨by have := HJ120.out; first | omega | exact Nat.le_refl _⟩, ⟨xN⟩, ⟨bK BK392.out⟩, ⟨bK BK393.out⟩, ⟨bK BK409.out⟩, ⟨bH HB.out⟩⟩
       case rest =>
        clear HC141; (try clear c17); (try clear c105); (try clear c105b0); (try clear c105b1); (try clear c137); (try clear c137b0); (try clear c137b1); (try clear c142); (try clear hcz108); (try clear hcz111); (try clear hcz113); (try clear hcz116); (try clear hcz120); (try clear hcz125); (try clear hcz140); (try clear hcz145); (try clear hcz150); (try clear hcz6); (try clear hcz78); (try clear hcz7); (try clear hcz81); (try clear hcz83); (try clear hcz87)
        (try clear hcz87); (try clear hcz92); (try clear hcz94); (try clear hcz98); (try clear hfz100); (try clear hfz103); (try clear hfz108); (try clear hfz111); (try clear hfz113); (try clear hfz116); (try clear hfz120); (try clear hfz125); (try clear hfz13); (try clear hfz140); (try clear hfz145); (try clear hfz14); (try clear hfz150); (try clear hfz23)
        (try clear hfz23); (try clear hfz39); (try clear hfz44); (try clear hfz49); (try clear hfz54); (try clear hfz63); (try clear hfz68); (try clear hfz6); (try clear hfz78); (try clear hfz7); (try clear hfz81); (try clear hfz83); (try clear hfz87); (try clear hfz92); (try clear hfz94); (try clear hfz98); obtain ⟨kq, z3, z8, HA, HJ140, z1, BK392, BK393, BK409, HB⟩ := hcut; cases kq with
        | zero => exact absurd HA.out (by simp [tallboyref29_Command.j5])
        | succ kj140 =>
         have H := HA.out; clear HA; simp only [tallboyref29_Command.j5] at H; replace H := Option.bind_eq_some_iff.mp H; obtain ⟨t413, z20, H⟩ := H; (try dsimp only at H); have A151 := Aside0.mk z20; clear z20; have HC152 := Aside0.mk H; clear H; have hnb153 := rP NB392_393 NB393_392; have hnb154 := rP NB392_409 NB409_392; obtain ⟨hcz155, hfz155⟩ := d8 BK392
         go_upto_block 0 with (first | ((with_reducible refine gate_callee (f := 52) rfl ?_); refine gL (some 51) rfl rfl Try.func52 #[.int .i64 t394] rfl ?_; (with_reducible refine (tallboyref29_extras.calls kj140 t394 t413 _ A151.out).mono ?_); rintro e w' ⟨rfl, ⟨nd, rfl⟩⟩; refine ⟨_, rfl, ?_⟩))
         (try simp only [Act.put, sA, sB, sC])
         go_cut [] (fun wc => ∃ (kq : Nat) (zn : Int) (zo : Int) (zp : Int) (zq : ByteArray) (zr : Int) (zs : Int) (zt : Bool) (z9 : Int) (za : Int) (zb : Int), Aside0 (tallboyref29_Command.j6 kq t394 false a0_1 a0_2 a0_3 a0_4 a0_5 a0_6 a0_7 t394 z3 z9 za a0_7 0 zb false = some (r1, r2, r3, r4, r5, r6, r7, r8, r9)) ∧ Aside0 (kq ≤ kj140) ∧ Aside0 (Kd.R Kd.string 9 wc w.heap.size (fun _ => True) z8 z3) ∧ Aside0 (wc.heap[gb392]? = some (.cells #[.bool false, .int .u8 a0_1, .int .u16 a0_2, .int .u32 a0_3, .int .u64 a0_4, .string a0_5, .string a0_6, .string a0_7] 26 (0, 0))) ∧ Aside0 (wc.heap[gb393]? = some (.cells #[.int .i64 zn, (.slice none 0 0), .int .u32 zo, .int .i64 zp, .string zq, .int .u64 zr, .int .u64 zs, .bool zt] 70 (0, 0))) ∧ Aside0 (wc.heap[gb409]? = some (.cells #[.int .i64 t394, z8, .int .u32 z9, .int .i64 za, .string a0_7, .int .u64 0, .int .u64 zb, .bool false] 70 (0, 0))) ∧ Aside0 (Below w.heap.size w wc))
         case first =>
          have H := HC152.out; clear HC152
          by_cases c156 : t413 = 8
          ·rw [if_pos c156] at H; have c156b0 : (t413 == 8) = true := beq_iff_eq.mpr c156; have c156b1 : (t413 != 8) = false := bne_eq_false_iff_eq.mpr c156; clear c156
           (first | rw [c156b0] | (simp only [i64_w, i32_w]; rw [c156b0]) | skip)
           by_cases c157 : 0 ≤ 4
           ·rw [if_pos c157] at H; have c157b0 := eq_true c157; have c157b1 : decide (0 ≤ 4) = true := decide_eq_true c157; clear c157
            by_cases c158 : 4 ≤ (a0_5.size : Int)
            ·rw [if_pos c158] at H; have c158b0 := eq_true c158; have c158b1 : decide (4 ≤ (a0_5.size : Int)) = true := decide_eq_true c158; clear c158; replace H := Option.bind_eq_some_iff.mp H; obtain ⟨t414, z30, H⟩ := H; (try dsimp only at H); have A159 := Aside0.mk z30; clear z30; have c160b0 := eq_true (of_decide_eq_true (by first | (with_reducible assumption) | assumption) : 4 ≤ (a0_5.size : Int)); replace H := Option.bind_eq_some_iff.mp H; obtain ⟨t415, z40, H⟩ := H; (try dsimp only at H); have A161 := Aside0.mk z40; clear z40; have H' := Aside0.mk H; clear H
             go_wp2_with (first | ((with_reducible refine gate_callee (f := 42) rfl ?_); refine gL (some 56) rfl rfl Try.func42 #[.string (a0_5.extract 0 4)] rfl ?_; (with_reducible refine (tallboyref29_Take.calls kj140 (a0_5.extract 0 4) t414 _ A159.out).mono ?_); rintro e w' ⟨rfl, ⟨nd, rfl⟩⟩; refine ⟨_, rfl, ?_⟩; (try simp only [World.drewN_drewN]); (try (rw [drewN_self wc]; generalize hq_ : World.drewN wc _ = wc; have n0_ : Aside0 (Kd.R Kd.string 9 wc w.heap.size (fun _ => True) z8 z3) := ⟨by rw [← hq_]; exact (by (with_reducible repeat (first | apply Kd.R_alloc | apply Kd.R_drewN | apply Kd.R_drew)); exact z1.out)⟩; have n1_ := Aside0.mk (bQ BK392.out hq_); have n2_ := Aside0.mk (bQ BK393.out hq_); have n3_ := Aside0.mk (bQ BK409.out hq_); have n4_ := Aside0.mk (bF HB.out hq_); clear z1 BK392 BK393 BK409 HB hq_; have z1 := n0_; have BK392 := n1_; have BK393 := n2_; have BK409 := n3_; have HB := n4_; clear n0_ n1_ n2_ n3_ n4_)); have hnb162 := rP NB409_392 NB392_409; have hnb163 := rP NB409_393 NB393_409; obtain ⟨hcz164, hfz164⟩ := d8 BK409) | ((with_reducible refine gate_callee (f := 42) rfl ?_); refine gL (some 61) rfl rfl Try.func42 #[.string (a0_5.extract 4 a0_5.size)] rfl ?_; (with_reducible refine (tallboyref29_Take.calls kj140 (a0_5.extract 4 a0_5.size) t415 _ A161.out).mono ?_); rintro e w' ⟨rfl, ⟨nd, rfl⟩⟩; refine ⟨_, rfl, ?_⟩))
             go_meet
             case rel => exact ⟨_, (0), (0), (0), ((⟨#[]⟩ : ByteArray)), (0), (0), (false), ((t414) % 4294967296), (wrap64 (wrap32 ((t415) % 4294967296))), (0), H', ⟨by have := HJ120.out; have := HJ140.out; first | omega | exact Nat.le_refl _⟩, ⟨by (with_reducible repeat (first | apply Kd.R_alloc | apply Kd.R_drewN | apply Kd.R_drew)); exact Kd.R_mono (Kd.R_far (p := ⟨gb409, 3, none⟩) (Kd.R_far (p := ⟨gb409, 2, none⟩) (Kd.R_types z1.out BK409.out (by decide)) (fun _ hk => hk.2) (.int .u32 ((t414) % 4294967296))) (fun _ hk => hk.2) (.int .i64 (wrap64 (wrap32 ((t415) % 4294967296))))) (fun _ hk => trivial)⟩, ⟨bK BK392.out⟩, ⟨bK BK393.out⟩, ⟨bV BK409.out⟩, ⟨bH HB.out⟩⟩
            ·rw [if_neg c158] at H; exact absurd H (by simp)
           ·rw [if_neg c157] at H; exact absurd H (by simp)
          ·rw [if_neg c156] at H; have c156b0 : (t413 == 8) = false := beq_eq_false_iff_ne.mpr c156; have c156b1 : (t413 != 8) = true := bne_iff_ne.mpr c156
           (first | rw [c156b0] | (simp only [i64_w, i32_w]; rw [c156b0]) | skip)
           by_cases c165 : t413 = 4
           ·rw [if_pos c165] at H; have c165b0 : (t413 == 4) = true := beq_iff_eq.mpr c165; have c165b1 : (t413 != 4) = false := bne_eq_false_iff_eq.mpr c165; clear c165; replace H := Option.bind_eq_some_iff.mp H; obtain ⟨t416, z50, H⟩ := H; (try dsimp only at H); have A166 := Aside0.mk z50; clear z50; have H' := Aside0.mk H; clear H
            go_wp2_with (first | ((with_reducible refine gate_callee (f := 42) rfl ?_); refine gL (some 69) rfl rfl Try.func42 #[.string a0_5] rfl ?_; (with_reducible refine (tallboyref29_Take.calls kj140 a0_5 t416 _ A166.out).mono ?_); rintro e w' ⟨rfl, ⟨nd, rfl⟩⟩; refine ⟨_, rfl, ?_⟩; (try simp only [World.drewN_drewN]); (try (rw [drewN_self wc]; generalize hq_ : World.drewN wc _ = wc; have n0_ : Aside0 (Kd.R Kd.string 9 wc w.heap.size (fun _ => True) z8 z3) := ⟨by rw [← hq_]; exact (by (with_reducible repeat (first | apply Kd.R_alloc | apply Kd.R_drewN | apply Kd.R_drew)); exact z1.out)⟩; have n1_ := Aside0.mk (bQ BK392.out hq_); have n2_ := Aside0.mk (bQ BK393.out hq_); have n3_ := Aside0.mk (bQ BK409.out hq_); have n4_ := Aside0.mk (bF HB.out hq_); clear z1 BK392 BK393 BK409 HB hq_; have z1 := n0_; have BK392 := n1_; have BK393 := n2_; have BK409 := n3_; have HB := n4_; clear n0_ n1_ n2_ n3_ n4_)); have hnb167 := rP NB409_392 NB392_409; have hnb168 := rP NB409_393 NB393_409; obtain ⟨hcz169, hfz169⟩ := d8 BK409))
            go_meet
            case rel => exact ⟨_, (0), (0), (0), ((⟨#[]⟩ : ByteArray)), (0), (0), (false), (0), (wrap64 (wrap32 ((t416) % 4294967296))), (0), H', ⟨by have := HJ120.out; have := HJ140.out; first | omega | exact Nat.le_refl _⟩, ⟨by (with_reducible repeat (first | apply Kd.R_alloc | apply Kd.R_drewN | apply Kd.R_drew)); exact Kd.R_mono (Kd.R_far (p := ⟨gb409, 3, none⟩) (Kd.R_types z1.out BK409.out (by decide)) (fun _ hk => hk.2) (.int .i64 (wrap64 (wrap32 ((t416) % 4294967296))))) (fun _ hk => trivial)⟩, ⟨bK BK392.out⟩, ⟨bK BK393.out⟩, ⟨bV BK409.out⟩, ⟨bH HB.out⟩⟩
           ·rw [if_neg c165] at H; have c165b0 : (t413 == 4) = false := beq_eq_false_iff_ne.mpr c165; have c165b1 : (t413 != 4) = true := bne_iff_ne.mpr c165
            by_cases c170 : t413 = 20
            ·rw [if_pos c170] at H; have c170b0 : (t413 == 20) = true := beq_iff_eq.mpr c170; have c170b1 : (t413 != 20) = false := bne_eq_false_iff_eq.mpr c170; clear c170
             by_cases c171 : 0 ≤ 8
             ·rw [if_pos c171] at H; have c171b0 := eq_true c171; have c171b1 : decide (0 ≤ 8) = true := decide_eq_true c171; clear c171
              by_cases c172 : 8 ≤ (a0_5.size : Int)
              ·rw [if_pos c172] at H; have c172b0 := eq_true c172; have c172b1 : decide (8 ≤ (a0_5.size : Int)) = true := decide_eq_true c172; clear c172; replace H := Option.bind_eq_some_iff.mp H; obtain ⟨t417, z60, H⟩ := H; (try dsimp only at H); have A173 := Aside0.mk z60; clear z60
               by_cases c174 : 16 ≤ (a0_5.size : Int)
               ·rw [if_pos c174] at H; have c174b0 := eq_true c174; have c174b1 : decide (16 ≤ (a0_5.size : Int)) = true := decide_eq_true c174; clear c174; replace H := Option.bind_eq_some_iff.mp H; obtain ⟨t418, z70, H⟩ := H; (try dsimp only at H); have A175 := Aside0.mk z70; clear z70
                by_cases c176 : t418 = 4294967295
                ·rw [if_pos c176] at H; have c176b0 : (t418 == 4294967295) = true := beq_iff_eq.mpr c176; have c176b1 : (t418 != 4294967295) = false := bne_eq_false_iff_eq.mpr c176; clear c176; have H' := Aside0.mk H; clear H
                 go_wp2_with (first | ((with_reducible refine gate_callee (f := 42) rfl ?_); refine gL (some 78) rfl rfl Try.func42 #[.string (a0_5.extract 0 8)] rfl ?_; (with_reducible refine (tallboyref29_Take.calls kj140 (a0_5.extract 0 8) t417 _ A173.out).mono ?_); rintro e w' ⟨rfl, ⟨nd, rfl⟩⟩; refine ⟨_, rfl, ?_⟩; (try simp only [World.drewN_drewN]); (try (rw [drewN_self wc]; generalize hq_ : World.drewN wc _ = wc; have n0_ : Aside0 (Kd.R Kd.string 9 wc w.heap.size (fun _ => True) z8 z3) := ⟨by rw [← hq_]; exact (by (with_reducible repeat (first | apply Kd.R_alloc | apply Kd.R_drewN | apply Kd.R_drew)); exact z1.out)⟩; have n1_ := Aside0.mk (bQ BK392.out hq_); have n2_ := Aside0.mk (bQ BK393.out hq_); have n3_ := Aside0.mk (bQ BK409.out hq_); have n4_ := Aside0.mk (bF HB.out hq_); clear z1 BK392 BK393 BK409 HB hq_; have z1 := n0_; have BK392 := n1_; have BK393 := n2_; have BK409 := n3_; have HB := n4_; clear n0_ n1_ n2_ n3_ n4_)); have hnb177 := rP NB409_392 NB392_409; have hnb178 := rP NB409_393 NB393_409; obtain ⟨hcz179, hfz179⟩ := d8 BK409) | ((with_reducible refine gate_callee (f := 42) rfl ?_); refine gL (some 82) rfl rfl Try.func42 #[.string (a0_5.extract 16 a0_5.size)] rfl ?_; (with_reducible refine (tallboyref29_Take.calls kj140 (a0_5.extract 16 a0_5.size) t418 _ A175.out).mono ?_); rintro e w' ⟨rfl, ⟨nd, rfl⟩⟩; refine ⟨_, rfl, ?_⟩))
                 go_meet
                 case rel => exact ⟨_, (0), (0), (0), ((⟨#[]⟩ : ByteArray)), (0), (0), (false), (0), (0), (t417), H', ⟨by have := HJ120.out; have := HJ140.out; first | omega | exact Nat.le_refl _⟩, ⟨by (with_reducible repeat (first | apply Kd.R_alloc | apply Kd.R_drewN | apply Kd.R_drew)); exact Kd.R_mono (Kd.R_far (p := ⟨gb409, 6, none⟩) (Kd.R_types z1.out BK409.out (by decide)) (fun _ hk => hk.2) (.int .u64 t417)) (fun _ hk => trivial)⟩, ⟨bK BK392.out⟩, ⟨bK BK393.out⟩, ⟨bV BK409.out⟩, ⟨bH HB.out⟩⟩
                ·rw [if_neg c176] at H; have c176b0 : (t418 == 4294967295) = false := beq_eq_false_iff_ne.mpr c176; have c176b1 : (t418 != 4294967295) = true := bne_iff_ne.mpr c176; simp only [Option.some.injEq, Prod.mk.injEq] at H; obtain ⟨rfl, rfl, rfl, rfl, rfl, rfl, rfl, rfl, rfl⟩ := H
                 go_wp2_with (first | ((with_reducible refine gate_callee (f := 42) rfl ?_); refine gL (some 78) rfl rfl Try.func42 #[.string (a0_5.extract 0 8)] rfl ?_; (with_reducible refine (tallboyref29_Take.calls kj140 (a0_5.extract 0 8) t417 _ A173.out).mono ?_); rintro e w' ⟨rfl, ⟨nd, rfl⟩⟩; refine ⟨_, rfl, ?_⟩; (try simp only [World.drewN_drewN]); (try (rw [drewN_self wc]; generalize hq_ : World.drewN wc _ = wc; have n0_ : Aside0 (Kd.R Kd.string 9 wc w.heap.size (fun _ => True) z8 z3) := ⟨by rw [← hq_]; exact (by (with_reducible repeat (first | apply Kd.R_alloc | apply Kd.R_drewN | apply Kd.R_drew)); exact z1.out)⟩; have n1_ := Aside0.mk (bQ BK392.out hq_); have n2_ := Aside0.mk (bQ BK393.out hq_); have n3_ := Aside0.mk (bQ BK409.out hq_); have n4_ := Aside0.mk (bF HB.out hq_); clear z1 BK392 BK393 BK409 HB hq_; have z1 := n0_; have BK392 := n1_; have BK393 := n2_; have BK409 := n3_; have HB := n4_; clear n0_ n1_ n2_ n3_ n4_)); have hnb180 := rP NB409_392 NB392_409; have hnb181 := rP NB409_393 NB393_409; obtain ⟨hcz182, hfz182⟩ := d8 BK409) | ((with_reducible refine gate_callee (f := 42) rfl ?_); refine gL (some 82) rfl rfl Try.func42 #[.string (a0_5.extract 16 a0_5.size)] rfl ?_; (with_reducible refine (tallboyref29_Take.calls kj140 (a0_5.extract 16 a0_5.size) t418 _ A175.out).mono ?_); rintro e w' ⟨rfl, ⟨nd, rfl⟩⟩; refine ⟨_, rfl, ?_⟩; have hnb183 := rP NB393_392 NB392_393; obtain ⟨hcz184, hfz184⟩ := d8 BK393))
                 refine bodyPost_ret (results_ct rfl _ _ gb393 70 #[.int .i64 0, .slice none 0 0, .int .u32 0, .int .i64 0, .string (⟨#[]⟩ : ByteArray), .int .u64 0, .int .u64 0, .bool false] (0, 0) _ rfl (bV BK393.out) Try.underlying70 rfl (by kernel_rfl)) rfl ?_
                 exact ⟨_, xR, xN, bH HB.out⟩
               ·rw [if_neg c174] at H; exact absurd H (by simp)
              ·rw [if_neg c172] at H; exact absurd H (by simp)
             ·rw [if_neg c171] at H; exact absurd H (by simp)
            ·rw [if_neg c170] at H; have c170b0 : (t413 == 20) = false := beq_eq_false_iff_ne.mpr c170; have c170b1 : (t413 != 20) = true := bne_iff_ne.mpr c170; have H' := Aside0.mk H; clear H; go_wp2
             go_meet
             case rel => exact ⟨_, (0), (0), (0), ((⟨#[]⟩ : ByteArray)), (0), (0), (false), (0), (0), (0), H', ⟨by have := HJ120.out; have := HJ140.out; first | omega | exact Nat.le_refl _⟩, ⟨by (with_reducible repeat (first | apply Kd.R_alloc | apply Kd.R_drewN | apply Kd.R_drew)); exact z1.out⟩, ⟨bK BK392.out⟩, ⟨bK BK393.out⟩, ⟨bK BK409.out⟩, ⟨bH HB.out⟩⟩
         case rest =>
          clear HC152; (try clear c16); (try clear c17); (try clear c105); (try clear c105b0); (try clear c105b1); (try clear c137); (try clear c137b0); (try clear c137b1); (try clear c142); (try clear c156); (try clear c156b0); (try clear c156b1); (try clear c157); (try clear c157b0); (try clear c157b1); (try clear c158); (try clear c158b0); (try clear c158b1); (try clear c160b0); (try clear c165); (try clear c165b0); (try clear c165b1); (try clear c170); (try clear c170b0); (try clear c170b1); (try clear c171); (try clear c171b0); (try clear c171b1); (try clear c172); (try clear c172b0); (try clear c172b1); (try clear c174); (try clear c174b0); (try clear c174b1); (try clear c176); (try clear c176b0); (try clear c176b1); (try clear hcz108); (try clear hcz111); (try clear hcz113); (try clear hcz116); (try clear hcz120); (try clear hcz125); (try clear hcz140); (try clear hcz145); (try clear hcz150)
          (try clear hcz150); (try clear hcz155); (try clear hcz164); (try clear hcz169); (try clear hcz179); (try clear hcz182); (try clear hcz184); (try clear hcz6); (try clear hcz78); (try clear hcz7); (try clear hcz81); (try clear hcz83); (try clear hcz87); (try clear hcz92); (try clear hcz94); (try clear hcz98); (try clear hfz100); (try clear hfz103); (try clear hfz108)
          (try clear hfz108); (try clear hfz111); (try clear hfz113); (try clear hfz116); (try clear hfz120); (try clear hfz125); (try clear hfz13); (try clear hfz140); (try clear hfz145); (try clear hfz14); (try clear hfz150); (try clear hfz155); (try clear hfz164); (try clear hfz169); (try clear hfz179); (try clear hfz182); (try clear hfz184); (try clear hfz23)
          (try clear hfz23); (try clear hfz39); (try clear hfz44); (try clear hfz49); (try clear hfz54); (try clear hfz63); (try clear hfz68); (try clear hfz6); (try clear hfz78); (try clear hfz7); (try clear hfz81); (try clear hfz83); (try clear hfz87); (try clear hfz92); (try clear hfz94); (try clear hfz98); obtain ⟨kq, zn, zo, zp, zq, zr, zs, zt, z9, za, zb, HA, HJ151, z1, BK392, BK393, BK409, HB⟩ := hcut; cases kq with
          | zero => exact absurd HA.out (by simp [tallboyref29_Command.j6])
          | succ kj151 =>
           have H := HA.out; clear HA; simp only [tallboyref29_Command.j6] at H; have HC185 := Aside0.mk H; clear H; have hnb186 := rP NB392_393 NB393_392; have hnb187 := rP NB392_409 NB409_392; obtain ⟨hcz188, hfz188⟩ := d8 BK392
           go_upto_if 87 with (fail)
           go_cut [] (fun wc => ∃ (kq : Nat) (z80 : Int) (z90 : Int) (za0 : Int) (zb0 : ByteArray) (zc0 : Int) (zd0 : Int) (ze0 : Bool) (ze : Int) (zf : Int), Aside0 (tallboyref29_Command.j7 kq ze z3 z9 za a0_7 zf zb false = some (r1, r2, r3, r4, r5, r6, r7, r8, r9)) ∧ Aside0 (kq ≤ kj151) ∧ Aside0 (Kd.R Kd.string 9 wc w.heap.size (fun _ => True) z8 z3) ∧ Aside0 (wc.heap[gb392]? = some (.cells #[.bool false, .int .u8 a0_1, .int .u16 a0_2, .int .u32 a0_3, .int .u64 a0_4, .string a0_5, .string a0_6, .string a0_7] 26 (0, 0))) ∧ Aside0 (wc.heap[gb393]? = some (.cells #[.int .i64 z80, (.slice none 0 0), .int .u32 z90, .int .i64 za0, .string zb0, .int .u64 zc0, .int .u64 zd0, .bool ze0] 70 (0, 0))) ∧ Aside0 (wc.heap[gb409]? = some (.cells #[.int .i64 ze, z8, .int .u32 z9, .int .i64 za, .string a0_7, .int .u64 zf, .int .u64 zb, .bool false] 70 (0, 0))) ∧ Aside0 (Below w.heap.size w wc))
           case first =>
            have H := HC185.out; clear HC185
            by_cases c189 : a0_4 = 0
            ·rw [if_pos c189] at H; have c189b0 : (a0_4 == 0) = true := beq_iff_eq.mpr c189; have c189b1 : (a0_4 != 0) = false := bne_eq_false_iff_eq.mpr c189; clear c189
             (first | rw [c189b0] | (simp only [i64_w, i32_w]; rw [c189b0]) | skip)
             have H' := Aside0.mk H; clear H; go_wp2
             go_meet
             case rel => exact ⟨_, (zn), (zo), (zp), (zq), (zr), (zs), (zt), (t394), (0), H', ⟨by have := HJ120.out; have := HJ140.out; have := HJ151.out; first | omega | exact Nat.le_refl _⟩, ⟨by (with_reducible repeat (first | apply Kd.R_alloc | apply Kd.R_drewN | apply Kd.R_drew)); exact z1.out⟩, ⟨bK BK392.out⟩, ⟨bK BK393.out⟩, ⟨bK BK409.out⟩, ⟨bH HB.out⟩⟩
            ·rw [if_neg c189] at H; have c189b0 : (a0_4 == 0) = false := beq_eq_false_iff_ne.mpr c189; have c189b1 : (a0_4 != 0) = true := bne_iff_ne.mpr c189
             (first | rw [c189b0] | (simp only [i64_w, i32_w]; rw [c189b0]) | skip)
             by_cases c190 : t394 = 5
             ·rw [if_pos c190] at H; have c190b0 : (t394 == 5) = true := beq_iff_eq.mpr c190; have c190b1 : (t394 != 5) = false := bne_eq_false_iff_eq.mpr c190; clear c190; have H' := Aside0.mk H; clear H; have hnb191 := rP NB409_392 NB392_409; have hnb192 := rP NB409_393 NB393_409; obtain ⟨hcz193, hfz193⟩ := d8 BK409; have hnb194 := rP NB392_393 NB393_392; obtain ⟨hcz195, hfz195⟩ := d8 BK392; go_wp2
              go_meet
              case rel => exact ⟨_, (zn), (zo), (zp), (zq), (zr), (zs), (zt), (10), (a0_4), H', ⟨by have := HJ120.out; have := HJ140.out; have := HJ151.out; first | omega | exact Nat.le_refl _⟩, ⟨by (with_reducible repeat (first | apply Kd.R_alloc | apply Kd.R_drewN | apply Kd.R_drew)); exact Kd.R_mono (Kd.R_far (p := ⟨gb409, 5, none⟩) (Kd.R_far (p := ⟨gb409, 0, none⟩) (Kd.R_types z1.out BK409.out (by decide)) (fun _ hk => hk.2) (.int .i64 10)) (fun _ hk => hk.2) (.int .u64 a0_4)) (fun _ hk => trivial)⟩, ⟨bK BK392.out⟩, ⟨bK BK393.out⟩, ⟨bV BK409.out⟩, ⟨bH HB.out⟩⟩
             ·rw [if_neg c190] at H; have c190b0 : (t394 == 5) = false := beq_eq_false_iff_ne.mpr c190; have c190b1 : (t394 != 5) = true := bne_iff_ne.mpr c190
              by_cases c196 : t394 = 7
              ·rw [if_pos c196] at H; have c196b0 : (t394 == 7) = true := beq_iff_eq.mpr c196; have c196b1 : (t394 != 7) = false := bne_eq_false_iff_eq.mpr c196; clear c196; have H' := Aside0.mk H; clear H; have hnb197 := rP NB409_392 NB392_409; have hnb198 := rP NB409_393 NB393_409; obtain ⟨hcz199, hfz199⟩ := d8 BK409; have hnb200 := rP NB392_393 NB393_392; obtain ⟨hcz201, hfz201⟩ := d8 BK392; go_wp2
               go_meet
               case rel => exact ⟨_, (zn), (zo), (zp), (zq), (zr), (zs), (zt), (10), (a0_4), H', ⟨by have := HJ120.out; have := HJ140.out; have := HJ151.out; first | omega | exact Nat.le_refl _⟩, ⟨by (with_reducible repeat (first | apply Kd.R_alloc | apply Kd.R_drewN | apply Kd.R_drew)); exact Kd.R_mono (Kd.R_far (p := ⟨gb409, 5, none⟩) (Kd.R_far (p := ⟨gb409, 0, none⟩) (Kd.R_types z1.out BK409.out (by decide)) (fun _ hk => hk.2) (.int .i64 10)) (fun _ hk => hk.2) (.int .u64 a0_4)) (fun _ hk => trivial)⟩, ⟨bK BK392.out⟩, ⟨bK BK393.out⟩, ⟨bV BK409.out⟩, ⟨bH HB.out⟩⟩
              ·rw [if_neg c196] at H; have c196b0 : (t394 == 7) = false := beq_eq_false_iff_ne.mpr c196; have c196b1 : (t394 != 7) = true := bne_iff_ne.mpr c196; simp only [Option.some.injEq, Prod.mk.injEq] at H; obtain ⟨rfl, rfl, rfl, rfl, rfl, rfl, rfl, rfl, rfl⟩ := H; have hnb202 := rP NB393_392 NB392_393; have hnb203 := rP NB393_409 NB409_393; obtain ⟨hcz204, hfz204⟩ := d8 BK393; go_wp2; refine bodyPost_ret (results_ct rfl _ _ gb393 70 #[.int .i64 0, .slice none 0 0, .int .u32 0, .int .i64 0, .string (⟨#[]⟩ : ByteArray), .int .u64 0, .int .u64 0, .bool false] (0, 0) _ rfl (bV BK393.out) Try.underlying70 rfl (by kernel_rfl)) rfl ?_
               exact ⟨_, xR, xN, bH HB.out⟩
           case rest =>
            clear HC185; (try clear c2); (try clear c189); (try clear c189b0); (try clear c189b1); (try clear c190); (try clear c190b0); (try clear c190b1); (try clear c196); (try clear c196b0); (try clear c196b1); (try clear hcz140); (try clear hcz145); (try clear hcz150); (try clear hcz155); (try clear hcz164); (try clear hcz169); (try clear hcz179); (try clear hcz182); (try clear hcz184); (try clear hcz188); (try clear hcz193); (try clear hcz195); (try clear hcz199); (try clear hcz201)
            (try clear hcz204); (try clear hcz6); (try clear hcz78); (try clear hcz7); (try clear hcz81); (try clear hcz83); (try clear hcz87); (try clear hcz92); (try clear hcz94); (try clear hcz98); (try clear hfz100); (try clear hfz103); (try clear hfz108); (try clear hfz111); (try clear hfz113); (try clear hfz116); (try clear hfz120); (try clear hfz125); (try clear hfz13)
            (try clear hfz13); (try clear hfz140); (try clear hfz145); (try clear hfz14); (try clear hfz150); (try clear hfz155); (try clear hfz164); (try clear hfz169); (try clear hfz179); (try clear hfz182); (try clear hfz184); (try clear hfz188); (try clear hfz193); (try clear hfz195); (try clear hfz199); (try clear hfz201); (try clear hfz204); (try clear hfz23)
            (try clear hfz23); (try clear hfz39); (try clear hfz44); (try clear hfz49); (try clear hfz54); (try clear hfz63); (try clear hfz68); (try clear hfz6); (try clear hfz78); (try clear hfz7); (try clear hfz81); (try clear hfz83); (try clear hfz87); (try clear hfz92); (try clear hfz94); (try clear hfz98); obtain ⟨kq, z80, z90, za0, zb0, zc0, zd0, ze0, ze, zf, HA, HJ184, z1, BK392, BK393, BK409, HB⟩ := hcut; cases kq with
            | zero => exact absurd HA.out (by simp [tallboyref29_Command.j7])
            | succ kj184 =>
             have H := HA.out; clear HA; simp only [tallboyref29_Command.j7] at H; replace H := Option.bind_eq_some_iff.mp H; obtain ⟨t419, zf0, H⟩ := H; (try dsimp only at H); have A205 := Aside0.mk zf0; clear zf0
             by_cases c206 : t419 = 0
             ·rw [if_pos c206] at H; have c206b0 : (t419 == 0) = true := beq_iff_eq.mpr c206; have c206b1 : (t419 != 0) = false := bne_eq_false_iff_eq.mpr c206; clear c206; simp only [Option.some.injEq, Prod.mk.injEq] at H; obtain ⟨rfl, rfl, rfl, rfl, rfl, rfl, rfl, rfl, rfl⟩ := H; have hnb207 := rP NB409_392 NB392_409; have hnb208 := rP NB409_393 NB393_409; obtain ⟨hcz209, hfz209⟩ := d8 BK409; obtain ⟨Ao210, co210, eo210⟩ := Kd.R_slice z1.out; subst eo210
              go_wp2_with (first | ((with_reducible refine gate_callee (f := 53) rfl ?_); refine gL (some 100) rfl rfl Try.func53 #[.agg #[.int .i64 ze, .slice Ao210 z3.length co210, .int .u32 z9, .int .i64 za, .string a0_7, .int .u64 zf, .int .u64 zb, .bool false]] rfl ?_; (with_reducible refine (tallboyref15_Check.calls kj184 ze _ _ z3 z9 za a0_7 zf zb false t419 _ ?side1 ?side2 A205.out).mono ?_); (case side1 => repeat (first | exact (Kd.R_reads' z1.out).2.2 | (with_reducible refine Kd.C_alloc ?_ _) | (with_reducible refine Kd.C_drewN ?_ _) | (with_reducible refine Kd.C_drew ?_))); (case side2 => exact (Kd.R_reads' z1.out).2.1); rintro e w211 ⟨rfl, hb⟩; refine ⟨_, rfl, ?_⟩; replace z1 := Aside0.mk (Kd.R_below (by (with_reducible repeat (first | apply Kd.R_alloc | apply Kd.R_drewN | apply Kd.R_drew)); exact z1.out) hb); replace BK392 := rB BK392 hb; replace BK393 := rB BK393 hb; replace BK409 := rB BK409 hb; replace HB := rS HB hb; (try clear hb); (try clear hk); obtain ⟨hcz212, hfz212⟩ := d8 BK409; have hnb213 := rP NB393_392 NB392_393; obtain ⟨hcz214, hfz214⟩ := d8 BK393))
              refine bodyPost_ret (results_ct rfl _ _ gb393 70 #[.int .i64 ze, .slice Ao210 z3.length co210, .int .u32 z9, .int .i64 za, .string a0_7, .int .u64 zf, .int .u64 zb, .bool false] (0, 0) _ rfl (bV BK393.out) Try.underlying70 rfl (by kernel_rfl)) rfl ?_
              exact ⟨_, xR, by (with_reducible repeat (first | apply Kd.R_alloc | apply Kd.R_drewN | apply Kd.R_drew)); exact Kd.R_mono (Kd.R_far (p := ⟨gb393, 7, none⟩) (Kd.R_far (p := ⟨gb393, 6, none⟩) (Kd.R_far (p := ⟨gb393, 5, none⟩) (Kd.R_far (p := ⟨gb393, 4, none⟩) (Kd.R_far (p := ⟨gb393, 3, none⟩) (Kd.R_far (p := ⟨gb393, 2, none⟩) (Kd.R_far (p := ⟨gb393, 1, none⟩) (Kd.R_far (p := ⟨gb393, 0, none⟩) (Kd.R_types z1.out BK393.out (by decide)) (fun _ hk => hk.2) (.int .i64 ze)) (fun _ hk => hk.2) (.slice Ao210 z3.length co210)) (fun _ hk => hk.2) (.int .u32 z9)) (fun _ hk => hk.2) (.int .i64 za)) (fun _ hk => hk.2) (.string a0_7)) (fun _ hk => hk.2) (.int .u64 zf)) (fun _ hk => hk.2) (.int .u64 zb)) (fun _ hk => hk.2) (.bool false)) (fun _ hk => trivial), bH HB.out⟩
             ·rw [if_neg c206] at H; have c206b0 : (t419 == 0) = false := beq_eq_false_iff_ne.mpr c206; have c206b1 : (t419 != 0) = true := bne_iff_ne.mpr c206; simp only [Option.some.injEq, Prod.mk.injEq] at H; obtain ⟨rfl, rfl, rfl, rfl, rfl, rfl, rfl, rfl, rfl⟩ := H; have hnb215 := rP NB409_392 NB392_409; have hnb216 := rP NB409_393 NB393_409; obtain ⟨hcz217, hfz217⟩ := d8 BK409; obtain ⟨Ao218, co218, eo218⟩ := Kd.R_slice z1.out; subst eo218
              go_wp2_with (first | ((with_reducible refine gate_callee (f := 53) rfl ?_); refine gL (some 100) rfl rfl Try.func53 #[.agg #[.int .i64 ze, .slice Ao218 z3.length co218, .int .u32 z9, .int .i64 za, .string a0_7, .int .u64 zf, .int .u64 zb, .bool false]] rfl ?_; (with_reducible refine (tallboyref15_Check.calls kj184 ze _ _ z3 z9 za a0_7 zf zb false t419 _ ?side1 ?side2 A205.out).mono ?_); (case side1 => repeat (first | exact (Kd.R_reads' z1.out).2.2 | (with_reducible refine Kd.C_alloc ?_ _) | (with_reducible refine Kd.C_drewN ?_ _) | (with_reducible refine Kd.C_drew ?_))); (case side2 => exact (Kd.R_reads' z1.out).2.1); rintro e w219 ⟨rfl, hb⟩; refine ⟨_, rfl, ?_⟩; replace z1 := Aside0.mk (Kd.R_below (by (with_reducible repeat (first | apply Kd.R_alloc | apply Kd.R_drewN | apply Kd.R_drew)); exact z1.out) hb); replace BK392 := rB BK392 hb; replace BK393 := rB BK393 hb; replace BK409 := rB BK409 hb; replace HB := rS HB hb; (try clear hb); (try clear hk); have hnb220 := rP NB393_392 NB392_393; obtain ⟨hcz221, hfz221⟩ := d8 BK393))
              refine bodyPost_ret (results_ct rfl _ _ gb393 70 #[.int .i64 0, .slice none 0 0, .int .u32 0, .int .i64 0, .string (⟨#[]⟩ : ByteArray), .int .u64 0, .int .u64 0, .bool false] (0, 0) _ rfl (bV BK393.out) Try.underlying70 rfl (by kernel_rfl)) rfl ?_
              exact ⟨_, xR, xN, bH HB.out⟩
   ·rw [if_neg c16] at H; have c16b0 : ((a0_5.size : Int) == t396) = false := beq_eq_false_iff_ne.mpr c16; have c16b1 : ((a0_5.size : Int) != t396) = true := bne_iff_ne.mpr c16; simp only [Option.some.injEq, Prod.mk.injEq] at H; obtain ⟨rfl, rfl, rfl, rfl, rfl, rfl, rfl, rfl, rfl⟩ := H; go_enter Try.func31, Try.ntmps31
    try go_wp2_with (first | ((with_reducible refine gate_dst (N := 1) rfl ?_); refine bE 1 #[.bool false, .int .u8 a0_1, .int .u16 a0_2, .int .u32 a0_3, .int .u64 a0_4, .string a0_5, .string a0_6, .string a0_7] 26 rfl rfl ?_; intro gb392 hg w222 hbox hb; have BK392 := rM hbox; have GW392 := rG HB hg; replace HB := rS HB hb; have GE392 := GW392; clear hb hbox hg) | ((with_reducible refine gate_dst (N := 2) rfl ?_); refine bE 2 #[.int .i64 0, .slice none 0 0, .int .u32 0, .int .i64 0, .string (⟨#[]⟩ : ByteArray), .int .u64 0, .int .u64 0, .bool false] 70 rfl rfl ?_; intro gb393 hg w223 hbox hb; have BK393 := rM hbox; have GW393 := rG HB hg; replace HB := rS HB hb; have GE393 := GW393; have NB392_393 := rN BK392 hg; replace BK392 := rB BK392 hb; have NB393_392 := rY NB392_393; clear hb hbox hg; have hnb224 := rP NB392_393 NB393_392; obtain ⟨hcz225, hfz225⟩ := d8 BK392) | ((with_reducible refine gate_callee (f := 47) rfl ?_); refine gL (some 14) rfl rfl Try.func47 #[.int .u8 a0_1] rfl ?_; (with_reducible refine (tallboyref29_op.calls k a0_1 t394 t395 _ A8.out).mono ?_); rintro e w' ⟨rfl, ⟨nd, rfl⟩⟩; refine ⟨_, rfl, ?_⟩; (try simp only [World.drewN_drewN]); (try (rw [drewN_self w223]; generalize hq_ : World.drewN w223 _ = w223; have n0_ := Aside0.mk (bQ BK392.out hq_); have n1_ := Aside0.mk (bQ BK393.out hq_); have n2_ := Aside0.mk (bF HB.out hq_); clear BK392 BK393 HB hq_; have BK392 := n0_; have BK393 := n1_; have HB := n2_; clear n0_ n1_ n2_))))
    replace BK392 := Aside0.mk (bD BK392.out); replace BK393 := Aside0.mk (bD BK393.out); replace HB := Aside0.mk (eD HB.out); refine start_ (n := 6) (S := fun w' => w'.cell? ⟨gb392, 0, none⟩ = some (.bool false) ∧ w'.cell? ⟨gb392, 1, none⟩ = some (.int .u8 a0_1) ∧ w'.cell? ⟨gb392, 2, none⟩ = some (.int .u16 a0_2) ∧ w'.cell? ⟨gb392, 3, none⟩ = some (.int .u32 a0_3) ∧ w'.cell? ⟨gb392, 4, none⟩ = some (.int .u64 a0_4) ∧ w'.cell? ⟨gb392, 5, none⟩ = some (.string a0_5) ∧ w'.cell? ⟨gb392, 6, none⟩ = some (.string a0_6) ∧ w'.cell? ⟨gb392, 7, none⟩ = some (.string a0_7)) (ds := []) #[false, false, false, false, false, false] (by kernel_rfl) rfl rfl ⟨kC BK392 0, kC BK392 1, kC BK392 2, kC BK392 3, kC BK392 4, kC BK392 5, kC BK392 6, kC BK392 7⟩ (fun hHeld => ?_)
    generalize w223.drew = w226 at BK392 BK393 HB hHeld ⊢; refine pure_ (i := 0) (N := some 20) (v := ?_) (a' := ?_) #[true, false, false, false, false, false] rfl rfl (by kernel_rfl) (fun _ _ _ h => h) (Or.inl ⟨by rfl, ?_⟩) ?_ ?_
    rotate_left
    ·intro w'
     go_simp
     with_reducible rfl
    rotate_left
    ·simp only [Act.put, sA, sB, sC, i64_w, i32_w]
     rfl
    refine pure_ (i := 3) (N := some 23) (v := ?_) (a' := ?_) #[true, false, false, true, false, false] rfl rfl (by kernel_rfl) (fun _ _ _ h => h) (Or.inl ⟨by rfl, ?_⟩) ?_ ?_
    rotate_left
    ·intro w'
     go_simp
     with_reducible rfl
    rotate_left
    ·simp only [Act.put, sA, sB, sC, i64_w, i32_w]
     rfl
    refine take_ (i := 1) (N := some 21) (v := ?_) (a' := ?_) #[true, true, false, true, false, false] rfl rfl (by kernel_rfl) (fun _ _ _ h => h) (Or.inl ⟨by rfl, ?_⟩) hHeld ?_ ?_
    rotate_left
    ·rintro w' ⟨s0, s1, s2, s3, s4, s5, s6, s7⟩
     go_simp
     with_reducible rfl
    rotate_left
    ·simp only [Act.put, sA, sB, sC, i64_w, i32_w]
     rfl
    refine pure_ (i := 2) (N := some 22) (v := ?_) (a' := ?_) #[true, true, true, true, false, false] rfl rfl (by kernel_rfl) (fun _ _ _ h => h) (Or.inl ⟨by rfl, ?_⟩) ?_ ?_
    rotate_left
    ·intro w'
     go_simp
     with_reducible rfl
    rotate_left
    ·simp only [Act.put, sA, sB, sC, i64_w, i32_w]
     rfl
    refine one_ (i := 4) (N := some 24) #[true, true, true, true, true, false] rfl rfl (by kernel_rfl) (by decide) (fun K hK => ?_)
    refine goes_ Try.func52 (by kernel_rfl) rfl #[.int .i64 t394] (by rfl) rfl rfl (by (try simp only [List.map_toArray, List.map_cons, List.map_nil]); first | done | rfl | (simp only [List.length_drop, List.length_take]; rfl)) ?_
    with_reducible refine (tallboyref29_extras.calls k t394 t396 _ A15.out).mono ?_
    rintro e w' ⟨rfl, ⟨nd, rfl⟩⟩
    refine ⟨_, rfl, ?_⟩
    refine hK.out _ _ ⟨kC BK392 0, kC BK392 1, kC BK392 2, kC BK392 3, kC BK392 4, kC BK392 5, kC BK392 6, kC BK392 7⟩ (fun hHeld => ?_)
    clear hK K; refine norm_ (a' := ?_) ?_ ?_
    rotate_left
    ·show Act.put _ (some 24) _ = _
     simp only [Act.put, sA, sB, sC, i64_w, i32_w]
     rfl
    refine pure_ (i := 5) (N := some 25) (v := ?_) (a' := ?_) #[true, true, true, true, true, true] rfl rfl (by kernel_rfl) (fun _ _ _ h => h) (Or.inl ⟨by rfl, ?_⟩) ?_ ?_
    rotate_left
    ·intro w'
     go_simp
     with_reducible rfl
    rotate_left
    ·simp only [Act.put, sA, sB, sC, i64_w, i32_w]
     rfl
    refine done_ (by kernel_rfl) ?_
    obtain ⟨hcz227, hfz227⟩ := d8 BK393
    try go_wp2
    refine bodyPost_ret (results_ct rfl _ _ gb393 70 #[.int .i64 0, .slice none 0 0, .int .u32 0, .int .i64 0, .string (⟨#[]⟩ : ByteArray), .int .u64 0, .int .u64 0, .bool false] (0, 0) _ rfl (bV BK393.out) Try.underlying70 rfl (by kernel_rfl)) rfl ?_
    exact ⟨_, xR, xN, bH HB.out⟩

end Go.Proofs.Ytdepkgikdmlgiaa.P
