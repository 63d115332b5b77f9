/- Lean functions for the Go functions that the laws of this seat use, and the proofs that the Go code computes them; conditions: the readings that each theorem names. Written by a program. -/
import Derived.Test.YtdepkgikdmlgiaaPx0
import Derived.Test.YtdepkgikdmlgiaaPx15
import Derived.Test.YtdepkgikdmlgiaaPx24
import Derived.Test.YtdepkgikdmlgiaaPx27
import Derived.Test.YtdepkgikdmlgiaaPx28
import Derived.Test.YtdepkgikdmlgiaaPx36
import Derived.Test.YtdepkgikdmlgiaaShort
namespace Go.Proofs.Ytdepkgikdmlgiaa.P
open Go.RowKit Go.Proofs.YtdepkgikdmlgiaaW.PrintWords Go.Proofs.YtdepkgikdmlgiaaW.PrintLast Go.Proofs.YtdepkgikdmlgiaaW.PrintMore
set_option linter.unusedVariables false
set_option linter.unusedSimpArgs false

/-! ### frame_Request: function 32 -/
set_option maxHeartbeats 8000000 in
set_option maxRecDepth 100000 in
theorem frame_Request.calls (k : Nat) (a0_0 : Int) (A0_1 : Option Addr) (c0_1 : Nat) (l0_1 : List ByteArray) (a0_2 : Int) (a0_3 : Int) (a0_4 : ByteArray) (a0_5 : Int) (a0_6 : Int) (a0_7 : Bool) (a1 : Int) (r1 : Bool) (r2 : Int) (r3 : Int) (r4 : Int) (r5 : Int) (r6 : ByteArray) (r7 : ByteArray) (r8 : ByteArray) (r9 : Int) (w : World) (hr0_1 : Kd.C Kd.string w A0_1 l0_1.length l0_1) (hc0_1 : l0_1.length ≤ c0_1) (h : frame_Request.f k a0_0 l0_1 a0_2 a0_3 a0_4 a0_5 a0_6 a0_7 a1 = some (r1, r2, r3, r4, r5, r6, r7, r8, r9)) :
  Calls Try.prog 32 #[.agg #[.int .i64 a0_0, .slice A0_1 l0_1.length c0_1, .int .u32 a0_2, .int .i64 a0_3, .string a0_4, .int .u64 a0_5, .int .u64 a0_6, .bool a0_7], .int .u32 a1] w fun e w' => e = .returned (.tuple #[.agg #[.bool r1, .int .u8 r2, .int .u16 r3, .int .u32 r4, .int .u64 r5, .string r6, .string r7, .string r8], .int .i64 r9]) ∧ Below w.heap.size w w' := by
 have hu70 := Try.underlying70; have hu31 := Try.underlying31; have HR0_1 := Aside0.mk hr0_1; have HC0_1 := Aside0.mk hc0_1; clear hr0_1 hc0_1; have HB := Aside0.mk (Below.refl w.heap.size w); have H : ((verb_Check.f k a0_0 l0_1 a0_2 a0_3 a0_4 a0_5 a0_6 a0_7).bind fun t426 => (if t426 = 0 then ((frame_plain.f k a0_0 l0_1 a0_2 a0_3 a0_4 a0_5 a0_6 a0_7).bind fun t427 => (if t427 = true then ((frame_asks.f k a0_0 l0_1 a0_2 a0_3 a0_4 a0_5 a0_6 a0_7).bind fun t428 => ((strings_Join.f l0_1 (⟨#[]⟩ : ByteArray)).bind fun t429 => ((frame_number.f k ((wrap32 (a0_3)) % 4294967296) 4).bind fun t431 => ((frame_extras.f k a0_0).bind fun t432 => (if t432 = 4 then (some (false, t428, 0, a1, a0_5, t431, t429, a0_4, 0)) else (if t432 = 8 then ((frame_number.f k (IntKind.u64.wrap (a0_2)) 4).bind fun t433 => (if t433.size + t431.size ≤ 9223372036854775807 then (some (false, t428, 0, a1, a0_5, t433 ++ t431, t429, a0_4, 0)) else (none))) else (if t432 = 20 then ((frame_number.f k a0_6 8).bind fun t434 => ((frame_number.f k 0 8).bind fun t435 => (if t434.size + t435.size ≤ 9223372036854775807 then ((frame_number.f k 4294967295 4).bind fun t436 => (if (t434 ++ t435).size + t436.size ≤ 9223372036854775807 then (some (false, t428, 0, a1, a0_5, (t434 ++ t435) ++ t436, t429, a0_4, 0)) else (none))) else (none)))) else (some (false, t428, 0, a1, a0_5, (⟨#[]⟩ : ByteArray), t429, a0_4, 0))))))))) else (some (false, 0, 0, 0, 0, (⟨#[]⟩ : ByteArray), (⟨#[]⟩ : ByteArray), (⟨#[]⟩ : ByteArray), 6)))) else (some (false, 0, 0, 0, 0, (⟨#[]⟩ : ByteArray), (⟨#[]⟩ : ByteArray), (⟨#[]⟩ : ByteArray), t426)))) = some (r1, r2, r3, r4, r5, r6, r7, r8, r9) := h; clear h; replace H := Option.bind_eq_some_iff.mp H; obtain ⟨t426, A30, H⟩ := H
 (try dsimp only at H); have A3 := Aside0.mk A30; clear A30
 by_cases c4 : t426 = 0
 ·rw [if_pos c4] at H; have c4b0 : (t426 == 0) = true := beq_iff_eq.mpr c4; have c4b1 : (t426 != 0) = false := bne_eq_false_iff_eq.mpr c4; clear c4; replace H := Option.bind_eq_some_iff.mp H; obtain ⟨t427, A50, H⟩ := H; (try dsimp only at H); have A5 := Aside0.mk A50; clear A50
  by_cases c6 : t427 = true
  ·subst c6; rw [if_pos rfl] at H; replace H := Option.bind_eq_some_iff.mp H; obtain ⟨t428, A70, H⟩ := H; (try dsimp only at H); have A7 := Aside0.mk A70; clear A70; replace H := Option.bind_eq_some_iff.mp H; obtain ⟨t429, A80, H⟩ := H; (try dsimp only at H); have A8 := Aside0.mk A80; clear A80; replace H := Option.bind_eq_some_iff.mp H; obtain ⟨t431, A90, H⟩ := H
   (try dsimp only at H); have A9 := Aside0.mk A90; clear A90; replace H := Option.bind_eq_some_iff.mp H; obtain ⟨t432, A100, H⟩ := H; (try dsimp only at H); have A10 := Aside0.mk A100; clear A100
   by_cases c11 : t432 = 4
   ·rw [if_pos c11] at H; have c11b0 : (t432 == 4) = true := beq_iff_eq.mpr c11; have c11b1 : (t432 != 4) = false := bne_eq_false_iff_eq.mpr c11; clear c11; simp only [Option.some.injEq, Prod.mk.injEq] at H; obtain ⟨rfl, rfl, rfl, rfl, rfl, rfl, rfl, rfl, rfl⟩ := H; go_enter Try.func32, Try.ntmps32
    try go_wp2_with (first | ((with_reducible refine gate_dst (N := 2) rfl ?_); refine bE 2 #[.int .i64 a0_0, .slice A0_1 l0_1.length c0_1, .int .u32 a0_2, .int .i64 a0_3, .string a0_4, .int .u64 a0_5, .int .u64 a0_6, .bool a0_7] 70 rfl rfl ?_; intro gb424 hg w12 hbox hb; have BK424 := rM hbox; have GW424 := rG HB hg; replace HB := rS HB hb; have GE424 := GW424; clear hb hbox hg) | ((with_reducible refine gate_dst (N := 4) rfl ?_); refine bE 4 #[.bool false, .int .u8 0, .int .u16 0, .int .u32 0, .int .u64 0, .string (⟨#[]⟩ : ByteArray), .string (⟨#[]⟩ : ByteArray), .string (⟨#[]⟩ : ByteArray)] 31 rfl rfl ?_; intro gb425 hg w13 hbox hb; have BK425 := rM hbox; have GW425 := rG HB hg; replace HB := rS HB hb; have GE425 := GW425; have NB424_425 := rN BK424 hg; replace BK424 := rB BK424 hb; have NB425_424 := rY NB424_425; clear hb hbox hg; have hnb14 := rP NB424_425 NB425_424; obtain ⟨hcz15, hfz15⟩ := d8 BK424) | ((with_reducible refine gate_callee (f := 51) rfl ?_); refine gL (some 10) rfl rfl Try.func51 #[.agg #[.int .i64 a0_0, .slice A0_1 l0_1.length c0_1, .int .u32 a0_2, .int .i64 a0_3, .string a0_4, .int .u64 a0_5, .int .u64 a0_6, .bool a0_7]] rfl ?_; (with_reducible refine (verb_Check.calls k a0_0 _ _ l0_1 a0_2 a0_3 a0_4 a0_5 a0_6 a0_7 t426 _ ?side1 ?side2 A3.out).mono ?_); (case side1 => repeat (first | exact (Kd.C_below HR0_1.out HB.out) | (with_reducible refine Kd.C_alloc ?_ _) | (with_reducible refine Kd.C_drewN ?_ _) | (with_reducible refine Kd.C_drew ?_))); (case side2 => exact HC0_1.out); rintro e w16 ⟨rfl, hb⟩; refine ⟨_, rfl, ?_⟩; replace BK424 := rB BK424 hb; replace BK425 := rB BK425 hb; replace HB := rS HB hb; (try clear hb); obtain ⟨hcz17, hfz17⟩ := d8 BK424) | ((with_reducible refine gate_callee (f := 54) rfl ?_); refine gL (some 16) rfl rfl Try.func54 #[.agg #[.int .i64 a0_0, .slice A0_1 l0_1.length c0_1, .int .u32 a0_2, .int .i64 a0_3, .string a0_4, .int .u64 a0_5, .int .u64 a0_6, .bool a0_7]] rfl ?_; (with_reducible refine (frame_plain.calls k a0_0 _ _ l0_1 a0_2 a0_3 a0_4 a0_5 a0_6 a0_7 true _ ?side1 ?side2 A5.out).mono ?_); (case side1 => repeat (first | exact (Kd.C_below HR0_1.out HB.out) | (with_reducible refine Kd.C_alloc ?_ _) | (with_reducible refine Kd.C_drewN ?_ _) | (with_reducible refine Kd.C_drew ?_))); (case side2 => exact HC0_1.out); rintro e w18 ⟨rfl, hb⟩; refine ⟨_, rfl, ?_⟩; replace BK424 := rB BK424 hb; replace BK425 := rB BK425 hb; replace HB := rS HB hb; (try clear hb); ))
    replace BK424 := Aside0.mk (bD BK424.out); replace BK425 := Aside0.mk (bD BK425.out); replace HB := Aside0.mk (eD HB.out); refine start_ (n := 13) (S := fun w' => w'.cell? ⟨gb424, 0, none⟩ = some (.int .i64 a0_0) ∧ w'.cell? ⟨gb424, 1, none⟩ = some (.slice A0_1 l0_1.length c0_1) ∧ w'.cell? ⟨gb424, 2, none⟩ = some (.int .u32 a0_2) ∧ w'.cell? ⟨gb424, 3, none⟩ = some (.int .i64 a0_3) ∧ w'.cell? ⟨gb424, 4, none⟩ = some (.string a0_4) ∧ w'.cell? ⟨gb424, 5, none⟩ = some (.int .u64 a0_5) ∧ w'.cell? ⟨gb424, 6, none⟩ = some (.int .u64 a0_6) ∧ w'.cell? ⟨gb424, 7, none⟩ = some (.bool a0_7)) (ds := []) #[false, false, false, false, false, false, false, false, false, false, false, false, false] (by kernel_rfl) rfl rfl ⟨kC BK424 0, kC BK424 1, kC BK424 2, kC BK424 3, kC BK424 4, kC BK424 5, kC BK424 6, kC BK424 7⟩ (fun hHeld => ?_); refine with_tabW frame_Request.tab6 frame_Request.bits6 (fun HT_ HW_ => ?_)
    generalize w18.drew = w19 at BK424 BK425 HB hHeld ⊢; refine pU HT_ 2 (some 21) ?_ #[false, false, true, false, false, false, false, false, false, false, false, false, false] rfl rfl ?_ ?_ ?_ ?_
    rotate_left
    ·intro w'
     go_simp
     with_reducible rfl
    rotate_left
    ·simp only [Act.put, sA, sB, sC, i64_w, i32_w]
     rfl
    refine pU HT_ 3 (some 22) ?_ #[false, false, true, true, false, false, false, false, false, false, false, false, false] rfl rfl ?_ ?_ ?_ ?_
    rotate_left
    ·intro w'
     go_simp
     with_reducible rfl
    rotate_left
    ·simp only [Act.put, sA, sB, sC, i64_w, i32_w]
     rfl
    refine pU HT_ 5 (some 24) ?_ #[false, false, true, true, false, true, false, false, false, false, false, false, false] rfl rfl ?_ ?_ ?_ ?_
    rotate_left
    ·intro w'
     go_simp
     with_reducible rfl
    rotate_left
    ·simp only [Act.put, sA, sB, sC, i64_w, i32_w]
     rfl
    refine pU HT_ 7 (some 26) ?_ #[false, false, true, true, false, true, false, true, false, false, false, false, false] rfl rfl ?_ ?_ ?_ ?_
    rotate_left
    ·intro w'
     go_simp
     with_reducible rfl
    rotate_left
    ·simp only [Act.put, sA, sB, sC, i64_w, i32_w]
     rfl
    refine tU HT_ HW_ hHeld 0 (some 19) ?_ #[true, false, true, true, false, true, false, true, false, false, false, false, false] rfl rfl ?_ ?_ ?_ ?_
    rotate_left
    ·rintro w' ⟨s0, s1, s2, s3, s4, s5, s6, s7⟩
     go_simp
     with_reducible rfl
    rotate_left
    ·simp only [Act.put, sA, sB, sC, i64_w, i32_w]
     rfl
    refine tU HT_ HW_ hHeld 4 (some 23) ?_ #[true, false, true, true, true, true, false, true, false, false, false, false, false] rfl rfl ?_ ?_ ?_ ?_
    rotate_left
    ·rintro w' ⟨s0, s1, s2, s3, s4, s5, s6, s7⟩
     go_simp
     with_reducible rfl
    rotate_left
    ·simp only [Act.put, sA, sB, sC, i64_w, i32_w]
     rfl
    refine tU HT_ HW_ hHeld 6 (some 25) ?_ #[true, false, true, true, true, true, true, true, false, false, false, false, false] rfl rfl ?_ ?_ ?_ ?_
    rotate_left
    ·rintro w' ⟨s0, s1, s2, s3, s4, s5, s6, s7⟩
     go_simp
     with_reducible rfl
    rotate_left
    ·simp only [Act.put, sA, sB, sC, i64_w, i32_w]
     rfl
    refine tU HT_ HW_ hHeld 8 (some 27) ?_ #[true, false, true, true, true, true, true, true, true, false, false, false, false] rfl rfl ?_ ?_ ?_ ?_
    rotate_left
    ·rintro w' ⟨s0, s1, s2, s3, s4, s5, s6, s7⟩
     go_simp
     with_reducible rfl
    rotate_left
    ·simp only [Act.put, sA, sB, sC, i64_w, i32_w]
     rfl
    refine join_ (σ := Nat) 1 #[true, true, true, true, true, true, true, true, true, true, true, true, false] (fun s_ => [(20, .int .u8 t428), (28, .string t429), (7, .pointer (some ⟨s_, 0, none⟩)), (29, .agg #[.bool false, .int .u8 t428, .int .u16 0, .int .u32 a1, .int .u64 a0_5, .string (⟨#[]⟩ : ByteArray), .string t429, .string a0_4])]) (fun s_ w' => (w'.cell? ⟨gb424, 0, none⟩ = some (.int .i64 a0_0) ∧ w'.cell? ⟨gb424, 1, none⟩ = some (.slice A0_1 l0_1.length c0_1) ∧ w'.cell? ⟨gb424, 2, none⟩ = some (.int .u32 a0_2) ∧ w'.cell? ⟨gb424, 3, none⟩ = some (.int .i64 a0_3) ∧ w'.cell? ⟨gb424, 4, none⟩ = some (.string a0_4) ∧ w'.cell? ⟨gb424, 5, none⟩ = some (.int .u64 a0_5) ∧ w'.cell? ⟨gb424, 6, none⟩ = some (.int .u64 a0_6) ∧ w'.cell? ⟨gb424, 7, none⟩ = some (.bool a0_7)) ∧ (w'.heap[gb424]? = some (.cells #[.int .i64 a0_0, .slice A0_1 l0_1.length c0_1, .int .u32 a0_2, .int .i64 a0_3, .string a0_4, .int .u64 a0_5, .int .u64 a0_6, .bool a0_7] 70 (0, 0))) ∧ (w'.heap[gb425]? = some (.cells #[.bool false, .int .u8 0, .int .u16 0, .int .u32 0, .int .u64 0, .string (⟨#[]⟩ : ByteArray), .string (⟨#[]⟩ : ByteArray), .string (⟨#[]⟩ : ByteArray)] 31 (0, 0))) ∧ (w'.heap[s_]? = some (.cells #[.bool false, .int .u8 0, .int .u16 0, .int .u32 0, .int .u64 0, .string (⟨#[]⟩ : ByteArray), .string (⟨#[]⟩ : ByteArray), .string (⟨#[]⟩ : ByteArray)] 31 (0, 0))) ∧ (w.heap.size ≤ s_) ∧ (w.heap.size ≤ s_) ∧ (gb424 ≠ s_) ∧ (s_ ≠ gb424) ∧ (gb425 ≠ s_) ∧ (s_ ≠ gb425) ∧ (Below w.heap.size w w')) ?_ ?_
    rotate_left
    ·intro hCont
     refine two_ (i := 1) (j := 11) (Ni := some 20) (Nj := some 7) #[true, true, true, true, true, true, true, true, true, false, false, false, false] #[true, false, true, true, true, true, true, true, true, false, false, true, false] rfl rfl rfl rfl (two_of HT_.out (by kernel_rfl)) (by decide) (by decide) (fun K hK => ?_) (fun K hK => ?_)
     ·skip
      refine goes_ Try.func55 (by kernel_rfl) rfl #[.agg #[.int .i64 a0_0, .slice A0_1 l0_1.length c0_1, .int .u32 a0_2, .int .i64 a0_3, .string a0_4, .int .u64 a0_5, .int .u64 a0_6, .bool a0_7]] (by rfl) rfl rfl (by (try simp only [List.map_toArray, List.map_cons, List.map_nil]); first | done | rfl | (simp only [List.length_drop, List.length_take]; rfl)) ?_
      with_reducible refine (frame_asks.calls k a0_0 _ _ l0_1 a0_2 a0_3 a0_4 a0_5 a0_6 a0_7 t428 _ ?side1 ?side2 A7.out).mono ?_
      (case side1 => repeat (first | exact (Kd.C_below HR0_1.out HB.out) | (with_reducible refine Kd.C_alloc ?_ _) | (with_reducible refine Kd.C_drewN ?_ _) | (with_reducible refine Kd.C_drew ?_)))
      (case side2 => exact HC0_1.out)
      rintro e w20 ⟨rfl, hb⟩
      refine ⟨_, rfl, ?_⟩
      replace BK424 := rB BK424 hb; replace BK425 := rB BK425 hb; replace HB := rS HB hb
      (try clear hb)
      
      
      
      refine hK.out _ _ ⟨kC BK424 0, kC BK424 1, kC BK424 2, kC BK424 3, kC BK424 4, kC BK424 5, kC BK424 6, kC BK424 7⟩ (fun hHeld => ?_)
      clear hK K; refine norm_ (a' := ?_) ?_ ?_
      rotate_left
      ·show Act.put _ (some 20) _ = _
       simp only [Act.put, sA, sB, sC, i64_w, i32_w]
       rfl
      refine two_ (i := 9) (j := 11) (Ni := some 28) (Nj := some 7) #[true, true, true, true, true, true, true, true, true, true, false, false, false] #[true, true, true, true, true, true, true, true, true, false, false, true, false] rfl rfl rfl rfl (two_of HT_.out (by kernel_rfl)) (by decide) (by decide) (fun K hK => ?_) (fun K hK => ?_)
      ·skip
       refine goes_ Try.func56 (by kernel_rfl) rfl #[.slice A0_1 l0_1.length c0_1, .string (⟨#[]⟩ : ByteArray)] (by rfl) rfl rfl (by (try simp only [List.map_toArray, List.map_cons, List.map_nil]); first | done | rfl | (simp only [List.length_drop, List.length_take]; rfl)) ?_
       with_reducible refine (strings_Join.calls _ _ l0_1 (⟨#[]⟩ : ByteArray) t429 _ ?side1 ?side2 A8.out).mono ?_
       (case side1 => repeat (first | exact (Kd.C_below HR0_1.out HB.out) | (with_reducible refine Kd.C_alloc ?_ _) | (with_reducible refine Kd.C_drewN ?_ _) | (with_reducible refine Kd.C_drew ?_)))
       (case side2 => exact HC0_1.out)
       rintro e w21 ⟨rfl, hb⟩
       refine ⟨_, rfl, ?_⟩
       replace BK424 := rB BK424 hb; replace BK425 := rB BK425 hb; replace HB := rS HB hb
       (try clear hb)
       
       
       
       refine hK.out _ _ ⟨kC BK424 0, kC BK424 1, kC BK424 2, kC BK424 3, kC BK424 4, kC BK424 5, kC BK424 6, kC BK424 7⟩ (fun hHeld => ?_)
       clear hK K; refine norm_ (a' := ?_) ?_ ?_
       rotate_left
       ·show Act.put _ (some 28) _ = _
        simp only [Act.put, sA, sB, sC, i64_w, i32_w]
        rfl
       refine pU HT_ 10 (some 29) ?_ #[true, true, true, true, true, true, true, true, true, true, true, false, false] rfl rfl ?_ ?_ ?_ ?_
       rotate_left
       ·intro w'
        go_simp
        with_reducible rfl
       rotate_left
       ·simp only [Act.put, sA, sB, sC, i64_w, i32_w]
        rfl
       refine one_ (i := 11) (N := some 7) #[true, true, true, true, true, true, true, true, true, true, true, true, false] rfl rfl (one_of HT_.out (by kernel_rfl)) (by decide) (fun K hK => ?_)
       refine box_step ?hg (N := 7) ?hd (cs := #[.bool false, .int .u8 0, .int .u16 0, .int .u32 0, .int .u64 0, .string (⟨#[]⟩ : ByteArray), .string (⟨#[]⟩ : ByteArray), .string (⟨#[]⟩ : ByteArray)]) (t := 31) ?hr ?_; (case hd => rfl); (case hg => rfl); (case hr => first | (go_simp; done) | (go_simp; rfl))
       intro gb430 hg w22 hbox hb
       have BK430 := rM hbox; have GW430 := rG HB hg; replace HB := rS HB hb; have GE430 := GW430; have NB424_430 := rN BK424 hg; replace BK424 := rB BK424 hb; have NB430_424 := rY NB424_430; have NB425_430 := rN BK425 hg; replace BK425 := rB BK425 hb; have NB430_425 := rY NB425_430; clear hb hbox hg; refine hK.out _ _ ⟨kC BK424 0, kC BK424 1, kC BK424 2, kC BK424 3, kC BK424 4, kC BK424 5, kC BK424 6, kC BK424 7⟩ (fun hHeld => ?_)
       clear hK K; refine norm_ (a' := ?_) ?_ ?_
       rotate_left
       ·show Act.put _ (some 7) _ = _
        simp only [Act.put, sA, sB, sC, i64_w, i32_w]
        rfl
       exact norm_ (by simp only [putAll, Act.put, sA, sB, sC]) (hCont (gb430) _ ⟨hHeld, (bK BK424.out), (bK BK425.out), (bK BK430.out), GW430.out, GE430.out, NB424_430.out, NB430_424.out, NB425_430.out, NB430_425.out, (bH HB.out)⟩)
      ·skip
       refine box_step ?hg (N := 7) ?hd (cs := #[.bool false, .int .u8 0, .int .u16 0, .int .u32 0, .int .u64 0, .string (⟨#[]⟩ : ByteArray), .string (⟨#[]⟩ : ByteArray), .string (⟨#[]⟩ : ByteArray)]) (t := 31) ?hr ?_; (case hd => rfl); (case hg => rfl); (case hr => first | (go_simp; done) | (go_simp; rfl))
       intro gb430 hg w21 hbox hb
       have BK430 := rM hbox; have GW430 := rG HB hg; replace HB := rS HB hb; have GE430 := GW430; have NB424_430 := rN BK424 hg; replace BK424 := rB BK424 hb; have NB430_424 := rY NB424_430; have NB425_430 := rN BK425 hg; replace BK425 := rB BK425 hb; have NB430_425 := rY NB425_430; clear hb hbox hg; refine hK.out _ _ ⟨kC BK424 0, kC BK424 1, kC BK424 2, kC BK424 3, kC BK424 4, kC BK424 5, kC BK424 6, kC BK424 7⟩ (fun hHeld => ?_)
       clear hK K; refine norm_ (a' := ?_) ?_ ?_
       rotate_left
       ·show Act.put _ (some 7) _ = _
        simp only [Act.put, sA, sB, sC, i64_w, i32_w]
        rfl
       refine one_ (i := 9) (N := some 28) #[true, true, true, true, true, true, true, true, true, true, false, true, false] rfl rfl (one_of HT_.out (by kernel_rfl)) (by decide) (fun K hK => ?_)
       refine goes_ Try.func56 (by kernel_rfl) rfl #[.slice A0_1 l0_1.length c0_1, .string (⟨#[]⟩ : ByteArray)] (by rfl) rfl rfl (by (try simp only [List.map_toArray, List.map_cons, List.map_nil]); first | done | rfl | (simp only [List.length_drop, List.length_take]; rfl)) ?_
       with_reducible refine (strings_Join.calls _ _ l0_1 (⟨#[]⟩ : ByteArray) t429 _ ?side1 ?side2 A8.out).mono ?_
       (case side1 => repeat (first | exact (Kd.C_below HR0_1.out HB.out) | (with_reducible refine Kd.C_alloc ?_ _) | (with_reducible refine Kd.C_drewN ?_ _) | (with_reducible refine Kd.C_drew ?_)))
       (case side2 => exact HC0_1.out)
       rintro e w22 ⟨rfl, hb⟩
       refine ⟨_, rfl, ?_⟩
       replace BK424 := rB BK424 hb; replace BK425 := rB BK425 hb; replace BK430 := rB BK430 hb; replace HB := rS HB hb
       (try clear hb)
       
       
       
       refine hK.out _ _ ⟨kC BK424 0, kC BK424 1, kC BK424 2, kC BK424 3, kC BK424 4, kC BK424 5, kC BK424 6, kC BK424 7⟩ (fun hHeld => ?_)
       clear hK K; refine norm_ (a' := ?_) ?_ ?_
       rotate_left
       ·show Act.put _ (some 28) _ = _
        simp only [Act.put, sA, sB, sC, i64_w, i32_w]
        rfl
       refine pU HT_ 10 (some 29) ?_ #[true, true, true, true, true, true, true, true, true, true, true, true, false] rfl rfl ?_ ?_ ?_ ?_
       rotate_left
       ·intro w'
        go_simp
        with_reducible rfl
       rotate_left
       ·simp only [Act.put, sA, sB, sC, i64_w, i32_w]
        rfl
       exact norm_ (by simp only [putAll, Act.put, sA, sB, sC]) (hCont (gb430) _ ⟨hHeld, (bK BK424.out), (bK BK425.out), (bK BK430.out), GW430.out, GE430.out, NB424_430.out, NB430_424.out, NB425_430.out, NB430_425.out, (bH HB.out)⟩)
     ·skip
      refine box_step ?hg (N := 7) ?hd (cs := #[.bool false, .int .u8 0, .int .u16 0, .int .u32 0, .int .u64 0, .string (⟨#[]⟩ : ByteArray), .string (⟨#[]⟩ : ByteArray), .string (⟨#[]⟩ : ByteArray)]) (t := 31) ?hr ?_; (case hd => rfl); (case hg => rfl); (case hr => first | (go_simp; done) | (go_simp; rfl))
      intro gb430 hg w20 hbox hb
      have BK430 := rM hbox; have GW430 := rG HB hg; replace HB := rS HB hb; have GE430 := GW430; have NB424_430 := rN BK424 hg; replace BK424 := rB BK424 hb; have NB430_424 := rY NB424_430; have NB425_430 := rN BK425 hg; replace BK425 := rB BK425 hb; have NB430_425 := rY NB425_430; clear hb hbox hg; refine hK.out _ _ ⟨kC BK424 0, kC BK424 1, kC BK424 2, kC BK424 3, kC BK424 4, kC BK424 5, kC BK424 6, kC BK424 7⟩ (fun hHeld => ?_)
      clear hK K; refine norm_ (a' := ?_) ?_ ?_
      rotate_left
      ·show Act.put _ (some 7) _ = _
       simp only [Act.put, sA, sB, sC, i64_w, i32_w]
       rfl
      refine one_ (i := 1) (N := some 20) #[true, true, true, true, true, true, true, true, true, false, false, true, false] rfl rfl (one_of HT_.out (by kernel_rfl)) (by decide) (fun K hK => ?_)
      refine goes_ Try.func55 (by kernel_rfl) rfl #[.agg #[.int .i64 a0_0, .slice A0_1 l0_1.length c0_1, .int .u32 a0_2, .int .i64 a0_3, .string a0_4, .int .u64 a0_5, .int .u64 a0_6, .bool a0_7]] (by rfl) rfl rfl (by (try simp only [List.map_toArray, List.map_cons, List.map_nil]); first | done | rfl | (simp only [List.length_drop, List.length_take]; rfl)) ?_
      with_reducible refine (frame_asks.calls k a0_0 _ _ l0_1 a0_2 a0_3 a0_4 a0_5 a0_6 a0_7 t428 _ ?side1 ?side2 A7.out).mono ?_
      (case side1 => repeat (first | exact (Kd.C_below HR0_1.out HB.out) | (with_reducible refine Kd.C_alloc ?_ _) | (with_reducible refine Kd.C_drewN ?_ _) | (with_reducible refine Kd.C_drew ?_)))
      (case side2 => exact HC0_1.out)
      rintro e w21 ⟨rfl, hb⟩
      refine ⟨_, rfl, ?_⟩
      replace BK424 := rB BK424 hb; replace BK425 := rB BK425 hb; replace BK430 := rB BK430 hb; replace HB := rS HB hb
      (try clear hb)
      
      
      
      refine hK.out _ _ ⟨kC BK424 0, kC BK424 1, kC BK424 2, kC BK424 3, kC BK424 4, kC BK424 5, kC BK424 6, kC BK424 7⟩ (fun hHeld => ?_)
      clear hK K; refine norm_ (a' := ?_) ?_ ?_
      rotate_left
      ·show Act.put _ (some 20) _ = _
       simp only [Act.put, sA, sB, sC, i64_w, i32_w]
       rfl
      refine one_ (i := 9) (N := some 28) #[true, true, true, true, true, true, true, true, true, true, false, true, false] rfl rfl (one_of HT_.out (by kernel_rfl)) (by decide) (fun K hK => ?_)
      refine goes_ Try.func56 (by kernel_rfl) rfl #[.slice A0_1 l0_1.length c0_1, .string (⟨#[]⟩ : ByteArray)] (by rfl) rfl rfl (by (try simp only [List.map_toArray, List.map_cons, List.map_nil]); first | done | rfl | (simp only [List.length_drop, List.length_take]; rfl)) ?_
      with_reducible refine (strings_Join.calls _ _ l0_1 (⟨#[]⟩ : ByteArray) t429 _ ?side1 ?side2 A8.out).mono ?_
      (case side1 => repeat (first | exact (Kd.C_below HR0_1.out HB.out) | (with_reducible refine Kd.C_alloc ?_ _) | (with_reducible refine Kd.C_drewN ?_ _) | (with_reducible refine Kd.C_drew ?_)))
      (case side2 => exact HC0_1.out)
      rintro e w22 ⟨rfl, hb⟩
      refine ⟨_, rfl, ?_⟩
      replace BK424 := rB BK424 hb; replace BK425 := rB BK425 hb; replace BK430 := rB BK430 hb; replace HB := rS HB hb
      (try clear hb)
      
      
      
      refine hK.out _ _ ⟨kC BK424 0, kC BK424 1, kC BK424 2, kC BK424 3, kC BK424 4, kC BK424 5, kC BK424 6, kC BK424 7⟩ (fun hHeld => ?_)
      clear hK K; refine norm_ (a' := ?_) ?_ ?_
      rotate_left
      ·show Act.put _ (some 28) _ = _
       simp only [Act.put, sA, sB, sC, i64_w, i32_w]
       rfl
      refine pU HT_ 10 (some 29) ?_ #[true, true, true, true, true, true, true, true, true, true, true, true, false] rfl rfl ?_ ?_ ?_ ?_
      rotate_left
      ·intro w'
       go_simp
       with_reducible rfl
      rotate_left
      ·simp only [Act.put, sA, sB, sC, i64_w, i32_w]
       rfl
      exact norm_ (by simp only [putAll, Act.put, sA, sB, sC]) (hCont (gb430) _ ⟨hHeld, (bK BK424.out), (bK BK425.out), (bK BK430.out), GW430.out, GE430.out, NB424_430.out, NB430_424.out, NB425_430.out, NB430_425.out, (bH HB.out)⟩)
    rintro gb430 w23 ⟨hS_, h0_, h1_, h2_, h3_, h4_, h5_, h6_, h7_, h8_, h9_⟩
    have n0_ : Aside0 (w23.heap[gb424]? = some (.cells #[.int .i64 a0_0, .slice A0_1 l0_1.length c0_1, .int .u32 a0_2, .int .i64 a0_3, .string a0_4, .int .u64 a0_5, .int .u64 a0_6, .bool a0_7] 70 (0, 0))) := ⟨h0_⟩; have n1_ : Aside0 (w23.heap[gb425]? = some (.cells #[.bool false, .int .u8 0, .int .u16 0, .int .u32 0, .int .u64 0, .string (⟨#[]⟩ : ByteArray), .string (⟨#[]⟩ : ByteArray), .string (⟨#[]⟩ : ByteArray)] 31 (0, 0))) := ⟨h1_⟩; have n2_ : Aside0 (w23.heap[gb430]? = some (.cells #[.bool false, .int .u8 0, .int .u16 0, .int .u32 0, .int .u64 0, .string (⟨#[]⟩ : ByteArray), .string (⟨#[]⟩ : ByteArray), .string (⟨#[]⟩ : ByteArray)] 31 (0, 0))) := ⟨h2_⟩; have n3_ : Aside0 (w.heap.size ≤ gb430) := ⟨h3_⟩; have n4_ : Aside0 (w.heap.size ≤ gb430) := ⟨h4_⟩; have n5_ : Aside0 (gb424 ≠ gb430) := ⟨h5_⟩; have n6_ : Aside0 (gb430 ≠ gb424) := ⟨h6_⟩; have n7_ : Aside0 (gb425 ≠ gb430) := ⟨h7_⟩; have n8_ : Aside0 (gb430 ≠ gb425) := ⟨h8_⟩; have n9_ : Aside0 (Below w.heap.size w w23) := ⟨h9_⟩; clear BK424; clear BK425; clear HB; clear h0_ h1_ h2_ h3_ h4_ h5_ h6_ h7_ h8_ h9_; have BK424 := n0_; have BK425 := n1_; have BK430 := n2_; have GW430 := n3_; have GE430 := n4_; have NB424_430 := n5_; have NB430_424 := n6_; have NB425_430 := n7_; have NB430_425 := n8_; have HB := n9_; clear n0_ n1_ n2_ n3_ n4_ n5_ n6_ n7_ n8_ n9_; have hHeld : w23.cell? ⟨gb424, 0, none⟩ = some (.int .i64 a0_0) ∧ w23.cell? ⟨gb424, 1, none⟩ = some (.slice A0_1 l0_1.length c0_1) ∧ w23.cell? ⟨gb424, 2, none⟩ = some (.int .u32 a0_2) ∧ w23.cell? ⟨gb424, 3, none⟩ = some (.int .i64 a0_3) ∧ w23.cell? ⟨gb424, 4, none⟩ = some (.string a0_4) ∧ w23.cell? ⟨gb424, 5, none⟩ = some (.int .u64 a0_5) ∧ w23.cell? ⟨gb424, 6, none⟩ = some (.int .u64 a0_6) ∧ w23.cell? ⟨gb424, 7, none⟩ = some (.bool a0_7) := hS_; refine norm_ (a' := ?_) ?_ ?_
    rotate_left
    ·simp only [putAll, Act.put, sA, sB, sC]
     rfl
    refine one_ (i := 12) (N := none) #[true, true, true, true, true, true, true, true, true, true, true, true, true] rfl rfl (one_of HT_.out (by kernel_rfl)) (by decide) (fun K hK => ?_)
    have hs24 : w23.cell? ⟨gb430, 0, none⟩ = some (.bool false) := (blk_cell BK430.out 0).trans rfl; have hfs24 := blk_frozen BK430.out 0; have hns24_0 := NB424_430.out; have hns24_1 := NB425_430.out; have hms24_0 := NB430_424.out; have hms24_1 := NB430_425.out; have hs25 : w23.cell? ⟨gb430, 1, none⟩ = some (.int .u8 0) := (blk_cell BK430.out 1).trans rfl; have hfs25 := blk_frozen BK430.out 1; have hns25_0 := NB424_430.out; have hns25_1 := NB425_430.out; have hms25_0 := NB430_424.out; have hms25_1 := NB430_425.out; have hs26 : w23.cell? ⟨gb430, 2, none⟩ = some (.int .u16 0) := (blk_cell BK430.out 2).trans rfl; have hfs26 := blk_frozen BK430.out 2; have hns26_0 := NB424_430.out; have hns26_1 := NB425_430.out; have hms26_0 := NB430_424.out; have hms26_1 := NB430_425.out; have hs27 : w23.cell? ⟨gb430, 3, none⟩ = some (.int .u32 0) := (blk_cell BK430.out 3).trans rfl; have hfs27 := blk_frozen BK430.out 3; have hns27_0 := NB424_430.out; have hns27_1 := NB425_430.out; have hms27_0 := NB430_424.out; have hms27_1 := NB430_425.out; have hs28 : w23.cell? ⟨gb430, 4, none⟩ = some (.int .u64 0) := (blk_cell BK430.out 4).trans rfl; have hfs28 := blk_frozen BK430.out 4; have hns28_0 := NB424_430.out; have hns28_1 := NB425_430.out; have hms28_0 := NB430_424.out; have hms28_1 := NB430_425.out; have hs29 : w23.cell? ⟨gb430, 5, none⟩ = some (.string (⟨#[]⟩ : ByteArray)) := (blk_cell BK430.out 5).trans rfl; have hfs29 := blk_frozen BK430.out 5; have hns29_0 := NB424_430.out; have hns29_1 := NB425_430.out; have hms29_0 := NB430_424.out; have hms29_1 := NB430_425.out; have hs30 : w23.cell? ⟨gb430, 6, none⟩ = some (.string (⟨#[]⟩ : ByteArray)) := (blk_cell BK430.out 6).trans rfl; have hfs30 := blk_frozen BK430.out 6; have hns30_0 := NB424_430.out; have hns30_1 := NB425_430.out; have hms30_0 := NB430_424.out; have hms30_1 := NB430_425.out; have hs31 : w23.cell? ⟨gb430, 7, none⟩ = some (.string (⟨#[]⟩ : ByteArray)) := (blk_cell BK430.out 7).trans rfl; have hfs31 := blk_frozen BK430.out 7; have hns31_0 := NB424_430.out; have hns31_1 := NB425_430.out; have hms31_0 := NB430_424.out; have hms31_1 := NB430_425.out; refine skip_ (w1 := ?_) (by rfl) rfl ?_ ?_
    rotate_left
    ·go_simp
     rfl
    refine hK.out _ _ ⟨(kF hHeld.1), (kF hHeld.2.1), (kF hHeld.2.2.1), (kF hHeld.2.2.2.1), (kF hHeld.2.2.2.2.1), (kF hHeld.2.2.2.2.2.1), (kF hHeld.2.2.2.2.2.2.1), (kF hHeld.2.2.2.2.2.2.2)⟩ (fun hHeld => ?_)
    clear hK K; refine done_ (done_of HT_.out (by kernel_rfl)) ?_
    have hnb32 := rP NB424_430 NB430_424; obtain ⟨hcz33, hfz33⟩ := d8 BK424
    try go_wp2_with (first | ((with_reducible refine gate_callee (f := 46) rfl ?_); refine gL (some 35) rfl rfl Try.func46 #[.int .u64 ((wrap32 (a0_3)) % 4294967296), .int .i64 4] rfl ?_; (with_reducible refine (frame_number.calls k ((wrap32 (a0_3)) % 4294967296) 4 t431 _ A9.out).mono ?_); rintro e w34 ⟨rfl, hb⟩; refine ⟨_, rfl, ?_⟩; replace BK424 := rB BK424 hb; replace BK425 := rB BK425 hb; replace BK430 := Aside0.mk (blk_below (g := gb430) (o := .cells #[.bool false, .int .u8 t428, .int .u16 0, .int .u32 a1, .int .u64 a0_5, .string (⟨#[]⟩ : ByteArray), .string t429, .string a0_4] 31 (0, 0)) (bV BK430.out) hb); replace HB := rS HB hb; (try clear hb); obtain ⟨hcz35, hfz35⟩ := d8 BK424) | ((with_reducible refine gate_callee (f := 49) rfl ?_); refine gL (some 38) rfl rfl Try.func49 #[.int .i64 a0_0] rfl ?_; (with_reducible refine (frame_extras.calls k a0_0 t432 _ A10.out).mono ?_); rintro e w' ⟨rfl, ⟨nd, rfl⟩⟩; refine ⟨_, rfl, ?_⟩; (try simp only [World.drewN_drewN]); (try (rw [drewN_self w34]; generalize hq_ : World.drewN w34 _ = w34; have n0_ := Aside0.mk (bQ BK424.out hq_); have n1_ := Aside0.mk (bQ BK425.out hq_); have n2_ := Aside0.mk (bQ BK430.out hq_); have n3_ := Aside0.mk (bF HB.out hq_); clear BK424 BK425 BK430 HB hq_; have BK424 := n0_; have BK425 := n1_; have BK430 := n2_; have HB := n3_; clear n0_ n1_ n2_ n3_; have hcr424_0 : w34.cell? ⟨gb424, 0, none⟩ = some (.int .i64 a0_0) := (blk_cell BK424.out 0).trans rfl; have hfr424_0 := blk_frozen BK424.out 0; have hcr424_1 : w34.cell? ⟨gb424, 1, none⟩ = some (.slice A0_1 l0_1.length c0_1) := (blk_cell BK424.out 1).trans rfl; have hfr424_1 := blk_frozen BK424.out 1; have hcr424_2 : w34.cell? ⟨gb424, 2, none⟩ = some (.int .u32 a0_2) := (blk_cell BK424.out 2).trans rfl; have hfr424_2 := blk_frozen BK424.out 2; have hcr424_3 : w34.cell? ⟨gb424, 3, none⟩ = some (.int .i64 a0_3) := (blk_cell BK424.out 3).trans rfl; have hfr424_3 := blk_frozen BK424.out 3; have hcr424_4 : w34.cell? ⟨gb424, 4, none⟩ = some (.string a0_4) := (blk_cell BK424.out 4).trans rfl; have hfr424_4 := blk_frozen BK424.out 4; have hcr424_5 : w34.cell? ⟨gb424, 5, none⟩ = some (.int .u64 a0_5) := (blk_cell BK424.out 5).trans rfl; have hfr424_5 := blk_frozen BK424.out 5; have hcr424_6 : w34.cell? ⟨gb424, 6, none⟩ = some (.int .u64 a0_6) := (blk_cell BK424.out 6).trans rfl; have hfr424_6 := blk_frozen BK424.out 6; have hcr424_7 : w34.cell? ⟨gb424, 7, none⟩ = some (.bool a0_7) := (blk_cell BK424.out 7).trans rfl; have hfr424_7 := blk_frozen BK424.out 7)); have hnb36 := rP NB430_425 NB425_430; obtain ⟨hcz37, hfz37⟩ := d8 BK430; obtain ⟨hcz38, hfz38⟩ := d8 BK425))
    refine bodyPost_ret (results_ct rfl _ _ gb425 31 #[.bool false, .int .u8 t428, .int .u16 0, .int .u32 a1, .int .u64 a0_5, .string t431, .string t429, .string a0_4] (0, 0) _ rfl (bV BK425.out) Try.underlying31 rfl (by kernel_rfl)) rfl ?_
    exact ⟨xR, bH HB.out⟩
   ·rw [if_neg c11] at H; have c11b0 : (t432 == 4) = false := beq_eq_false_iff_ne.mpr c11; have c11b1 : (t432 != 4) = true := bne_iff_ne.mpr c11
    by_cases c39 : t432 = 8
    ·rw [if_pos c39] at H; have c39b0 : (t432 == 8) = true := beq_iff_eq.mpr c39; have c39b1 : (t432 != 8) = false := bne_eq_false_iff_eq.mpr c39; clear c39; replace H := Option.bind_eq_some_iff.mp H; obtain ⟨t433, A400, H⟩ := H; (try dsimp only at H); have A40 := Aside0.mk A400; clear A400
     by_cases c41 : t433.size + t431.size ≤ 9223372036854775807
     ·rw [if_pos c41] at H; have c41b0 := eq_true c41; have c41b1 : decide (t433.size + t431.size ≤ 9223372036854775807) = true := decide_eq_true c41
      try have c41b2 : (9223372036854775807 < t433.size + t431.size) = False := eq_false (Nat.not_lt.2 c41)
      simp only [Option.some.injEq, Prod.mk.injEq] at H; obtain ⟨rfl, rfl, rfl, rfl, rfl, rfl, rfl, rfl, rfl⟩ := H; go_enter Try.func32, Try.ntmps32
      try go_wp2_with (first | ((with_reducible refine gate_dst (N := 2) rfl ?_); refine bE 2 #[.int .i64 a0_0, .slice A0_1 l0_1.length c0_1, .int .u32 a0_2, .int .i64 a0_3, .string a0_4, .int .u64 a0_5, .int .u64 a0_6, .bool a0_7] 70 rfl rfl ?_; intro gb424 hg w42 hbox hb; have BK424 := rM hbox; have GW424 := rG HB hg; replace HB := rS HB hb; have GE424 := GW424; clear hb hbox hg) | ((with_reducible refine gate_dst (N := 4) rfl ?_); refine bE 4 #[.bool false, .int .u8 0, .int .u16 0, .int .u32 0, .int .u64 0, .string (⟨#[]⟩ : ByteArray), .string (⟨#[]⟩ : ByteArray), .string (⟨#[]⟩ : ByteArray)] 31 rfl rfl ?_; intro gb425 hg w43 hbox hb; have BK425 := rM hbox; have GW425 := rG HB hg; replace HB := rS HB hb; have GE425 := GW425; have NB424_425 := rN BK424 hg; replace BK424 := rB BK424 hb; have NB425_424 := rY NB424_425; clear hb hbox hg; have hnb44 := rP NB424_425 NB425_424; obtain ⟨hcz45, hfz45⟩ := d8 BK424) | ((with_reducible refine gate_callee (f := 51) rfl ?_); refine gL (some 10) rfl rfl Try.func51 #[.agg #[.int .i64 a0_0, .slice A0_1 l0_1.length c0_1, .int .u32 a0_2, .int .i64 a0_3, .string a0_4, .int .u64 a0_5, .int .u64 a0_6, .bool a0_7]] rfl ?_; (with_reducible refine (verb_Check.calls k a0_0 _ _ l0_1 a0_2 a0_3 a0_4 a0_5 a0_6 a0_7 t426 _ ?side1 ?side2 A3.out).mono ?_); (case side1 => repeat (first | exact (Kd.C_below HR0_1.out HB.out) | (with_reducible refine Kd.C_alloc ?_ _) | (with_reducible refine Kd.C_drewN ?_ _) | (with_reducible refine Kd.C_drew ?_))); (case side2 => exact HC0_1.out); rintro e w46 ⟨rfl, hb⟩; refine ⟨_, rfl, ?_⟩; replace BK424 := rB BK424 hb; replace BK425 := rB BK425 hb; replace HB := rS HB hb; (try clear hb); obtain ⟨hcz47, hfz47⟩ := d8 BK424) | ((with_reducible refine gate_callee (f := 54) rfl ?_); refine gL (some 16) rfl rfl Try.func54 #[.agg #[.int .i64 a0_0, .slice A0_1 l0_1.length c0_1, .int .u32 a0_2, .int .i64 a0_3, .string a0_4, .int .u64 a0_5, .int .u64 a0_6, .bool a0_7]] rfl ?_; (with_reducible refine (frame_plain.calls k a0_0 _ _ l0_1 a0_2 a0_3 a0_4 a0_5 a0_6 a0_7 true _ ?side1 ?side2 A5.out).mono ?_); (case side1 => repeat (first | exact (Kd.C_below HR0_1.out HB.out) | (with_reducible refine Kd.C_alloc ?_ _) | (with_reducible refine Kd.C_drewN ?_ _) | (with_reducible refine Kd.C_drew ?_))); (case side2 => exact HC0_1.out); rintro e w48 ⟨rfl, hb⟩; refine ⟨_, rfl, ?_⟩; replace BK424 := rB BK424 hb; replace BK425 := rB BK425 hb; replace HB := rS HB hb; (try clear hb); ))
      replace BK424 := Aside0.mk (bD BK424.out); replace BK425 := Aside0.mk (bD BK425.out); replace HB := Aside0.mk (eD HB.out); refine start_ (n := 13) (S := fun w' => w'.cell? ⟨gb424, 0, none⟩ = some (.int .i64 a0_0) ∧ w'.cell? ⟨gb424, 1, none⟩ = some (.slice A0_1 l0_1.length c0_1) ∧ w'.cell? ⟨gb424, 2, none⟩ = some (.int .u32 a0_2) ∧ w'.cell? ⟨gb424, 3, none⟩ = some (.int .i64 a0_3) ∧ w'.cell? ⟨gb424, 4, none⟩ = some (.string a0_4) ∧ w'.cell? ⟨gb424, 5, none⟩ = some (.int .u64 a0_5) ∧ w'.cell? ⟨gb424, 6, none⟩ = some (.int .u64 a0_6) ∧ w'.cell? ⟨gb424, 7, none⟩ = some (.bool a0_7)) (ds := []) #[false, false, false, false, false, false, false, false, false, false, false, false, false] (by kernel_rfl) rfl rfl ⟨kC BK424 0, kC BK424 1, kC BK424 2, kC BK424 3, kC BK424 4, kC BK424 5, kC BK424 6, kC BK424 7⟩ (fun hHeld => ?_); refine with_tabW frame_Request.tab6 frame_Request.bits6 (fun HT_ HW_ => ?_)
      generalize w48.drew = w49 at BK424 BK425 HB hHeld ⊢; refine pU HT_ 2 (some 21) ?_ #[false, false, true, false, false, false, false, false, false, false, false, false, false] rfl rfl ?_ ?_ ?_ ?_
      rotate_left
      ·intro w'
       go_simp
       with_reducible rfl
      rotate_left
      ·simp only [Act.put, sA, sB, sC, i64_w, i32_w]
       rfl
      refine pU HT_ 3 (some 22) ?_ #[false, false, true, true, false, false, false, false, false, false, false, false, false] rfl rfl ?_ ?_ ?_ ?_
      rotate_left
      ·intro w'
       go_simp
       with_reducible rfl
      rotate_left
      ·simp only [Act.put, sA, sB, sC, i64_w, i32_w]
       rfl
      refine pU HT_ 5 (some 24) ?_ #[false, false, true, true, false, true, false, false, false, false, false, false, false] rfl rfl ?_ ?_ ?_ ?_
      rotate_left
      ·intro w'
       go_simp
       with_reducible rfl
      rotate_left
      ·simp only [Act.put, sA, sB, sC, i64_w, i32_w]
       rfl
      refine pU HT_ 7 (some 26) ?_ #[false, false, true, true, false, true, false, true, false, false, false, false, false] rfl rfl ?_ ?_ ?_ ?_
      rotate_left
      ·intro w'
       go_simp
       with_reducible rfl
      rotate_left
      ·simp only [Act.put, sA, sB, sC, i64_w, i32_w]
       rfl
      refine tU HT_ HW_ hHeld 0 (some 19) ?_ #[true, false, true, true, false, true, false, true, false, false, false, false, false] rfl rfl ?_ ?_ ?_ ?_
      rotate_left
      ·rintro w' ⟨s0, s1, s2, s3, s4, s5, s6, s7⟩
       go_simp
       with_reducible rfl
      rotate_left
      ·simp only [Act.put, sA, sB, sC, i64_w, i32_w]
       rfl
      refine tU HT_ HW_ hHeld 4 (some 23) ?_ #[true, false, true, true, true, true, false, true, false, false, false, false, false] rfl rfl ?_ ?_ ?_ ?_
      rotate_left
      ·rintro w' ⟨s0, s1, s2, s3, s4, s5, s6, s7⟩
       go_simp
       with_reducible rfl
      rotate_left
      ·simp only [Act.put, sA, sB, sC, i64_w, i32_w]
       rfl
      refine tU HT_ HW_ hHeld 6 (some 25) ?_ #[true, false, true, true, true, true, true, true, false, false, false, false, false] rfl rfl ?_ ?_ ?_ ?_
      rotate_left
      ·rintro w' ⟨s0, s1, s2, s3, s4, s5, s6, s7⟩
       go_simp
       with_reducible rfl
      rotate_left
      ·simp only [Act.put, sA, sB, sC, i64_w, i32_w]
       rfl
      refine tU HT_ HW_ hHeld 8 (some 27) ?_ #[true, false, true, true, true, true, true, true, true, false, false, false, false] rfl rfl ?_ ?_ ?_ ?_
      rotate_left
      ·rintro w' ⟨s0, s1, s2, s3, s4, s5, s6, s7⟩
       go_simp
       with_reducible rfl
      rotate_left
      ·simp only [Act.put, sA, sB, sC, i64_w, i32_w]
       rfl
      refine join_ (σ := Nat) 1 #[true, true, true, true, true, true, true, true, true, true, true, true, false] (fun s_ => [(20, .int .u8 t428), (28, .string t429), (7, .pointer (some ⟨s_, 0, none⟩)), (29, .agg #[.bool false, .int .u8 t428, .int .u16 0, .int .u32 a1, .int .u64 a0_5, .string (⟨#[]⟩ : ByteArray), .string t429, .string a0_4])]) (fun s_ w' => (w'.cell? ⟨gb424, 0, none⟩ = some (.int .i64 a0_0) ∧ w'.cell? ⟨gb424, 1, none⟩ = some (.slice A0_1 l0_1.length c0_1) ∧ w'.cell? ⟨gb424, 2, none⟩ = some (.int .u32 a0_2) ∧ w'.cell? ⟨gb424, 3, none⟩ = some (.int .i64 a0_3) ∧ w'.cell? ⟨gb424, 4, none⟩ = some (.string a0_4) ∧ w'.cell? ⟨gb424, 5, none⟩ = some (.int .u64 a0_5) ∧ w'.cell? ⟨gb424, 6, none⟩ = some (.int .u64 a0_6) ∧ w'.cell? ⟨gb424, 7, none⟩ = some (.bool a0_7)) ∧ (w'.heap[gb424]? = some (.cells #[.int .i64 a0_0, .slice A0_1 l0_1.length c0_1, .int .u32 a0_2, .int .i64 a0_3, .string a0_4, .int .u64 a0_5, .int .u64 a0_6, .bool a0_7] 70 (0, 0))) ∧ (w'.heap[gb425]? = some (.cells #[.bool false, .int .u8 0, .int .u16 0, .int .u32 0, .int .u64 0, .string (⟨#[]⟩ : ByteArray), .string (⟨#[]⟩ : ByteArray), .string (⟨#[]⟩ : ByteArray)] 31 (0, 0))) ∧ (w'.heap[s_]? = some (.cells #[.bool false, .int .u8 0, .int .u16 0, .int .u32 0, .int .u64 0, .string (⟨#[]⟩ : ByteArray), .string (⟨#[]⟩ : ByteArray), .string (⟨#[]⟩ : ByteArray)] 31 (0, 0))) ∧ (w.heap.size ≤ s_) ∧ (w.heap.size ≤ s_) ∧ (gb424 ≠ s_) ∧ (s_ ≠ gb424) ∧ (gb425 ≠ s_) ∧ (s_ ≠ gb425) ∧ (Below w.heap.size w w')) ?_ ?_
      rotate_left
      ·intro hCont
       refine two_ (i := 1) (j := 11) (Ni := some 20) (Nj := some 7) #[true, true, true, true, true, true, true, true, true, false, false, false, false] #[true, false, true, true, true, true, true, true, true, false, false, true, false] rfl rfl rfl rfl (two_of HT_.out (by kernel_rfl)) (by decide) (by decide) (fun K hK => ?_) (fun K hK => ?_)
       ·skip
        refine goes_ Try.func55 (by kernel_rfl) rfl #[.agg #[.int .i64 a0_0, .slice A0_1 l0_1.length c0_1, .int .u32 a0_2, .int .i64 a0_3, .string a0_4, .int .u64 a0_5, .int .u64 a0_6, .bool a0_7]] (by rfl) rfl rfl (by (try simp only [List.map_toArray, List.map_cons, List.map_nil]); first | done | rfl | (simp only [List.length_drop, List.length_take]; rfl)) ?_
        with_reducible refine (frame_asks.calls k a0_0 _ _ l0_1 a0_2 a0_3 a0_4 a0_5 a0_6 a0_7 t428 _ ?side1 ?side2 A7.out).mono ?_
        (case side1 => repeat (first | exact (Kd.C_below HR0_1.out HB.out) | (with_reducible refine Kd.C_alloc ?_ _) | (with_reducible refine Kd.C_drewN ?_ _) | (with_reducible refine Kd.C_drew ?_)))
        (case side2 => exact HC0_1.out)
        rintro e w50 ⟨rfl, hb⟩
        refine ⟨_, rfl, ?_⟩
        replace BK424 := rB BK424 hb; replace BK425 := rB BK425 hb; replace HB := rS HB hb
        (try clear hb)
        
        
        
        refine hK.out _ _ ⟨kC BK424 0, kC BK424 1, kC BK424 2, kC BK424 3, kC BK424 4, kC BK424 5, kC BK424 6, kC BK424 7⟩ (fun hHeld => ?_)
        clear hK K; refine norm_ (a' := ?_) ?_ ?_
        rotate_left
        ·show Act.put _ (some 20) _ = _
         simp only [Act.put, sA, sB, sC, i64_w, i32_w]
         rfl
        refine two_ (i := 9) (j := 11) (Ni := some 28) (Nj := some 7) #[true, true, true, true, true, true, true, true, true, true, false, false, false] #[true, true, true, true, true, true, true, true, true, false, false, true, false] rfl rfl rfl rfl (two_of HT_.out (by kernel_rfl)) (by decide) (by decide) (fun K hK => ?_) (fun K hK => ?_)
        ·skip
         refine goes_ Try.func56 (by kernel_rfl) rfl #[.slice A0_1 l0_1.length c0_1, .string (⟨#[]⟩ : ByteArray)] (by rfl) rfl rfl (by (try simp only [List.map_toArray, List.map_cons, List.map_nil]); first | done | rfl | (simp only [List.length_drop, List.length_take]; rfl)) ?_
         with_reducible refine (strings_Join.calls _ _ l0_1 (⟨#[]⟩ : ByteArray) t429 _ ?side1 ?side2 A8.out).mono ?_
         (case side1 => repeat (first | exact (Kd.C_below HR0_1.out HB.out) | (with_reducible refine Kd.C_alloc ?_ _) | (with_reducible refine Kd.C_drewN ?_ _) | (with_reducible refine Kd.C_drew ?_)))
         (case side2 => exact HC0_1.out)
         rintro e w51 ⟨rfl, hb⟩
         refine ⟨_, rfl, ?_⟩
         replace BK424 := rB BK424 hb; replace BK425 := rB BK425 hb; replace HB := rS HB hb
         (try clear hb)
         
         
         
         refine hK.out _ _ ⟨kC BK424 0, kC BK424 1, kC BK424 2, kC BK424 3, kC BK424 4, kC BK424 5, kC BK424 6, kC BK424 7⟩ (fun hHeld => ?_)
         clear hK K; refine norm_ (a' := ?_) ?_ ?_
         rotate_left
         ·show Act.put _ (some 28) _ = _
          simp only [Act.put, sA, sB, sC, i64_w, i32_w]
          rfl
         refine pU HT_ 10 (some 29) ?_ #[true, true, true, true, true, true, true, true, true, true, true, false, false] rfl rfl ?_ ?_ ?_ ?_
         rotate_left
         ·intro w'
          go_simp
          with_reducible rfl
         rotate_left
         ·simp only [Act.put, sA, sB, sC, i64_w, i32_w]
          rfl
         refine one_ (i := 11) (N := some 7) #[true, true, true, true, true, true, true, true, true, true, true, true, false] rfl rfl (one_of HT_.out (by kernel_rfl)) (by decide) (fun K hK => ?_)
         refine box_step ?hg (N := 7) ?hd (cs := #[.bool false, .int .u8 0, .int .u16 0, .int .u32 0, .int .u64 0, .string (⟨#[]⟩ : ByteArray), .string (⟨#[]⟩ : ByteArray), .string (⟨#[]⟩ : ByteArray)]) (t := 31) ?hr ?_; (case hd => rfl); (case hg => rfl); (case hr => first | (go_simp; done) | (go_simp; rfl))
         intro gb430 hg w52 hbox hb
         have BK430 := rM hbox; have GW430 := rG HB hg; replace HB := rS HB hb; have GE430 := GW430; have NB424_430 := rN BK424 hg; replace BK424 := rB BK424 hb; have NB430_424 := rY NB424_430; have NB425_430 := rN BK425 hg; replace BK425 := rB BK425 hb; have NB430_425 := rY NB425_430; clear hb hbox hg; refine hK.out _ _ ⟨kC BK424 0, kC BK424 1, kC BK424 2, kC BK424 3, kC BK424 4, kC BK424 5, kC BK424 6, kC BK424 7⟩ (fun hHeld => ?_)
         clear hK K; refine norm_ (a' := ?_) ?_ ?_
         rotate_left
         ·show Act.put _ (some 7) _ = _
          simp only [Act.put, sA, sB, sC, i64_w, i32_w]
          rfl
         exact norm_ (by simp only [putAll, Act.put, sA, sB, sC]) (hCont (gb430) _ ⟨hHeld, (bK BK424.out), (bK BK425.out), (bK BK430.out), GW430.out, GE430.out, NB424_430.out, NB430_424.out, NB425_430.out, NB430_425.out, (bH HB.out)⟩)
        ·skip
         refine box_step ?hg (N := 7) ?hd (cs := #[.bool false, .int .u8 0, .int .u16 0, .int .u32 0, .int .u64 0, .string (⟨#[]⟩ : ByteArray), .string (⟨#[]⟩ : ByteArray), .string (⟨#[]⟩ : ByteArray)]) (t := 31) ?hr ?_; (case hd => rfl); (case hg => rfl); (case hr => first | (go_simp; done) | (go_simp; rfl))
         intro gb430 hg w51 hbox hb
         have BK430 := rM hbox; have GW430 := rG HB hg; replace HB := rS HB hb; have GE430 := GW430; have NB424_430 := rN BK424 hg; replace BK424 := rB BK424 hb; have NB430_424 := rY NB424_430; have NB425_430 := rN BK425 hg; replace BK425 := rB BK425 hb; have NB430_425 := rY NB425_430; clear hb hbox hg; refine hK.out _ _ ⟨kC BK424 0, kC BK424 1, kC BK424 2, kC BK424 3, kC BK424 4, kC BK424 5, kC BK424 6, kC BK424 7⟩ (fun hHeld => ?_)
         clear hK K; refine norm_ (a' := ?_) ?_ ?_
         rotate_left
         ·show Act.put _ (some 7) _ = _
          simp only [Act.put, sA, sB, sC, i64_w, i32_w]
          rfl
         refine one_ (i := 9) (N := some 28) #[true, true, true, true, true, true, true, true, true, true, false, true, false] rfl rfl (one_of HT_.out (by kernel_rfl)) (by decide) (fun K hK => ?_)
         refine goes_ Try.func56 (by kernel_rfl) rfl #[.slice A0_1 l0_1.length c0_1, .string (⟨#[]⟩ : ByteArray)] (by rfl) rfl rfl (by (try simp only [List.map_toArray, List.map_cons, List.map_nil]); first | done | rfl | (simp only [List.length_drop, List.length_take]; rfl)) ?_
         with_reducible refine (strings_Join.calls _ _ l0_1 (⟨#[]⟩ : ByteArray) t429 _ ?side1 ?side2 A8.out).mono ?_
         (case side1 => repeat (first | exact (Kd.C_below HR0_1.out HB.out) | (with_reducible refine Kd.C_alloc ?_ _) | (with_reducible refine Kd.C_drewN ?_ _) | (with_reducible refine Kd.C_drew ?_)))
         (case side2 => exact HC0_1.out)
         rintro e w52 ⟨rfl, hb⟩
         refine ⟨_, rfl, ?_⟩
         replace BK424 := rB BK424 hb; replace BK425 := rB BK425 hb; replace BK430 := rB BK430 hb; replace HB := rS HB hb
         (try clear hb)
         
         
         
         refine hK.out _ _ ⟨kC BK424 0, kC BK424 1, kC BK424 2, kC BK424 3, kC BK424 4, kC BK424 5, kC BK424 6, kC BK424 7⟩ (fun hHeld => ?_)
         clear hK K; refine norm_ (a' := ?_) ?_ ?_
         rotate_left
         ·show Act.put _ (some 28) _ = _
          simp only [Act.put, sA, sB, sC, i64_w, i32_w]
          rfl
         refine pU HT_ 10 (some 29) ?_ #[true, true, true, true, true, true, true, true, true, true, true, true, false] rfl rfl ?_ ?_ ?_ ?_
         rotate_left
         ·intro w'
          go_simp
          with_reducible rfl
         rotate_left
         ·simp only [Act.put, sA, sB, sC, i64_w, i32_w]
          rfl
         exact norm_ (by simp only [putAll, Act.put, sA, sB, sC]) (hCont (gb430) _ ⟨hHeld, (bK BK424.out), (bK BK425.out), (bK BK430.out), GW430.out, GE430.out, NB424_430.out, NB430_424.out, NB425_430.out, NB430_425.out, (bH HB.out)⟩)
       ·skip
        refine box_step ?hg (N := 7) ?hd (cs := #[.bool false, .int .u8 0, .int .u16 0, .int .u32 0, .int .u64 0, .string (⟨#[]⟩ : ByteArray), .string (⟨#[]⟩ : ByteArray), .string (⟨#[]⟩ : ByteArray)]) (t := 31) ?hr ?_; (case hd => rfl); (case hg => rfl); (case hr => first | (go_simp; done) | (go_simp; rfl))
        intro gb430 hg w50 hbox hb
        have BK430 := rM hbox; have GW430 := rG HB hg; replace HB := rS HB hb; have GE430 := GW430; have NB424_430 := rN BK424 hg; replace BK424 := rB BK424 hb; have NB430_424 := rY NB424_430; have NB425_430 := rN BK425 hg; replace BK425 := rB BK425 hb; have NB430_425 := rY NB425_430; clear hb hbox hg; refine hK.out _ _ ⟨kC BK424 0, kC BK424 1, kC BK424 2, kC BK424 3, kC BK424 4, kC BK424 5, kC BK424 6, kC BK424 7⟩ (fun hHeld => ?_)
        clear hK K; refine norm_ (a' := ?_) ?_ ?_
        rotate_left
        ·show Act.put _ (some 7) _ = _
         simp only [Act.put, sA, sB, sC, i64_w, i32_w]
         rfl
        refine one_ (i := 1) (N := some 20) #[true, true, true, true, true, true, true, true, true, false, false, true, false] rfl rfl (one_of HT_.out (by kernel_rfl)) (by decide) (fun K hK => ?_)
        refine goes_ Try.func55 (by kernel_rfl) rfl #[.agg #[.int .i64 a0_0, .slice A0_1 l0_1.length c0_1, .int .u32 a0_2, .int .i64 a0_3, .string a0_4, .int .u64 a0_5, .int .u64 a0_6, .bool a0_7]] (by rfl) rfl rfl (by (try simp only [List.map_toArray, List.map_cons, List.map_nil]); first | done | rfl | (simp only [List.length_drop, List.length_take]; rfl)) ?_
        with_reducible refine (frame_asks.calls k a0_0 _ _ l0_1 a0_2 a0_3 a0_4 a0_5 a0_6 a0_7 t428 _ ?side1 ?side2 A7.out).mono ?_
        (case side1 => repeat (first | exact (Kd.C_below HR0_1.out HB.out) | (with_reducible refine Kd.C_alloc ?_ _) | (with_reducible refine Kd.C_drewN ?_ _) | (with_reducible refine Kd.C_drew ?_)))
        (case side2 => exact HC0_1.out)
        rintro e w51 ⟨rfl, hb⟩
        refine ⟨_, rfl, ?_⟩
        replace BK424 := rB BK424 hb; replace BK425 := rB BK425 hb; replace BK430 := rB BK430 hb; replace HB := rS HB hb
        (try clear hb)
        
        
        
        refine hK.out _ _ ⟨kC BK424 0, kC BK424 1, kC BK424 2, kC BK424 3, kC BK424 4, kC BK424 5, kC BK424 6, kC BK424 7⟩ (fun hHeld => ?_)
        clear hK K; refine norm_ (a' := ?_) ?_ ?_
        rotate_left
        ·show Act.put _ (some 20) _ = _
         simp only [Act.put, sA, sB, sC, i64_w, i32_w]
         rfl
        refine one_ (i := 9) (N := some 28) #[true, true, true, true, true, true, true, true, true, true, false, true, false] rfl rfl (one_of HT_.out (by kernel_rfl)) (by decide) (fun K hK => ?_)
        refine goes_ Try.func56 (by kernel_rfl) rfl #[.slice A0_1 l0_1.length c0_1, .string (⟨#[]⟩ : ByteArray)] (by rfl) rfl rfl (by (try simp only [List.map_toArray, List.map_cons, List.map_nil]); first | done | rfl | (simp only [List.length_drop, List.length_take]; rfl)) ?_
        with_reducible refine (strings_Join.calls _ _ l0_1 (⟨#[]⟩ : ByteArray) t429 _ ?side1 ?side2 A8.out).mono ?_
        (case side1 => repeat (first | exact (Kd.C_below HR0_1.out HB.out) | (with_reducible refine Kd.C_alloc ?_ _) | (with_reducible refine Kd.C_drewN ?_ _) | (with_reducible refine Kd.C_drew ?_)))
        (case side2 => exact HC0_1.out)
        rintro e w52 ⟨rfl, hb⟩
        refine ⟨_, rfl, ?_⟩
        replace BK424 := rB BK424 hb; replace BK425 := rB BK425 hb; replace BK430 := rB BK430 hb; replace HB := rS HB hb
        (try clear hb)
        
        
        
        refine hK.out _ _ ⟨kC BK424 0, kC BK424 1, kC BK424 2, kC BK424 3, kC BK424 4, kC BK424 5, kC BK424 6, kC BK424 7⟩ (fun hHeld => ?_)
        clear hK K; refine norm_ (a' := ?_) ?_ ?_
        rotate_left
        ·show Act.put _ (some 28) _ = _
         simp only [Act.put, sA, sB, sC, i64_w, i32_w]
         rfl
        refine pU HT_ 10 (some 29) ?_ #[true, true, true, true, true, true, true, true, true, true, true, true, false] rfl rfl ?_ ?_ ?_ ?_
        rotate_left
        ·intro w'
         go_simp
         with_reducible rfl
        rotate_left
        ·simp only [Act.put, sA, sB, sC, i64_w, i32_w]
         rfl
        exact norm_ (by simp only [putAll, Act.put, sA, sB, sC]) (hCont (gb430) _ ⟨hHeld, (bK BK424.out), (bK BK425.out), (bK BK430.out), GW430.out, GE430.out, NB424_430.out, NB430_424.out, NB425_430.out, NB430_425.out, (bH HB.out)⟩)
      rintro gb430 w53 ⟨hS_, h0_, h1_, h2_, h3_, h4_, h5_, h6_, h7_, h8_, h9_⟩
      have n0_ : Aside0 (w53.heap[gb424]? = some (.cells #[.int .i64 a0_0, .slice A0_1 l0_1.length c0_1, .int .u32 a0_2, .int .i64 a0_3, .string a0_4, .int .u64 a0_5, .int .u64 a0_6, .bool a0_7] 70 (0, 0))) := ⟨h0_⟩; have n1_ : Aside0 (w53.heap[gb425]? = some (.cells #[.bool false, .int .u8 0, .int .u16 0, .int .u32 0, .int .u64 0, .string (⟨#[]⟩ : ByteArray), .string (⟨#[]⟩ : ByteArray), .string (⟨#[]⟩ : ByteArray)] 31 (0, 0))) := ⟨h1_⟩; have n2_ : Aside0 (w53.heap[gb430]? = some (.cells #[.bool false, .int .u8 0, .int .u16 0, .int .u32 0, .int .u64 0, .string (⟨#[]⟩ : ByteArray), .string (⟨#[]⟩ : ByteArray), .string (⟨#[]⟩ : ByteArray)] 31 (0, 0))) := ⟨h2_⟩; have n3_ : Aside0 (w.heap.size ≤ gb430) := ⟨h3_⟩; have n4_ : Aside0 (w.heap.size ≤ gb430) := ⟨h4_⟩; have n5_ : Aside0 (gb424 ≠ gb430) := ⟨h5_⟩; have n6_ : Aside0 (gb430 ≠ gb424) := ⟨h6_⟩; have n7_ : Aside0 (gb425 ≠ gb430) := ⟨h7_⟩; have n8_ : Aside0 (gb430 ≠ gb425) := ⟨h8_⟩; have n9_ : Aside0 (Below w.heap.size w w53) := ⟨h9_⟩; clear BK424; clear BK425; clear HB; clear h0_ h1_ h2_ h3_ h4_ h5_ h6_ h7_ h8_ h9_; have BK424 := n0_; have BK425 := n1_; have BK430 := n2_; have GW430 := n3_; have GE430 := n4_; have NB424_430 := n5_; have NB430_424 := n6_; have NB425_430 := n7_; have NB430_425 := n8_; have HB := n9_; clear n0_ n1_ n2_ n3_ n4_ n5_ n6_ n7_ n8_ n9_; have hHeld : w53.cell? ⟨gb424, 0, none⟩ = some (.int .i64 a0_0) ∧ w53.cell? ⟨gb424, 1, none⟩ = some (.slice A0_1 l0_1.length c0_1) ∧ w53.cell? ⟨gb424, 2, none⟩ = some (.int .u32 a0_2) ∧ w53.cell? ⟨gb424, 3, none⟩ = some (.int .i64 a0_3) ∧ w53.cell? ⟨gb424, 4, none⟩ = some (.string a0_4) ∧ w53.cell? ⟨gb424, 5, none⟩ = some (.int .u64 a0_5) ∧ w53.cell? ⟨gb424, 6, none⟩ = some (.int .u64 a0_6) ∧ w53.cell? ⟨gb424, 7, none⟩ = some (.bool a0_7) := hS_; refine norm_ (a' := ?_) ?_ ?_
      rotate_left
      ·simp only [putAll, Act.put, sA, sB, sC]
       rfl
      refine one_ (i := 12) (N := none) #[true, true, true, true, true, true, true, true, true, true, true, true, true] rfl rfl (one_of HT_.out (by kernel_rfl)) (by decide) (fun K hK => ?_)
      have hs54 : w53.cell? ⟨gb430, 0, none⟩ = some (.bool false) := (blk_cell BK430.out 0).trans rfl; have hfs54 := blk_frozen BK430.out 0; have hns54_0 := NB424_430.out; have hns54_1 := NB425_430.out; have hms54_0 := NB430_424.out; have hms54_1 := NB430_425.out; have hs55 : w53.cell? ⟨gb430, 1, none⟩ = some (.int .u8 0) := (blk_cell BK430.out 1).trans rfl; have hfs55 := blk_frozen BK430.out 1; have hns55_0 := NB424_430.out; have hns55_1 := NB425_430.out; have hms55_0 := NB430_424.out; have hms55_1 := NB430_425.out; have hs56 : w53.cell? ⟨gb430, 2, none⟩ = some (.int .u16 0) := (blk_cell BK430.out 2).trans rfl; have hfs56 := blk_frozen BK430.out 2; have hns56_0 := NB424_430.out; have hns56_1 := NB425_430.out; have hms56_0 := NB430_424.out; have hms56_1 := NB430_425.out; have hs57 : w53.cell? ⟨gb430, 3, none⟩ = some (.int .u32 0) := (blk_cell BK430.out 3).trans rfl; have hfs57 := blk_frozen BK430.out 3; have hns57_0 := NB424_430.out; have hns57_1 := NB425_430.out; have hms57_0 := NB430_424.out; have hms57_1 := NB430_425.out; have hs58 : w53.cell? ⟨gb430, 4, none⟩ = some (.int .u64 0) := (blk_cell BK430.out 4).trans rfl; have hfs58 := blk_frozen BK430.out 4; have hns58_0 := NB424_430.out; have hns58_1 := NB425_430.out; have hms58_0 := NB430_424.out; have hms58_1 := NB430_425.out; have hs59 : w53.cell? ⟨gb430, 5, none⟩ = some (.string (⟨#[]⟩ : ByteArray)) := (blk_cell BK430.out 5).trans rfl; have hfs59 := blk_frozen BK430.out 5; have hns59_0 := NB424_430.out; have hns59_1 := NB425_430.out; have hms59_0 := NB430_424.out; have hms59_1 := NB430_425.out; have hs60 : w53.cell? ⟨gb430, 6, none⟩ = some (.string (⟨#[]⟩ : ByteArray)) := (blk_cell BK430.out 6).trans rfl; have hfs60 := blk_frozen BK430.out 6; have hns60_0 := NB424_430.out; have hns60_1 := NB425_430.out; have hms60_0 := NB430_424.out; have hms60_1 := NB430_425.out; have hs61 : w53.cell? ⟨gb430, 7, none⟩ = some (.string (⟨#[]⟩ : ByteArray)) := (blk_cell BK430.out 7).trans rfl; have hfs61 := blk_frozen BK430.out 7; have hns61_0 := NB424_430.out; have hns61_1 := NB425_430.out; have hms61_0 := NB430_424.out; have hms61_1 := NB430_425.out; refine skip_ (w1 := ?_) (by rfl) rfl ?_ ?_
      rotate_left
      ·go_simp
       rfl
      refine hK.out _ _ ⟨(kF hHeld.1), (kF hHeld.2.1), (kF hHeld.2.2.1), (kF hHeld.2.2.2.1), (kF hHeld.2.2.2.2.1), (kF hHeld.2.2.2.2.2.1), (kF hHeld.2.2.2.2.2.2.1), (kF hHeld.2.2.2.2.2.2.2)⟩ (fun hHeld => ?_)
      clear hK K; refine done_ (done_of HT_.out (by kernel_rfl)) ?_
      have hnb62 := rP NB424_430 NB430_424; obtain ⟨hcz63, hfz63⟩ := d8 BK424
      try go_wp2_with (first | ((with_reducible refine gate_callee (f := 46) rfl ?_); refine gL (some 35) rfl rfl Try.func46 #[.int .u64 ((wrap32 (a0_3)) % 4294967296), .int .i64 4] rfl ?_; (with_reducible refine (frame_number.calls k ((wrap32 (a0_3)) % 4294967296) 4 t431 _ A9.out).mono ?_); rintro e w64 ⟨rfl, hb⟩; refine ⟨_, rfl, ?_⟩; replace BK424 := rB BK424 hb; replace BK425 := rB BK425 hb; replace BK430 := Aside0.mk (blk_below (g := gb430) (o := .cells #[.bool false, .int .u8 t428, .int .u16 0, .int .u32 a1, .int .u64 a0_5, .string (⟨#[]⟩ : ByteArray), .string t429, .string a0_4] 31 (0, 0)) (bV BK430.out) hb); replace HB := rS HB hb; (try clear hb); obtain ⟨hcz65, hfz65⟩ := d8 BK424) | ((with_reducible refine gate_callee (f := 49) rfl ?_); refine gL (some 38) rfl rfl Try.func49 #[.int .i64 a0_0] rfl ?_; (with_reducible refine (frame_extras.calls k a0_0 t432 _ A10.out).mono ?_); rintro e w' ⟨rfl, ⟨nd, rfl⟩⟩; refine ⟨_, rfl, ?_⟩; (try simp only [World.drewN_drewN]); (try (rw [drewN_self w64]; generalize hq_ : World.drewN w64 _ = w64; have n0_ := Aside0.mk (bQ BK424.out hq_); have n1_ := Aside0.mk (bQ BK425.out hq_); have n2_ := Aside0.mk (bQ BK430.out hq_); have n3_ := Aside0.mk (bF HB.out hq_); clear BK424 BK425 BK430 HB hq_; have BK424 := n0_; have BK425 := n1_; have BK430 := n2_; have HB := n3_; clear n0_ n1_ n2_ n3_; have hcr424_0 : w64.cell? ⟨gb424, 0, none⟩ = some (.int .i64 a0_0) := (blk_cell BK424.out 0).trans rfl; have hfr424_0 := blk_frozen BK424.out 0; have hcr424_1 : w64.cell? ⟨gb424, 1, none⟩ = some (.slice A0_1 l0_1.length c0_1) := (blk_cell BK424.out 1).trans rfl; have hfr424_1 := blk_frozen BK424.out 1; have hcr424_2 : w64.cell? ⟨gb424, 2, none⟩ = some (.int .u32 a0_2) := (blk_cell BK424.out 2).trans rfl; have hfr424_2 := blk_frozen BK424.out 2; have hcr424_3 : w64.cell? ⟨gb424, 3, none⟩ = some (.int .i64 a0_3) := (blk_cell BK424.out 3).trans rfl; have hfr424_3 := blk_frozen BK424.out 3; have hcr424_4 : w64.cell? ⟨gb424, 4, none⟩ = some (.string a0_4) := (blk_cell BK424.out 4).trans rfl; have hfr424_4 := blk_frozen BK424.out 4; have hcr424_5 : w64.cell? ⟨gb424, 5, none⟩ = some (.int .u64 a0_5) := (blk_cell BK424.out 5).trans rfl; have hfr424_5 := blk_frozen BK424.out 5; have hcr424_6 : w64.cell? ⟨gb424, 6, none⟩ = some (.int .u64 a0_6) := (blk_cell BK424.out 6).trans rfl; have hfr424_6 := blk_frozen BK424.out 6; have hcr424_7 : w64.cell? ⟨gb424, 7, none⟩ = some (.bool a0_7) := (blk_cell BK424.out 7).trans rfl; have hfr424_7 := blk_frozen BK424.out 7))) | ((with_reducible refine gate_callee (f := 46) rfl ?_); refine gL (some 48) rfl rfl Try.func46 #[.int .u64 (IntKind.u64.wrap (a0_2)), .int .i64 4] rfl ?_; (with_reducible refine (frame_number.calls k (IntKind.u64.wrap (a0_2)) 4 t433 _ A40.out).mono ?_); rintro e w66 ⟨rfl, hb⟩; refine ⟨_, rfl, ?_⟩; replace BK424 := rB BK424 hb; replace BK425 := rB BK425 hb; replace BK430 := rB BK430 hb; replace HB := rS HB hb; (try clear hb); have hnb67 := rP NB430_425 NB425_430; obtain ⟨hcz68, hfz68⟩ := d8 BK430; obtain ⟨hcz69, hfz69⟩ := d8 BK425))
      refine bodyPost_ret (results_ct rfl _ _ gb425 31 #[.bool false, .int .u8 t428, .int .u16 0, .int .u32 a1, .int .u64 a0_5, .string (t433 ++ t431), .string t429, .string a0_4] (0, 0) _ rfl (bV BK425.out) Try.underlying31 rfl (by kernel_rfl)) rfl ?_
      exact ⟨xR, bH HB.out⟩
     ·rw [if_neg c41] at H; exact absurd H (by simp)
    ·rw [if_neg c39] at H; have c39b0 : (t432 == 8) = false := beq_eq_false_iff_ne.mpr c39; have c39b1 : (t432 != 8) = true := bne_iff_ne.mpr c39
     by_cases c70 : t432 = 20
     ·rw [if_pos c70] at H; have c70b0 : (t432 == 20) = true := beq_iff_eq.mpr c70; have c70b1 : (t432 != 20) = false := bne_eq_false_iff_eq.mpr c70; clear c70; replace H := Option.bind_eq_some_iff.mp H; obtain ⟨t434, A710, H⟩ := H; (try dsimp only at H); have A71 := Aside0.mk A710; clear A710; replace H := Option.bind_eq_some_iff.mp H; obtain ⟨t435, A720, H⟩ := H; (try dsimp only at H); have A72 := Aside0.mk A720; clear A720
      by_cases c73 : t434.size + t435.size ≤ 9223372036854775807
      ·rw [if_pos c73] at H; have c73b0 := eq_true c73; have c73b1 : decide (t434.size + t435.size ≤ 9223372036854775807) = true := decide_eq_true c73
       try have c73b2 : (9223372036854775807 < t434.size + t435.size) = False := eq_false (Nat.not_lt.2 c73)
       replace H := Option.bind_eq_some_iff.mp H; obtain ⟨t436, A740, H⟩ := H; (try dsimp only at H); have A74 := Aside0.mk A740; clear A740
       by_cases c75 : (t434 ++ t435).size + t436.size ≤ 9223372036854775807
       ·rw [if_pos c75] at H; have c75b0 := eq_true c75; have c75b1 : decide ((t434 ++ t435).size + t436.size ≤ 9223372036854775807) = true := decide_eq_true c75
        try have c75b2 : (9223372036854775807 < (t434 ++ t435).size + t436.size) = False := eq_false (Nat.not_lt.2 c75)
        try (have c75b3 := c75b2; simp only [ByteArray.size_append] at c75b3)
        simp only [Option.some.injEq, Prod.mk.injEq] at H; obtain ⟨rfl, rfl, rfl, rfl, rfl, rfl, rfl, rfl, rfl⟩ := H; go_enter Try.func32, Try.ntmps32
        try go_wp2_with (first | ((with_reducible refine gate_dst (N := 2) rfl ?_); refine bE 2 #[.int .i64 a0_0, .slice A0_1 l0_1.length c0_1, .int .u32 a0_2, .int .i64 a0_3, .string a0_4, .int .u64 a0_5, .int .u64 a0_6, .bool a0_7] 70 rfl rfl ?_; intro gb424 hg w76 hbox hb; have BK424 := rM hbox; have GW424 := rG HB hg; replace HB := rS HB hb; have GE424 := GW424; clear hb hbox hg) | ((with_reducible refine gate_dst (N := 4) rfl ?_); refine bE 4 #[.bool false, .int .u8 0, .int .u16 0, .int .u32 0, .int .u64 0, .string (⟨#[]⟩ : ByteArray), .string (⟨#[]⟩ : ByteArray), .string (⟨#[]⟩ : ByteArray)] 31 rfl rfl ?_; intro gb425 hg w77 hbox hb; have BK425 := rM hbox; have GW425 := rG HB hg; replace HB := rS HB hb; have GE425 := GW425; have NB424_425 := rN BK424 hg; replace BK424 := rB BK424 hb; have NB425_424 := rY NB424_425; clear hb hbox hg; have hnb78 := rP NB424_425 NB425_424; obtain ⟨hcz79, hfz79⟩ := d8 BK424) | ((with_reducible refine gate_callee (f := 51) rfl ?_); refine gL (some 10) rfl rfl Try.func51 #[.agg #[.int .i64 a0_0, .slice A0_1 l0_1.length c0_1, .int .u32 a0_2, .int .i64 a0_3, .string a0_4, .int .u64 a0_5, .int .u64 a0_6, .bool a0_7]] rfl ?_; (with_reducible refine (verb_Check.calls k a0_0 _ _ l0_1 a0_2 a0_3 a0_4 a0_5 a0_6 a0_7 t426 _ ?side1 ?side2 A3.out).mono ?_); (case side1 => repeat (first | exact (Kd.C_below HR0_1.out HB.out) | (with_reducible refine Kd.C_alloc ?_ _) | (with_reducible refine Kd.C_drewN ?_ _) | (with_reducible refine Kd.C_drew ?_))); (case side2 => exact HC0_1.out); rintro e w80 ⟨rfl, hb⟩; refine ⟨_, rfl, ?_⟩; replace BK424 := rB BK424 hb; replace BK425 := rB BK425 hb; replace HB := rS HB hb; (try clear hb); obtain ⟨hcz81, hfz81⟩ := d8 BK424) | ((with_reducible refine gate_callee (f := 54) rfl ?_); refine gL (some 16) rfl rfl Try.func54 #[.agg #[.int .i64 a0_0, .slice A0_1 l0_1.length c0_1, .int .u32 a0_2, .int .i64 a0_3, .string a0_4, .int .u64 a0_5, .int .u64 a0_6, .bool a0_7]] rfl ?_; (with_reducible refine (frame_plain.calls k a0_0 _ _ l0_1 a0_2 a0_3 a0_4 a0_5 a0_6 a0_7 true _ ?side1 ?side2 A5.out).mono ?_); (case side1 => repeat (first | exact (Kd.C_below HR0_1.out HB.out) | (with_reducible refine Kd.C_alloc ?_ _) | (with_reducible refine Kd.C_drewN ?_ _) | (with_reducible refine Kd.C_drew ?_))); (case side2 => exact HC0_1.out); rintro e w82 ⟨rfl, hb⟩; refine ⟨_, rfl, ?_⟩; replace BK424 := rB BK424 hb; replace BK425 := rB BK425 hb; replace HB := rS HB hb; (try clear hb); ))
        replace BK424 := Aside0.mk (bD BK424.out); replace BK425 := Aside0.mk (bD BK425.out); replace HB := Aside0.mk (eD HB.out); refine start_ (n := 13) (S := fun w' => w'.cell? ⟨gb424, 0, none⟩ = some (.int .i64 a0_0) ∧ w'.cell? ⟨gb424, 1, none⟩ = some (.slice A0_1 l0_1.length c0_1) ∧ w'.cell? ⟨gb424, 2, none⟩ = some (.int .u32 a0_2) ∧ w'.cell? ⟨gb424, 3, none⟩ = some (.int .i64 a0_3) ∧ w'.cell? ⟨gb424, 4, none⟩ = some (.string a0_4) ∧ w'.cell? ⟨gb424, 5, none⟩ = some (.int .u64 a0_5) ∧ w'.cell? ⟨gb424, 6, none⟩ = some (.int .u64 a0_6) ∧ w'.cell? ⟨gb424, 7, none⟩ = some (.bool a0_7)) (ds := []) #[false, false, false, false, false, false, false, false, false, false, false, false, false] (by kernel_rfl) rfl rfl ⟨kC BK424 0, kC BK424 1, kC BK424 2, kC BK424 3, kC BK424 4, kC BK424 5, kC BK424 6, kC BK424 7⟩ (fun hHeld => ?_); refine with_tabW frame_Request.tab6 frame_Request.bits6 (fun HT_ HW_ => ?_)
        generalize w82.drew = w83 at BK424 BK425 HB hHeld ⊢; refine pU HT_ 2 (some 21) ?_ #[false, false, true, false, false, false, false, false, false, false, false, false, false] rfl rfl ?_ ?_ ?_ ?_
        rotate_left
        ·intro w'
         go_simp
         with_reducible rfl
        rotate_left
        ·simp only [Act.put, sA, sB, sC, i64_w, i32_w]
         rfl
        refine pU HT_ 3 (some 22) ?_ #[false, false, true, true, false, false, false, false, false, false, false, false, false] rfl rfl ?_ ?_ ?_ ?_
        rotate_left
        ·intro w'
         go_simp
         with_reducible rfl
        rotate_left
        ·simp only [Act.put, sA, sB, sC, i64_w, i32_w]
         rfl
        refine pU HT_ 5 (some 24) ?_ #[false, false, true, true, false, true, false, false, false, false, false, false, false] rfl rfl ?_ ?_ ?_ ?_
        rotate_left
        ·intro w'
         go_simp
         with_reducible rfl
        rotate_left
        ·simp only [Act.put, sA, sB, sC, i64_w, i32_w]
         rfl
        refine pU HT_ 7 (some 26) ?_ #[false, false, true, true, false, true, false, true, false, false, false, false, false] rfl rfl ?_ ?_ ?_ ?_
        rotate_left
        ·intro w'
         go_simp
         with_reducible rfl
        rotate_left
        ·simp only [Act.put, sA, sB, sC, i64_w, i32_w]
         rfl
        refine tU HT_ HW_ hHeld 0 (some 19) ?_ #[true, false, true, true, false, true, false, true, false, false, false, false, false] rfl rfl ?_ ?_ ?_ ?_
        rotate_left
        ·rintro w' ⟨s0, s1, s2, s3, s4, s5, s6, s7⟩
         go_simp
         with_reducible rfl
        rotate_left
        ·simp only [Act.put, sA, sB, sC, i64_w, i32_w]
         rfl
        refine tU HT_ HW_ hHeld 4 (some 23) ?_ #[true, false, true, true, true, true, false, true, false, false, false, false, false] rfl rfl ?_ ?_ ?_ ?_
        rotate_left
        ·rintro w' ⟨s0, s1, s2, s3, s4, s5, s6, s7⟩
         go_simp
         with_reducible rfl
        rotate_left
        ·simp only [Act.put, sA, sB, sC, i64_w, i32_w]
         rfl
        refine tU HT_ HW_ hHeld 6 (some 25) ?_ #[true, false, true, true, true, true, true, true, false, false, false, false, false] rfl rfl ?_ ?_ ?_ ?_
        rotate_left
        ·rintro w' ⟨s0, s1, s2, s3, s4, s5, s6, s7⟩
         go_simp
         with_reducible rfl
        rotate_left
        ·simp only [Act.put, sA, sB, sC, i64_w, i32_w]
         rfl
        refine tU HT_ HW_ hHeld 8 (some 27) ?_ #[true, false, true, true, true, true, true, true, true, false, false, false, false] rfl rfl ?_ ?_ ?_ ?_
        rotate_left
        ·rintro w' ⟨s0, s1, s2, s3, s4, s5, s6, s7⟩
         go_simp
         with_reducible rfl
        rotate_left
        ·simp only [Act.put, sA, sB, sC, i64_w, i32_w]
         rfl
        refine join_ (σ := Nat) 1 #[true, true, true, true, true, true, true, true, true, true, true, true, false] (fun s_ => [(20, .int .u8 t428), (28, .string t429), (7, .pointer (some ⟨s_, 0, none⟩)), (29, .agg #[.bool false, .int .u8 t428, .int .u16 0, .int .u32 a1, .int .u64 a0_5, .string (⟨#[]⟩ : ByteArray), .string t429, .string a0_4])]) (fun s_ w' => (w'.cell? ⟨gb424, 0, none⟩ = some (.int .i64 a0_0) ∧ w'.cell? ⟨gb424, 1, none⟩ = some (.slice A0_1 l0_1.length c0_1) ∧ w'.cell? ⟨gb424, 2, none⟩ = some (.int .u32 a0_2) ∧ w'.cell? ⟨gb424, 3, none⟩ = some (.int .i64 a0_3) ∧ w'.cell? ⟨gb424, 4, none⟩ = some (.string a0_4) ∧ w'.cell? ⟨gb424, 5, none⟩ = some (.int .u64 a0_5) ∧ w'.cell? ⟨gb424, 6, none⟩ = some (.int .u64 a0_6) ∧ w'.cell? ⟨gb424, 7, none⟩ = some (.bool a0_7)) ∧ (w'.heap[gb424]? = some (.cells #[.int .i64 a0_0, .slice A0_1 l0_1.length c0_1, .int .u32 a0_2, .int .i64 a0_3, .string a0_4, .int .u64 a0_5, .int .u64 a0_6, .bool a0_7] 70 (0, 0))) ∧ (w'.heap[gb425]? = some (.cells #[.bool false, .int .u8 0, .int .u16 0, .int .u32 0, .int .u64 0, .string (⟨#[]⟩ : ByteArray), .string (⟨#[]⟩ : ByteArray), .string (⟨#[]⟩ : ByteArray)] 31 (0, 0))) ∧ (w'.heap[s_]? = some (.cells #[.bool false, .int .u8 0, .int .u16 0, .int .u32 0, .int .u64 0, .string (⟨#[]⟩ : ByteArray), .string (⟨#[]⟩ : ByteArray), .string (⟨#[]⟩ : ByteArray)] 31 (0, 0))) ∧ (w.heap.size ≤ s_) ∧ (w.heap.size ≤ s_) ∧ (gb424 ≠ s_) ∧ (s_ ≠ gb424) ∧ (gb425 ≠ s_) ∧ (s_ ≠ gb425) ∧ (Below w.heap.size w w')) ?_ ?_
        rotate_left
        ·intro hCont
         refine two_ (i := 1) (j := 11) (Ni := some 20) (Nj := some 7) #[true, true, true, true, true, true, true, true, true, false, false, false, false] #[true, false, true, true, true, true, true, true, true, false, false, true, false] rfl rfl rfl rfl (two_of HT_.out (by kernel_rfl)) (by decide) (by decide) (fun K hK => ?_) (fun K hK => ?_)
         ·skip
          refine goes_ Try.func55 (by kernel_rfl) rfl #[.agg #[.int .i64 a0_0, .slice A0_1 l0_1.length c0_1, .int .u32 a0_2, .int .i64 a0_3, .string a0_4, .int .u64 a0_5, .int .u64 a0_6, .bool a0_7]] (by rfl) rfl rfl (by (try simp only [List.map_toArray, List.map_cons, List.map_nil]); first | done | rfl | (simp only [List.length_drop, List.length_take]; rfl)) ?_
          with_reducible refine (frame_asks.calls k a0_0 _ _ l0_1 a0_2 a0_3 a0_4 a0_5 a0_6 a0_7 t428 _ ?side1 ?side2 A7.out).mono ?_
          (case side1 => repeat (first | exact (Kd.C_below HR0_1.out HB.out) | (with_reducible refine Kd.C_alloc ?_ _) | (with_reducible refine Kd.C_drewN ?_ _) | (with_reducible refine Kd.C_drew ?_)))
          (case side2 => exact HC0_1.out)
          rintro e w84 ⟨rfl, hb⟩
          refine ⟨_, rfl, ?_⟩
          replace BK424 := rB BK424 hb; replace BK425 := rB BK425 hb; replace HB := rS HB hb
          (try clear hb)
          
          
          
          refine hK.out _ _ ⟨kC BK424 0, kC BK424 1, kC BK424 2, kC BK424 3, kC BK424 4, kC BK424 5, kC BK424 6, kC BK424 7⟩ (fun hHeld => ?_)
          clear hK K; refine norm_ (a' := ?_) ?_ ?_
          rotate_left
          ·show Act.put _ (some 20) _ = _
           simp only [Act.put, sA, sB, sC, i64_w, i32_w]
           rfl
          refine two_ (i := 9) (j := 11) (Ni := some 28) (Nj := some 7) #[true, true, true, true, true, true, true, true, true, true, false, false, false] #[true, true, true, true, true, true, true, true, true, false, false, true, false] rfl rfl rfl rfl (two_of HT_.out (by kernel_rfl)) (by decide) (by decide) (fun K hK => ?_) (fun K hK => ?_)
          ·skip
           refine goes_ Try.func56 (by kernel_rfl) rfl #[.slice A0_1 l0_1.length c0_1, .string (⟨#[]⟩ : ByteArray)] (by rfl) rfl rfl (by (try simp only [List.map_toArray, List.map_cons, List.map_nil]); first | done | rfl | (simp only [List.length_drop, List.length_take]; rfl)) ?_
           with_reducible refine (strings_Join.calls _ _ l0_1 (⟨#[]⟩ : ByteArray) t429 _ ?side1 ?side2 A8.out).mono ?_
           (case side1 => repeat (first | exact (Kd.C_below HR0_1.out HB.out) | (with_reducible refine Kd.C_alloc ?_ _) | (with_reducible refine Kd.C_drewN ?_ _) | (with_reducible refine Kd.C_drew ?_)))
           (case side2 => exact HC0_1.out)
           rintro e w85 ⟨rfl, hb⟩
           refine ⟨_, rfl, ?_⟩
           replace BK424 := rB BK424 hb; replace BK425 := rB BK425 hb; replace HB := rS HB hb
           (try clear hb)
           
           
           
           refine hK.out _ _ ⟨kC BK424 0, kC BK424 1, kC BK424 2, kC BK424 3, kC BK424 4, kC BK424 5, kC BK424 6, kC BK424 7⟩ (fun hHeld => ?_)
           clear hK K; refine norm_ (a' := ?_) ?_ ?_
           rotate_left
           ·show Act.put _ (some 28) _ = _
            simp only [Act.put, sA, sB, sC, i64_w, i32_w]
            rfl
           refine pU HT_ 10 (some 29) ?_ #[true, true, true, true, true, true, true, true, true, true, true, false, false] rfl rfl ?_ ?_ ?_ ?_
           rotate_left
           ·intro w'
            go_simp
            with_reducible rfl
           rotate_left
           ·simp only [Act.put, sA, sB, sC, i64_w, i32_w]
            rfl
           refine one_ (i := 11) (N := some 7) #[true, true, true, true, true, true, true, true, true, true, true, true, false] rfl rfl (one_of HT_.out (by kernel_rfl)) (by decide) (fun K hK => ?_)
           refine box_step ?hg (N := 7) ?hd (cs := #[.bool false, .int .u8 0, .int .u16 0, .int .u32 0, .int .u64 0, .string (⟨#[]⟩ : ByteArray), .string (⟨#[]⟩ : ByteArray), .string (⟨#[]⟩ : ByteArray)]) (t := 31) ?hr ?_; (case hd => rfl); (case hg => rfl); (case hr => first | (go_simp; done) | (go_simp; rfl))
           intro gb430 hg w86 hbox hb
           have BK430 := rM hbox; have GW430 := rG HB hg; replace HB := rS HB hb; have GE430 := GW430; have NB424_430 := rN BK424 hg; replace BK424 := rB BK424 hb; have NB430_424 := rY NB424_430; have NB425_430 := rN BK425 hg; replace BK425 := rB BK425 hb; have NB430_425 := rY NB425_430; clear hb hbox hg; refine hK.out _ _ ⟨kC BK424 0, kC BK424 1, kC BK424 2, kC BK424 3, kC BK424 4, kC BK424 5, kC BK424 6, kC BK424 7⟩ (fun hHeld => ?_)
           clear hK K; refine norm_ (a' := ?_) ?_ ?_
           rotate_left
           ·show Act.put _ (some 7) _ = _
            simp only [Act.put, sA, sB, sC, i64_w, i32_w]
            rfl
           exact norm_ (by simp only [putAll, Act.put, sA, sB, sC]) (hCont (gb430) _ ⟨hHeld, (bK BK424.out), (bK BK425.out), (bK BK430.out), GW430.out, GE430.out, NB424_430.out, NB430_424.out, NB425_430.out, NB430_425.out, (bH HB.out)⟩)
          ·skip
           refine box_step ?hg (N := 7) ?hd (cs := #[.bool false, .int .u8 0, .int .u16 0, .int .u32 0, .int .u64 0, .string (⟨#[]⟩ : ByteArray), .string (⟨#[]⟩ : ByteArray), .string (⟨#[]⟩ : ByteArray)]) (t := 31) ?hr ?_; (case hd => rfl); (case hg => rfl); (case hr => first | (go_simp; done) | (go_simp; rfl))
           intro gb430 hg w85 hbox hb
           have BK430 := rM hbox; have GW430 := rG HB hg; replace HB := rS HB hb; have GE430 := GW430; have NB424_430 := rN BK424 hg; replace BK424 := rB BK424 hb; have NB430_424 := rY NB424_430; have NB425_430 := rN BK425 hg; replace BK425 := rB BK425 hb; have NB430_425 := rY NB425_430; clear hb hbox hg; refine hK.out _ _ ⟨kC BK424 0, kC BK424 1, kC BK424 2, kC BK424 3, kC BK424 4, kC BK424 5, kC BK424 6, kC BK424 7⟩ (fun hHeld => ?_)
           clear hK K; refine norm_ (a' := ?_) ?_ ?_
           rotate_left
           ·show Act.put _ (some 7) _ = _
            simp only [Act.put, sA, sB, sC, i64_w, i32_w]
            rfl
           refine one_ (i := 9) (N := some 28) #[true, true, true, true, true, true, true, true, true, true, false, true, false] rfl rfl (one_of HT_.out (by kernel_rfl)) (by decide) (fun K hK => ?_)
           refine goes_ Try.func56 (by kernel_rfl) rfl #[.slice A0_1 l0_1.length c0_1, .string (⟨#[]⟩ : ByteArray)] (by rfl) rfl rfl (by (try simp only [List.map_toArray, List.map_cons, List.map_nil]); first | done | rfl | (simp only [List.length_drop, List.length_take]; rfl)) ?_
           with_reducible refine (strings_Join.calls _ _ l0_1 (⟨#[]⟩ : ByteArray) t429 _ ?side1 ?side2 A8.out).mono ?_
           (case side1 => repeat (first | exact (Kd.C_below HR0_1.out HB.out) | (with_reducible refine Kd.C_alloc ?_ _) | (with_reducible refine Kd.C_drewN ?_ _) | (with_reducible refine Kd.C_drew ?_)))
           (case side2 => exact HC0_1.out)
           rintro e w86 ⟨rfl, hb⟩
           refine ⟨_, rfl, ?_⟩
           replace BK424 := rB BK424 hb; replace BK425 := rB BK425 hb; replace BK430 := rB BK430 hb; replace HB := rS HB hb
           (try clear hb)
           
           
           
           refine hK.out _ _ ⟨kC BK424 0, kC BK424 1, kC BK424 2, kC BK424 3, kC BK424 4, kC BK424 5, kC BK424 6, kC BK424 7⟩ (fun hHeld => ?_)
           clear hK K; refine norm_ (a' := ?_) ?_ ?_
           rotate_left
           ·show Act.put _ (some 28) _ = _
            simp only [Act.put, sA, sB, sC, i64_w, i32_w]
            rfl
           refine pU HT_ 10 (some 29) ?_ #[true, true, true, true, true, true, true, true, true, true, true, true, false] rfl rfl ?_ ?_ ?_ ?_
           rotate_left
           ·intro w'
            go_simp
            with_reducible rfl
           rotate_left
           ·simp only [Act.put, sA, sB, sC, i64_w, i32_w]
            rfl
           exact norm_ (by simp only [putAll, Act.put, sA, sB, sC]) (hCont (gb430) _ ⟨hHeld, (bK BK424.out), (bK BK425.out), (bK BK430.out), GW430.out, GE430.out, NB424_430.out, NB430_424.out, NB425_430.out, NB430_425.out, (bH HB.out)⟩)
         ·skip
          refine box_step ?hg (N := 7) ?hd (cs := #[.bool false, .int .u8 0, .int .u16 0, .int .u32 0, .int .u64 0, .string (⟨#[]⟩ : ByteArray), .string (⟨#[]⟩ : ByteArray), .string (⟨#[]⟩ : ByteArray)]) (t := 31) ?hr ?_; (case hd => rfl); (case hg => rfl); (case hr => first | (go_simp; done) | (go_simp; rfl))
          intro gb430 hg w84 hbox hb
          have BK430 := rM hbox; have GW430 := rG HB hg; replace HB := rS HB hb; have GE430 := GW430; have NB424_430 := rN BK424 hg; replace BK424 := rB BK424 hb; have NB430_424 := rY NB424_430; have NB425_430 := rN BK425 hg; replace BK425 := rB BK425 hb; have NB430_425 := rY NB425_430; clear hb hbox hg; refine hK.out _ _ ⟨kC BK424 0, kC BK424 1, kC BK424 2, kC BK424 3, kC BK424 4, kC BK424 5, kC BK424 6, kC BK424 7⟩ (fun hHeld => ?_)
          clear hK K; refine norm_ (a' := ?_) ?_ ?_
          rotate_left
          ·show Act.put _ (some 7) _ = _
           simp only [Act.put, sA, sB, sC, i64_w, i32_w]
           rfl
          refine one_ (i := 1) (N := some 20) #[true, true, true, true, true, true, true, true, true, false, false, true, false] rfl rfl (one_of HT_.out (by kernel_rfl)) (by decide) (fun K hK => ?_)
          refine goes_ Try.func55 (by kernel_rfl) rfl #[.agg #[.int .i64 a0_0, .slice A0_1 l0_1.length c0_1, .int .u32 a0_2, .int .i64 a0_3, .string a0_4, .int .u64 a0_5, .int .u64 a0_6, .bool a0_7]] (by rfl) rfl rfl (by (try simp only [List.map_toArray, List.map_cons, List.map_nil]); first | done | rfl | (simp only [List.length_drop, List.length_take]; rfl)) ?_
          with_reducible refine (frame_asks.calls k a0_0 _ _ l0_1 a0_2 a0_3 a0_4 a0_5 a0_6 a0_7 t428 _ ?side1 ?side2 A7.out).mono ?_
          (case side1 => repeat (first | exact (Kd.C_below HR0_1.out HB.out) | (with_reducible refine Kd.C_alloc ?_ _) | (with_reducible refine Kd.C_drewN ?_ _) | (with_reducible refine Kd.C_drew ?_)))
          (case side2 => exact HC0_1.out)
          rintro e w85 ⟨rfl, hb⟩
          refine ⟨_, rfl, ?_⟩
          replace BK424 := rB BK424 hb; replace BK425 := rB BK425 hb; replace BK430 := rB BK430 hb; replace HB := rS HB hb
          (try clear hb)
          
          
          
          refine hK.out _ _ ⟨kC BK424 0, kC BK424 1, kC BK424 2, kC BK424 3, kC BK424 4, kC BK424 5, kC BK424 6, kC BK424 7⟩ (fun hHeld => ?_)
          clear hK K; refine norm_ (a' := ?_) ?_ ?_
          rotate_left
          ·show Act.put _ (some 20) _ = _
           simp only [Act.put, sA, sB, sC, i64_w, i32_w]
           rfl
          refine one_ (i := 9) (N := some 28) #[true, true, true, true, true, true, true, true, true, true, false, true, false] rfl rfl (one_of HT_.out (by kernel_rfl)) (by decide) (fun K hK => ?_)
          refine goes_ Try.func56 (by kernel_rfl) rfl #[.slice A0_1 l0_1.length c0_1, .string (⟨#[]⟩ : ByteArray)] (by rfl) rfl rfl (by (try simp only [List.map_toArray, List.map_cons, List.map_nil]); first | done | rfl | (simp only [List.length_drop, List.length_take]; rfl)) ?_
          with_reducible refine (strings_Join.calls _ _ l0_1 (⟨#[]⟩ : ByteArray) t429 _ ?side1 ?side2 A8.out).mono ?_
          (case side1 => repeat (first | exact (Kd.C_below HR0_1.out HB.out) | (with_reducible refine Kd.C_alloc ?_ _) | (with_reducible refine Kd.C_drewN ?_ _) | (with_reducible refine Kd.C_drew ?_)))
          (case side2 => exact HC0_1.out)
          rintro e w86 ⟨rfl, hb⟩
          refine ⟨_, rfl, ?_⟩
          replace BK424 := rB BK424 hb; replace BK425 := rB BK425 hb; replace BK430 := rB BK430 hb; replace HB := rS HB hb
          (try clear hb)
          
          
          
          refine hK.out _ _ ⟨kC BK424 0, kC BK424 1, kC BK424 2, kC BK424 3, kC BK424 4, kC BK424 5, kC BK424 6, kC BK424 7⟩ (fun hHeld => ?_)
          clear hK K; refine norm_ (a' := ?_) ?_ ?_
          rotate_left
          ·show Act.put _ (some 28) _ = _
           simp only [Act.put, sA, sB, sC, i64_w, i32_w]
           rfl
          refine pU HT_ 10 (some 29) ?_ #[true, true, true, true, true, true, true, true, true, true, true, true, false] rfl rfl ?_ ?_ ?_ ?_
          rotate_left
          ·intro w'
           go_simp
           with_reducible rfl
          rotate_left
          ·simp only [Act.put, sA, sB, sC, i64_w, i32_w]
           rfl
          exact norm_ (by simp only [putAll, Act.put, sA, sB, sC]) (hCont (gb430) _ ⟨hHeld, (bK BK424.out), (bK BK425.out), (bK BK430.out), GW430.out, GE430.out, NB424_430.out, NB430_424.out, NB425_430.out, NB430_425.out, (bH HB.out)⟩)
        rintro gb430 w87 ⟨hS_, h0_, h1_, h2_, h3_, h4_, h5_, h6_, h7_, h8_, h9_⟩
        have n0_ : Aside0 (w87.heap[gb424]? = some (.cells #[.int .i64 a0_0, .slice A0_1 l0_1.length c0_1, .int .u32 a0_2, .int .i64 a0_3, .string a0_4, .int .u64 a0_5, .int .u64 a0_6, .bool a0_7] 70 (0, 0))) := ⟨h0_⟩; have n1_ : Aside0 (w87.heap[gb425]? = some (.cells #[.bool false, .int .u8 0, .int .u16 0, .int .u32 0, .int .u64 0, .string (⟨#[]⟩ : ByteArray), .string (⟨#[]⟩ : ByteArray), .string (⟨#[]⟩ : ByteArray)] 31 (0, 0))) := ⟨h1_⟩; have n2_ : Aside0 (w87.heap[gb430]? = some (.cells #[.bool false, .int .u8 0, .int .u16 0, .int .u32 0, .int .u64 0, .string (⟨#[]⟩ : ByteArray), .string (⟨#[]⟩ : ByteArray), .string (⟨#[]⟩ : ByteArray)] 31 (0, 0))) := ⟨h2_⟩; have n3_ : Aside0 (w.heap.size ≤ gb430) := ⟨h3_⟩; have n4_ : Aside0 (w.heap.size ≤ gb430) := ⟨h4_⟩; have n5_ : Aside0 (gb424 ≠ gb430) := ⟨h5_⟩; have n6_ : Aside0 (gb430 ≠ gb424) := ⟨h6_⟩; have n7_ : Aside0 (gb425 ≠ gb430) := ⟨h7_⟩; have n8_ : Aside0 (gb430 ≠ gb425) := ⟨h8_⟩; have n9_ : Aside0 (Below w.heap.size w w87) := ⟨h9_⟩; clear BK424; clear BK425; clear HB; clear h0_ h1_ h2_ h3_ h4_ h5_ h6_ h7_ h8_ h9_; have BK424 := n0_; have BK425 := n1_; have BK430 := n2_; have GW430 := n3_; have GE430 := n4_; have NB424_430 := n5_; have NB430_424 := n6_; have NB425_430 := n7_; have NB430_425 := n8_; have HB := n9_; clear n0_ n1_ n2_ n3_ n4_ n5_ n6_ n7_ n8_ n9_; have hHeld : w87.cell? ⟨gb424, 0, none⟩ = some (.int .i64 a0_0) ∧ w87.cell? ⟨gb424, 1, none⟩ = some (.slice A0_1 l0_1.length c0_1) ∧ w87.cell? ⟨gb424, 2, none⟩ = some (.int .u32 a0_2) ∧ w87.cell? ⟨gb424, 3, none⟩ = some (.int .i64 a0_3) ∧ w87.cell? ⟨gb424, 4, none⟩ = some (.string a0_4) ∧ w87.cell? ⟨gb424, 5, none⟩ = some (.int .u64 a0_5) ∧ w87.cell? ⟨gb424, 6, none⟩ = some (.int .u64 a0_6) ∧ w87.cell? ⟨gb424, 7, none⟩ = some (.bool a0_7) := hS_; refine norm_ (a' := ?_) ?_ ?_
        rotate_left
        ·simp only [putAll, Act.put, sA, sB, sC]
         rfl
        refine one_ (i := 12) (N := none) #[true, true, true, true, true, true, true, true, true, true, true, true, true] rfl rfl (one_of HT_.out (by kernel_rfl)) (by decide) (fun K hK => ?_)
        have hs88 : w87.cell? ⟨gb430, 0, none⟩ = some (.bool false) := (blk_cell BK430.out 0).trans rfl; have hfs88 := blk_frozen BK430.out 0; have hns88_0 := NB424_430.out; have hns88_1 := NB425_430.out; have hms88_0 := NB430_424.out; have hms88_1 := NB430_425.out; have hs89 : w87.cell? ⟨gb430, 1, none⟩ = some (.int .u8 0) := (blk_cell BK430.out 1).trans rfl; have hfs89 := blk_frozen BK430.out 1; have hns89_0 := NB424_430.out; have hns89_1 := NB425_430.out; have hms89_0 := NB430_424.out; have hms89_1 := NB430_425.out; have hs90 : w87.cell? ⟨gb430, 2, none⟩ = some (.int .u16 0) := (blk_cell BK430.out 2).trans rfl; have hfs90 := blk_frozen BK430.out 2; have hns90_0 := NB424_430.out; have hns90_1 := NB425_430.out; have hms90_0 := NB430_424.out; have hms90_1 := NB430_425.out; have hs91 : w87.cell? ⟨gb430, 3, none⟩ = some (.int .u32 0) := (blk_cell BK430.out 3).trans rfl; have hfs91 := blk_frozen BK430.out 3; have hns91_0 := NB424_430.out; have hns91_1 := NB425_430.out; have hms91_0 := NB430_424.out; have hms91_1 := NB430_425.out; have hs92 : w87.cell? ⟨gb430, 4, none⟩ = some (.int .u64 0) := (blk_cell BK430.out 4).trans rfl; have hfs92 := blk_frozen BK430.out 4; have hns92_0 := NB424_430.out; have hns92_1 := NB425_430.out; have hms92_0 := NB430_424.out; have hms92_1 := NB430_425.out; have hs93 : w87.cell? ⟨gb430, 5, none⟩ = some (.string (⟨#[]⟩ : ByteArray)) := (blk_cell BK430.out 5).trans rfl; have hfs93 := blk_frozen BK430.out 5; have hns93_0 := NB424_430.out; have hns93_1 := NB425_430.out; have hms93_0 := NB430_424.out; have hms93_1 := NB430_425.out; have hs94 : w87.cell? ⟨gb430, 6, none⟩ = some (.string (⟨#[]⟩ : ByteArray)) := (blk_cell BK430.out 6).trans rfl; have hfs94 := blk_frozen BK430.out 6; have hns94_0 := NB424_430.out; have hns94_1 := NB425_430.out; have hms94_0 := NB430_424.out; have hms94_1 := NB430_425.out; have hs95 : w87.cell? ⟨gb430, 7, none⟩ = some (.string (⟨#[]⟩ : ByteArray)) := (blk_cell BK430.out 7).trans rfl; have hfs95 := blk_frozen BK430.out 7; have hns95_0 := NB424_430.out; have hns95_1 := NB425_430.out; have hms95_0 := NB430_424.out; have hms95_1 := NB430_425.out; refine skip_ (w1 := ?_) (by rfl) rfl ?_ ?_
        rotate_left
        ·go_simp
         rfl
        refine hK.out _ _ ⟨(kF hHeld.1), (kF hHeld.2.1), (kF hHeld.2.2.1), (kF hHeld.2.2.2.1), (kF hHeld.2.2.2.2.1), (kF hHeld.2.2.2.2.2.1), (kF hHeld.2.2.2.2.2.2.1), (kF hHeld.2.2.2.2.2.2.2)⟩ (fun hHeld => ?_)
        clear hK K; refine done_ (done_of HT_.out (by kernel_rfl)) ?_
        have hnb96 := rP NB424_430 NB430_424; obtain ⟨hcz97, hfz97⟩ := d8 BK424
        try go_wp2_with (first | ((with_reducible refine gate_callee (f := 46) rfl ?_); refine gL (some 35) rfl rfl Try.func46 #[.int .u64 ((wrap32 (a0_3)) % 4294967296), .int .i64 4] rfl ?_; (with_reducible refine (frame_number.calls k ((wrap32 (a0_3)) % 4294967296) 4 t431 _ A9.out).mono ?_); rintro e w98 ⟨rfl, hb⟩; refine ⟨_, rfl, ?_⟩; replace BK424 := rB BK424 hb; replace BK425 := rB BK425 hb; replace BK430 := Aside0.mk (blk_below (g := gb430) (o := .cells #[.bool false, .int .u8 t428, .int .u16 0, .int .u32 a1, .int .u64 a0_5, .string (⟨#[]⟩ : ByteArray), .string t429, .string a0_4] 31 (0, 0)) (bV BK430.out) hb); replace HB := rS HB hb; (try clear hb); obtain ⟨hcz99, hfz99⟩ := d8 BK424) | ((with_reducible refine gate_callee (f := 49) rfl ?_); refine gL (some 38) rfl rfl Try.func49 #[.int .i64 a0_0] rfl ?_; (with_reducible refine (frame_extras.calls k a0_0 t432 _ A10.out).mono ?_); rintro e w' ⟨rfl, ⟨nd, rfl⟩⟩; refine ⟨_, rfl, ?_⟩; (try simp only [World.drewN_drewN]); (try (rw [drewN_self w98]; generalize hq_ : World.drewN w98 _ = w98; have n0_ := Aside0.mk (bQ BK424.out hq_); have n1_ := Aside0.mk (bQ BK425.out hq_); have n2_ := Aside0.mk (bQ BK430.out hq_); have n3_ := Aside0.mk (bF HB.out hq_); clear BK424 BK425 BK430 HB hq_; have BK424 := n0_; have BK425 := n1_; have BK430 := n2_; have HB := n3_; clear n0_ n1_ n2_ n3_; have hcr424_0 : w98.cell? ⟨gb424, 0, none⟩ = some (.int .i64 a0_0) := (blk_cell BK424.out 0).trans rfl; have hfr424_0 := blk_frozen BK424.out 0; have hcr424_1 : w98.cell? ⟨gb424, 1, none⟩ = some (.slice A0_1 l0_1.length c0_1) := (blk_cell BK424.out 1).trans rfl; have hfr424_1 := blk_frozen BK424.out 1; have hcr424_2 : w98.cell? ⟨gb424, 2, none⟩ = some (.int .u32 a0_2) := (blk_cell BK424.out 2).trans rfl; have hfr424_2 := blk_frozen BK424.out 2; have hcr424_3 : w98.cell? ⟨gb424, 3, none⟩ = some (.int .i64 a0_3) := (blk_cell BK424.out 3).trans rfl; have hfr424_3 := blk_frozen BK424.out 3; have hcr424_4 : w98.cell? ⟨gb424, 4, none⟩ = some (.string a0_4) := (blk_cell BK424.out 4).trans rfl; have hfr424_4 := blk_frozen BK424.out 4; have hcr424_5 : w98.cell? ⟨gb424, 5, none⟩ = some (.int .u64 a0_5) := (blk_cell BK424.out 5).trans rfl; have hfr424_5 := blk_frozen BK424.out 5; have hcr424_6 : w98.cell? ⟨gb424, 6, none⟩ = some (.int .u64 a0_6) := (blk_cell BK424.out 6).trans rfl; have hfr424_6 := blk_frozen BK424.out 6; have hcr424_7 : w98.cell? ⟨gb424, 7, none⟩ = some (.bool a0_7) := (blk_cell BK424.out 7).trans rfl; have hfr424_7 := blk_frozen BK424.out 7))) | ((with_reducible refine gate_callee (f := 46) rfl ?_); refine gL (some 56) rfl rfl Try.func46 #[.int .u64 a0_6, .int .i64 8] rfl ?_; (with_reducible refine (frame_number.calls k a0_6 8 t434 _ A71.out).mono ?_); rintro e w100 ⟨rfl, hb⟩; refine ⟨_, rfl, ?_⟩; replace BK424 := rB BK424 hb; replace BK425 := rB BK425 hb; replace BK430 := rB BK430 hb; replace HB := rS HB hb; (try clear hb); ) | ((with_reducible refine gate_callee (f := 46) rfl ?_); refine gL (some 57) rfl rfl Try.func46 #[.int .u64 0, .int .i64 8] rfl ?_; (with_reducible refine (frame_number.calls k 0 8 t435 _ A72.out).mono ?_); rintro e w101 ⟨rfl, hb⟩; refine ⟨_, rfl, ?_⟩; replace BK424 := rB BK424 hb; replace BK425 := rB BK425 hb; replace BK430 := rB BK430 hb; replace HB := rS HB hb; (try clear hb); ) | ((with_reducible refine gate_callee (f := 46) rfl ?_); refine gL (some 59) rfl rfl Try.func46 #[.int .u64 4294967295, .int .i64 4] rfl ?_; (with_reducible refine (frame_number.calls k 4294967295 4 t436 _ A74.out).mono ?_); rintro e w102 ⟨rfl, hb⟩; refine ⟨_, rfl, ?_⟩; replace BK424 := rB BK424 hb; replace BK425 := rB BK425 hb; replace BK430 := rB BK430 hb; replace HB := rS HB hb; (try clear hb); have hnb103 := rP NB430_425 NB425_430; obtain ⟨hcz104, hfz104⟩ := d8 BK430; obtain ⟨hcz105, hfz105⟩ := d8 BK425))
        refine bodyPost_ret (results_ct rfl _ _ gb425 31 #[.bool false, .int .u8 t428, .int .u16 0, .int .u32 a1, .int .u64 a0_5, .string ((t434 ++ t435) ++ t436), .string t429, .string a0_4] (0, 0) _ rfl (bV BK425.out) Try.underlying31 rfl (by kernel_rfl)) rfl ?_
        exact ⟨xR, bH HB.out⟩
       ·rw [if_neg c75] at H; exact absurd H (by simp)
      ·rw [if_neg c73] at H; exact absurd H (by simp)
     ·rw [if_neg c70] at H; have c70b0 : (t432 == 20) = false := beq_eq_false_iff_ne.mpr c70; have c70b1 : (t432 != 20) = true := bne_iff_ne.mpr c70; simp only [Option.some.injEq, Prod.mk.injEq] at H; obtain ⟨rfl, rfl, rfl, rfl, rfl, rfl, rfl, rfl, rfl⟩ := H; go_enter Try.func32, Try.ntmps32
      try go_wp2_with (first | ((with_reducible refine gate_dst (N := 2) rfl ?_); refine bE 2 #[.int .i64 a0_0, .slice A0_1 l0_1.length c0_1, .int .u32 a0_2, .int .i64 a0_3, .string a0_4, .int .u64 a0_5, .int .u64 a0_6, .bool a0_7] 70 rfl rfl ?_; intro gb424 hg w106 hbox hb; have BK424 := rM hbox; have GW424 := rG HB hg; replace HB := rS HB hb; have GE424 := GW424; clear hb hbox hg) | ((with_reducible refine gate_dst (N := 4) rfl ?_); refine bE 4 #[.bool false, .int .u8 0, .int .u16 0, .int .u32 0, .int .u64 0, .string (⟨#[]⟩ : ByteArray), .string (⟨#[]⟩ : ByteArray), .string (⟨#[]⟩ : ByteArray)] 31 rfl rfl ?_; intro gb425 hg w107 hbox hb; have BK425 := rM hbox; have GW425 := rG HB hg; replace HB := rS HB hb; have GE425 := GW425; have NB424_425 := rN BK424 hg; replace BK424 := rB BK424 hb; have NB425_424 := rY NB424_425; clear hb hbox hg; have hnb108 := rP NB424_425 NB425_424; obtain ⟨hcz109, hfz109⟩ := d8 BK424) | ((with_reducible refine gate_callee (f := 51) rfl ?_); refine gL (some 10) rfl rfl Try.func51 #[.agg #[.int .i64 a0_0, .slice A0_1 l0_1.length c0_1, .int .u32 a0_2, .int .i64 a0_3, .string a0_4, .int .u64 a0_5, .int .u64 a0_6, .bool a0_7]] rfl ?_; (with_reducible refine (verb_Check.calls k a0_0 _ _ l0_1 a0_2 a0_3 a0_4 a0_5 a0_6 a0_7 t426 _ ?side1 ?side2 A3.out).mono ?_); (case side1 => repeat (first | exact (Kd.C_below HR0_1.out HB.out) | (with_reducible refine Kd.C_alloc ?_ _) | (with_reducible refine Kd.C_drewN ?_ _) | (with_reducible refine Kd.C_drew ?_))); (case side2 => exact HC0_1.out); rintro e w110 ⟨rfl, hb⟩; refine ⟨_, rfl, ?_⟩; replace BK424 := rB BK424 hb; replace BK425 := rB BK425 hb; replace HB := rS HB hb; (try clear hb); obtain ⟨hcz111, hfz111⟩ := d8 BK424) | ((with_reducible refine gate_callee (f := 54) rfl ?_); refine gL (some 16) rfl rfl Try.func54 #[.agg #[.int .i64 a0_0, .slice A0_1 l0_1.length c0_1, .int .u32 a0_2, .int .i64 a0_3, .string a0_4, .int .u64 a0_5, .int .u64 a0_6, .bool a0_7]] rfl ?_; (with_reducible refine (frame_plain.calls k a0_0 _ _ l0_1 a0_2 a0_3 a0_4 a0_5 a0_6 a0_7 true _ ?side1 ?side2 A5.out).mono ?_); (case side1 => repeat (first | exact (Kd.C_below HR0_1.out HB.out) | (with_reducible refine Kd.C_alloc ?_ _) | (with_reducible refine Kd.C_drewN ?_ _) | (with_reducible refine Kd.C_drew ?_))); (case side2 => exact HC0_1.out); rintro e w112 ⟨rfl, hb⟩; refine ⟨_, rfl, ?_⟩; replace BK424 := rB BK424 hb; replace BK425 := rB BK425 hb; replace HB := rS HB hb; (try clear hb); ))
      replace BK424 := Aside0.mk (bD BK424.out); replace BK425 := Aside0.mk (bD BK425.out); replace HB := Aside0.mk (eD HB.out); refine start_ (n := 13) (S := fun w' => w'.cell? ⟨gb424, 0, none⟩ = some (.int .i64 a0_0) ∧ w'.cell? ⟨gb424, 1, none⟩ = some (.slice A0_1 l0_1.length c0_1) ∧ w'.cell? ⟨gb424, 2, none⟩ = some (.int .u32 a0_2) ∧ w'.cell? ⟨gb424, 3, none⟩ = some (.int .i64 a0_3) ∧ w'.cell? ⟨gb424, 4, none⟩ = some (.string a0_4) ∧ w'.cell? ⟨gb424, 5, none⟩ = some (.int .u64 a0_5) ∧ w'.cell? ⟨gb424, 6, none⟩ = some (.int .u64 a0_6) ∧ w'.cell? ⟨gb424, 7, none⟩ = some (.bool a0_7)) (ds := []) #[false, false, false, false, false, false, false, false, false, false, false, false, false] (by kernel_rfl) rfl rfl ⟨kC BK424 0, kC BK424 1, kC BK424 2, kC BK424 3, kC BK424 4, kC BK424 5, kC BK424 6, kC BK424 7⟩ (fun hHeld => ?_); refine with_tabW frame_Request.tab6 frame_Request.bits6 (fun HT_ HW_ => ?_)
      generalize w112.drew = w113 at BK424 BK425 HB hHeld ⊢; refine pU HT_ 2 (some 21) ?_ #[false, false, true, false, false, false, false, false, false, false, false, false, false] rfl rfl ?_ ?_ ?_ ?_
      rotate_left
      ·intro w'
       go_simp
       with_reducible rfl
      rotate_left
      ·simp only [Act.put, sA, sB, sC, i64_w, i32_w]
       rfl
      refine pU HT_ 3 (some 22) ?_ #[false, false, true, true, false, false, false, false, false, false, false, false, false] rfl rfl ?_ ?_ ?_ ?_
      rotate_left
      ·intro w'
       go_simp
       with_reducible rfl
      rotate_left
      ·simp only [Act.put, sA, sB, sC, i64_w, i32_w]
       rfl
      refine pU HT_ 5 (some 24) ?_ #[false, false, true, true, false, true, false, false, false, false, false, false, false] rfl rfl ?_ ?_ ?_ ?_
      rotate_left
      ·intro w'
       go_simp
       with_reducible rfl
      rotate_left
      ·simp only [Act.put, sA, sB, sC, i64_w, i32_w]
       rfl
      refine pU HT_ 7 (some 26) ?_ #[false, false, true, true, false, true, false, true, false, false, false, false, false] rfl rfl ?_ ?_ ?_ ?_
      rotate_left
      ·intro w'
       go_simp
       with_reducible rfl
      rotate_left
      ·simp only [Act.put, sA, sB, sC, i64_w, i32_w]
       rfl
      refine tU HT_ HW_ hHeld 0 (some 19) ?_ #[true, false, true, true, false, true, false, true, false, false, false, false, false] rfl rfl ?_ ?_ ?_ ?_
      rotate_left
      ·rintro w' ⟨s0, s1, s2, s3, s4, s5, s6, s7⟩
       go_simp
       with_reducible rfl
      rotate_left
      ·simp only [Act.put, sA, sB, sC, i64_w, i32_w]
       rfl
      refine tU HT_ HW_ hHeld 4 (some 23) ?_ #[true, false, true, true, true, true, false, true, false, false, false, false, false] rfl rfl ?_ ?_ ?_ ?_
      rotate_left
      ·rintro w' ⟨s0, s1, s2, s3, s4, s5, s6, s7⟩
       go_simp
       with_reducible rfl
      rotate_left
      ·simp only [Act.put, sA, sB, sC, i64_w, i32_w]
       rfl
      refine tU HT_ HW_ hHeld 6 (some 25) ?_ #[true, false, true, true, true, true, true, true, false, false, false, false, false] rfl rfl ?_ ?_ ?_ ?_
      rotate_left
      ·rintro w' ⟨s0, s1, s2, s3, s4, s5, s6, s7⟩
       go_simp
       with_reducible rfl
      rotate_left
      ·simp only [Act.put, sA, sB, sC, i64_w, i32_w]
       rfl
      refine tU HT_ HW_ hHeld 8 (some 27) ?_ #[true, false, true, true, true, true, true, true, true, false, false, false, false] rfl rfl ?_ ?_ ?_ ?_
      rotate_left
      ·rintro w' ⟨s0, s1, s2, s3, s4, s5, s6, s7⟩
       go_simp
       with_reducible rfl
      rotate_left
      ·simp only [Act.put, sA, sB, sC, i64_w, i32_w]
       rfl
      refine join_ (σ := Nat) 1 #[true, true, true, true, true, true, true, true, true, true, true, true, false] (fun s_ => [(20, .int .u8 t428), (28, .string t429), (7, .pointer (some ⟨s_, 0, none⟩)), (29, .agg #[.bool false, .int .u8 t428, .int .u16 0, .int .u32 a1, .int .u64 a0_5, .string (⟨#[]⟩ : ByteArray), .string t429, .string a0_4])]) (fun s_ w' => (w'.cell? ⟨gb424, 0, none⟩ = some (.int .i64 a0_0) ∧ w'.cell? ⟨gb424, 1, none⟩ = some (.slice A0_1 l0_1.length c0_1) ∧ w'.cell? ⟨gb424, 2, none⟩ = some (.int .u32 a0_2) ∧ w'.cell? ⟨gb424, 3, none⟩ = some (.int .i64 a0_3) ∧ w'.cell? ⟨gb424, 4, none⟩ = some (.string a0_4) ∧ w'.cell? ⟨gb424, 5, none⟩ = some (.int .u64 a0_5) ∧ w'.cell? ⟨gb424, 6, none⟩ = some (.int .u64 a0_6) ∧ w'.cell? ⟨gb424, 7, none⟩ = some (.bool a0_7)) ∧ (w'.heap[gb424]? = some (.cells #[.int .i64 a0_0, .slice A0_1 l0_1.length c0_1, .int .u32 a0_2, .int .i64 a0_3, .string a0_4, .int .u64 a0_5, .int .u64 a0_6, .bool a0_7] 70 (0, 0))) ∧ (w'.heap[gb425]? = some (.cells #[.bool false, .int .u8 0, .int .u16 0, .int .u32 0, .int .u64 0, .string (⟨#[]⟩ : ByteArray), .string (⟨#[]⟩ : ByteArray), .string (⟨#[]⟩ : ByteArray)] 31 (0, 0))) ∧ (w'.heap[s_]? = some (.cells #[.bool false, .int .u8 0, .int .u16 0, .int .u32 0, .int .u64 0, .string (⟨#[]⟩ : ByteArray), .string (⟨#[]⟩ : ByteArray), .string (⟨#[]⟩ : ByteArray)] 31 (0, 0))) ∧ (w.heap.size ≤ s_) ∧ (w.heap.size ≤ s_) ∧ (gb424 ≠ s_) ∧ (s_ ≠ gb424) ∧ (gb425 ≠ s_) ∧ (s_ ≠ gb425) ∧ (Below w.heap.size w w')) ?_ ?_
      rotate_left
      ·intro hCont
       refine two_ (i := 1) (j := 11) (Ni := some 20) (Nj := some 7) #[true, true, true, true, true, true, true, true, true, false, false, false, false] #[true, false, true, true, true, true, true, true, true, false, false, true, false] rfl rfl rfl rfl (two_of HT_.out (by kernel_rfl)) (by decide) (by decide) (fun K hK => ?_) (fun K hK => ?_)
       ·skip
        refine goes_ Try.func55 (by kernel_rfl) rfl #[.agg #[.int .i64 a0_0, .slice A0_1 l0_1.length c0_1, .int .u32 a0_2, .int .i64 a0_3, .string a0_4, .int .u64 a0_5, .int .u64 a0_6, .bool a0_7]] (by rfl) rfl rfl (by (try simp only [List.map_toArray, List.map_cons, List.map_nil]); first | done | rfl | (simp only [List.length_drop, List.length_take]; rfl)) ?_
        with_reducible refine (frame_asks.calls k a0_0 _ _ l0_1 a0_2 a0_3 a0_4 a0_5 a0_6 a0_7 t428 _ ?side1 ?side2 A7.out).mono ?_
        (case side1 => repeat (first | exact (Kd.C_below HR0_1.out HB.out) | (with_reducible refine Kd.C_alloc ?_ _) | (with_reducible refine Kd.C_drewN ?_ _) | (with_reducible refine Kd.C_drew ?_)))
        (case side2 => exact HC0_1.out)
        rintro e w114 ⟨rfl, hb⟩
        refine ⟨_, rfl, ?_⟩
        replace BK424 := rB BK424 hb; replace BK425 := rB BK425 hb; replace HB := rS HB hb
        (try clear hb)
        
        
        
        refine hK.out _ _ ⟨kC BK424 0, kC BK424 1, kC BK424 2, kC BK424 3, kC BK424 4, kC BK424 5, kC BK424 6, kC BK424 7⟩ (fun hHeld => ?_)
        clear hK K; refine norm_ (a' := ?_) ?_ ?_
        rotate_left
        ·show Act.put _ (some 20) _ = _
         simp only [Act.put, sA, sB, sC, i64_w, i32_w]
         rfl
        refine two_ (i := 9) (j := 11) (Ni := some 28) (Nj := some 7) #[true, true, true, true, true, true, true, true, true, true, false, false, false] #[true, true, true, true, true, true, true, true, true, false, false, true, false] rfl rfl rfl rfl (two_of HT_.out (by kernel_rfl)) (by decide) (by decide) (fun K hK => ?_) (fun K hK => ?_)
        ·skip
         refine goes_ Try.func56 (by kernel_rfl) rfl #[.slice A0_1 l0_1.length c0_1, .string (⟨#[]⟩ : ByteArray)] (by rfl) rfl rfl (by (try simp only [List.map_toArray, List.map_cons, List.map_nil]); first | done | rfl | (simp only [List.length_drop, List.length_take]; rfl)) ?_
         with_reducible refine (strings_Join.calls _ _ l0_1 (⟨#[]⟩ : ByteArray) t429 _ ?side1 ?side2 A8.out).mono ?_
         (case side1 => repeat (first | exact (Kd.C_below HR0_1.out HB.out) | (with_reducible refine Kd.C_alloc ?_ _) | (with_reducible refine Kd.C_drewN ?_ _) | (with_reducible refine Kd.C_drew ?_)))
         (case side2 => exact HC0_1.out)
         rintro e w115 ⟨rfl, hb⟩
         refine ⟨_, rfl, ?_⟩
         replace BK424 := rB BK424 hb; replace BK425 := rB BK425 hb; replace HB := rS HB hb
         (try clear hb)
         
         
         
         refine hK.out _ _ ⟨kC BK424 0, kC BK424 1, kC BK424 2, kC BK424 3, kC BK424 4, kC BK424 5, kC BK424 6, kC BK424 7⟩ (fun hHeld => ?_)
         clear hK K; refine norm_ (a' := ?_) ?_ ?_
         rotate_left
         ·show Act.put _ (some 28) _ = _
          simp only [Act.put, sA, sB, sC, i64_w, i32_w]
          rfl
         refine pU HT_ 10 (some 29) ?_ #[true, true, true, true, true, true, true, true, true, true, true, false, false] rfl rfl ?_ ?_ ?_ ?_
         rotate_left
         ·intro w'
          go_simp
          with_reducible rfl
         rotate_left
         ·simp only [Act.put, sA, sB, sC, i64_w, i32_w]
          rfl
         refine one_ (i := 11) (N := some 7) #[true, true, true, true, true, true, true, true, true, true, true, true, false] rfl rfl (one_of HT_.out (by kernel_rfl)) (by decide) (fun K hK => ?_)
         refine box_step ?hg (N := 7) ?hd (cs := #[.bool false, .int .u8 0, .int .u16 0, .int .u32 0, .int .u64 0, .string (⟨#[]⟩ : ByteArray), .string (⟨#[]⟩ : ByteArray), .string (⟨#[]⟩ : ByteArray)]) (t := 31) ?hr ?_; (case hd => rfl); (case hg => rfl); (case hr => first | (go_simp; done) | (go_simp; rfl))
         intro gb430 hg w116 hbox hb
         have BK430 := rM hbox; have GW430 := rG HB hg; replace HB := rS HB hb; have GE430 := GW430; have NB424_430 := rN BK424 hg; replace BK424 := rB BK424 hb; have NB430_424 := rY NB424_430; have NB425_430 := rN BK425 hg; replace BK425 := rB BK425 hb; have NB430_425 := rY NB425_430; clear hb hbox hg; refine hK.out _ _ ⟨kC BK424 0, kC BK424 1, kC BK424 2, kC BK424 3, kC BK424 4, kC BK424 5, kC BK424 6, kC BK424 7⟩ (fun hHeld => ?_)
         clear hK K; refine norm_ (a' := ?_) ?_ ?_
         rotate_left
         ·show Act.put _ (some 7) _ = _
          simp only [Act.put, sA, sB, sC, i64_w, i32_w]
          rfl
         exact norm_ (by simp only [putAll, Act.put, sA, sB, sC]) (hCont (gb430) _ ⟨hHeld, (bK BK424.out), (bK BK425.out), (bK BK430.out), GW430.out, GE430.out, NB424_430.out, NB430_424.out, NB425_430.out, NB430_425.out, (bH HB.out)⟩)
        ·skip
         refine box_step ?hg (N := 7) ?hd (cs := #[.bool false, .int .u8 0, .int .u16 0, .int .u32 0, .int .u64 0, .string (⟨#[]⟩ : ByteArray), .string (⟨#[]⟩ : ByteArray), .string (⟨#[]⟩ : ByteArray)]) (t := 31) ?hr ?_; (case hd => rfl); (case hg => rfl); (case hr => first | (go_simp; done) | (go_simp; rfl))
         intro gb430 hg w115 hbox hb
         have BK430 := rM hbox; have GW430 := rG HB hg; replace HB := rS HB hb; have GE430 := GW430; have NB424_430 := rN BK424 hg; replace BK424 := rB BK424 hb; have NB430_424 := rY NB424_430; have NB425_430 := rN BK425 hg; replace BK425 := rB BK425 hb; have NB430_425 := rY NB425_430; clear hb hbox hg; refine hK.out _ _ ⟨kC BK424 0, kC BK424 1, kC BK424 2, kC BK424 3, kC BK424 4, kC BK424 5, kC BK424 6, kC BK424 7⟩ (fun hHeld => ?_)
         clear hK K; refine norm_ (a' := ?_) ?_ ?_
         rotate_left
         ·show Act.put _ (some 7) _ = _
          simp only [Act.put, sA, sB, sC, i64_w, i32_w]
          rfl
         refine one_ (i := 9) (N := some 28) #[true, true, true, true, true, true, true, true, true, true, false, true, false] rfl rfl (one_of HT_.out (by kernel_rfl)) (by decide) (fun K hK => ?_)
         refine goes_ Try.func56 (by kernel_rfl) rfl #[.slice A0_1 l0_1.length c0_1, .string (⟨#[]⟩ : ByteArray)] (by rfl) rfl rfl (by (try simp only [List.map_toArray, List.map_cons, List.map_nil]); first | done | rfl | (simp only [List.length_drop, List.length_take]; rfl)) ?_
         with_reducible refine (strings_Join.calls _ _ l0_1 (⟨#[]⟩ : ByteArray) t429 _ ?side1 ?side2 A8.out).mono ?_
         (case side1 => repeat (first | exact (Kd.C_below HR0_1.out HB.out) | (with_reducible refine Kd.C_alloc ?_ _) | (with_reducible refine Kd.C_drewN ?_ _) | (with_reducible refine Kd.C_drew ?_)))
         (case side2 => exact HC0_1.out)
         rintro e w116 ⟨rfl, hb⟩
         refine ⟨_, rfl, ?_⟩
         replace BK424 := rB BK424 hb; replace BK425 := rB BK425 hb; replace BK430 := rB BK430 hb; replace HB := rS HB hb
         (try clear hb)
         
         
         
         refine hK.out _ _ ⟨kC BK424 0, kC BK424 1, kC BK424 2, kC BK424 3, kC BK424 4, kC BK424 5, kC BK424 6, kC BK424 7⟩ (fun hHeld => ?_)
         clear hK K; refine norm_ (a' := ?_) ?_ ?_
         rotate_left
         ·show Act.put _ (some 28) _ = _
          simp only [Act.put, sA, sB, sC, i64_w, i32_w]
          rfl
         refine pU HT_ 10 (some 29) ?_ #[true, true, true, true, true, true, true, true, true, true, true, true, false] rfl rfl ?_ ?_ ?_ ?_
         rotate_left
         ·intro w'
          go_simp
          with_reducible rfl
         rotate_left
         ·simp only [Act.put, sA, sB, sC, i64_w, i32_w]
          rfl
         exact norm_ (by simp only [putAll, Act.put, sA, sB, sC]) (hCont (gb430) _ ⟨hHeld, (bK BK424.out), (bK BK425.out), (bK BK430.out), GW430.out, GE430.out, NB424_430.out, NB430_424.out, NB425_430.out, NB430_425.out, (bH HB.out)⟩)
       ·skip
        refine box_step ?hg (N := 7) ?hd (cs := #[.bool false, .int .u8 0, .int .u16 0, .int .u32 0, .int .u64 0, .string (⟨#[]⟩ : ByteArray), .string (⟨#[]⟩ : ByteArray), .string (⟨#[]⟩ : ByteArray)]) (t := 31) ?hr ?_; (case hd => rfl); (case hg => rfl); (case hr => first | (go_simp; done) | (go_simp; rfl))
        intro gb430 hg w114 hbox hb
        have BK430 := rM hbox; have GW430 := rG HB hg; replace HB := rS HB hb; have GE430 := GW430; have NB424_430 := rN BK424 hg; replace BK424 := rB BK424 hb; have NB430_424 := rY NB424_430; have NB425_430 := rN BK425 hg; replace BK425 := rB BK425 hb; have NB430_425 := rY NB425_430; clear hb hbox hg; refine hK.out _ _ ⟨kC BK424 0, kC BK424 1, kC BK424 2, kC BK424 3, kC BK424 4, kC BK424 5, kC BK424 6, kC BK424 7⟩ (fun hHeld => ?_)
        clear hK K; refine norm_ (a' := ?_) ?_ ?_
        rotate_left
        ·show Act.put _ (some 7) _ = _
         simp only [Act.put, sA, sB, sC, i64_w, i32_w]
         rfl
        refine one_ (i := 1) (N := some 20) #[true, true, true, true, true, true, true, true, true, false, false, true, false] rfl rfl (one_of HT_.out (by kernel_rfl)) (by decide) (fun K hK => ?_)
        refine goes_ Try.func55 (by kernel_rfl) rfl #[.agg #[.int .i64 a0_0, .slice A0_1 l0_1.length c0_1, .int .u32 a0_2, .int .i64 a0_3, .string a0_4, .int .u64 a0_5, .int .u64 a0_6, .bool a0_7]] (by rfl) rfl rfl (by (try simp only [List.map_toArray, List.map_cons, List.map_nil]); first | done | rfl | (simp only [List.length_drop, List.length_take]; rfl)) ?_
        with_reducible refine (frame_asks.calls k a0_0 _ _ l0_1 a0_2 a0_3 a0_4 a0_5 a0_6 a0_7 t428 _ ?side1 ?side2 A7.out).mono ?_
        (case side1 => repeat (first | exact (Kd.C_below HR0_1.out HB.out) | (with_reducible refine Kd.C_alloc ?_ _) | (with_reducible refine Kd.C_drewN ?_ _) | (with_reducible refine Kd.C_drew ?_)))
        (case side2 => exact HC0_1.out)
        rintro e w115 ⟨rfl, hb⟩
        refine ⟨_, rfl, ?_⟩
        replace BK424 := rB BK424 hb; replace BK425 := rB BK425 hb; replace BK430 := rB BK430 hb; replace HB := rS HB hb
        (try clear hb)
        
        
        
        refine hK.out _ _ ⟨kC BK424 0, kC BK424 1, kC BK424 2, kC BK424 3, kC BK424 4, kC BK424 5, kC BK424 6, kC BK424 7⟩ (fun hHeld => ?_)
        clear hK K; refine norm_ (a' := ?_) ?_ ?_
        rotate_left
        ·show Act.put _ (some 20) _ = _
         simp only [Act.put, sA, sB, sC, i64_w, i32_w]
         rfl
        refine one_ (i := 9) (N := some 28) #[true, true, true, true, true, true, true, true, true, true, false, true, false] rfl rfl (one_of HT_.out (by kernel_rfl)) (by decide) (fun K hK => ?_)
        refine goes_ Try.func56 (by kernel_rfl) rfl #[.slice A0_1 l0_1.length c0_1, .string (⟨#[]⟩ : ByteArray)] (by rfl) rfl rfl (by (try simp only [List.map_toArray, List.map_cons, List.map_nil]); first | done | rfl | (simp only [List.length_drop, List.length_take]; rfl)) ?_
        with_reducible refine (strings_Join.calls _ _ l0_1 (⟨#[]⟩ : ByteArray) t429 _ ?side1 ?side2 A8.out).mono ?_
        (case side1 => repeat (first | exact (Kd.C_below HR0_1.out HB.out) | (with_reducible refine Kd.C_alloc ?_ _) | (with_reducible refine Kd.C_drewN ?_ _) | (with_reducible refine Kd.C_drew ?_)))
        (case side2 => exact HC0_1.out)
        rintro e w116 ⟨rfl, hb⟩
        refine ⟨_, rfl, ?_⟩
        replace BK424 := rB BK424 hb; replace BK425 := rB BK425 hb; replace BK430 := rB BK430 hb; replace HB := rS HB hb
        (try clear hb)
        
        
        
        refine hK.out _ _ ⟨kC BK424 0, kC BK424 1, kC BK424 2, kC BK424 3, kC BK424 4, kC BK424 5, kC BK424 6, kC BK424 7⟩ (fun hHeld => ?_)
        clear hK K; refine norm_ (a' := ?_) ?_ ?_
        rotate_left
        ·show Act.put _ (some 28) _ = _
         simp only [Act.put, sA, sB, sC, i64_w, i32_w]
         rfl
        refine pU HT_ 10 (some 29) ?_ #[true, true, true, true, true, true, true, true, true, true, true, true, false] rfl rfl ?_ ?_ ?_ ?_
        rotate_left
        ·intro w'
         go_simp
         with_reducible rfl
        rotate_left
        ·simp only [Act.put, sA, sB, sC, i64_w, i32_w]
         rfl
        exact norm_ (by simp only [putAll, Act.put, sA, sB, sC]) (hCont (gb430) _ ⟨hHeld, (bK BK424.out), (bK BK425.out), (bK BK430.out), GW430.out, GE430.out, NB424_430.out, NB430_424.out, NB425_430.out, NB430_425.out, (bH HB.out)⟩)
      rintro gb430 w117 ⟨hS_, h0_, h1_, h2_, h3_, h4_, h5_, h6_, h7_, h8_, h9_⟩
      have n0_ : Aside0 (w117.heap[gb424]? = some (.cells #[.int .i64 a0_0, .slice A0_1 l0_1.length c0_1, .int .u32 a0_2, .int .i64 a0_3, .string a0_4, .int .u64 a0_5, .int .u64 a0_6, .bool a0_7] 70 (0, 0))) := ⟨h0_⟩; have n1_ : Aside0 (w117.heap[gb425]? = some (.cells #[.bool false, .int .u8 0, .int .u16 0, .int .u32 0, .int .u64 0, .string (⟨#[]⟩ : ByteArray), .string (⟨#[]⟩ : ByteArray), .string (⟨#[]⟩ : ByteArray)] 31 (0, 0))) := ⟨h1_⟩; have n2_ : Aside0 (w117.heap[gb430]? = some (.cells #[.bool false, .int .u8 0, .int .u16 0, .int .u32 0, .int .u64 0, .string (⟨#[]⟩ : ByteArray), .string (⟨#[]⟩ : ByteArray), .string (⟨#[]⟩ : ByteArray)] 31 (0, 0))) := ⟨h2_⟩; have n3_ : Aside0 (w.heap.size ≤ gb430) := ⟨h3_⟩; have n4_ : Aside0 (w.heap.size ≤ gb430) := ⟨h4_⟩; have n5_ : Aside0 (gb424 ≠ gb430) := ⟨h5_⟩; have n6_ : Aside0 (gb430 ≠ gb424) := ⟨h6_⟩; have n7_ : Aside0 (gb425 ≠ gb430) := ⟨h7_⟩; have n8_ : Aside0 (gb430 ≠ gb425) := ⟨h8_⟩; have n9_ : Aside0 (Below w.heap.size w w117) := ⟨h9_⟩; clear BK424; clear BK425; clear HB; clear h0_ h1_ h2_ h3_ h4_ h5_ h6_ h7_ h8_ h9_; have BK424 := n0_; have BK425 := n1_; have BK430 := n2_; have GW430 := n3_; have GE430 := n4_; have NB424_430 := n5_; have NB430_424 := n6_; have NB425_430 := n7_; have NB430_425 := n8_; have HB := n9_; clear n0_ n1_ n2_ n3_ n4_ n5_ n6_ n7_ n8_ n9_; have hHeld : w117.cell? ⟨gb424, 0, none⟩ = some (.int .i64 a0_0) ∧ w117.cell? ⟨gb424, 1, none⟩ = some (.slice A0_1 l0_1.length c0_1) ∧ w117.cell? ⟨gb424, 2, none⟩ = some (.int .u32 a0_2) ∧ w117.cell? ⟨gb424, 3, none⟩ = some (.int .i64 a0_3) ∧ w117.cell? ⟨gb424, 4, none⟩ = some (.string a0_4) ∧ w117.cell? ⟨gb424, 5, none⟩ = some (.int .u64 a0_5) ∧ w117.cell? ⟨gb424, 6, none⟩ = some (.int .u64 a0_6) ∧ w117.cell? ⟨gb424, 7, none⟩ = some (.bool a0_7) := hS_; refine norm_ (a' := ?_) ?_ ?_
      rotate_left
      ·simp only [putAll, Act.put, sA, sB, sC]
       rfl
      refine one_ (i := 12) (N := none) #[true, true, true, true, true, true, true, true, true, true, true, true, true] rfl rfl (one_of HT_.out (by kernel_rfl)) (by decide) (fun K hK => ?_)
      have hs118 : w117.cell? ⟨gb430, 0, none⟩ = some (.bool false) := (blk_cell BK430.out 0).trans rfl; have hfs118 := blk_frozen BK430.out 0; have hns118_0 := NB424_430.out; have hns118_1 := NB425_430.out; have hms118_0 := NB430_424.out; have hms118_1 := NB430_425.out; have hs119 : w117.cell? ⟨gb430, 1, none⟩ = some (.int .u8 0) := (blk_cell BK430.out 1).trans rfl; have hfs119 := blk_frozen BK430.out 1; have hns119_0 := NB424_430.out; have hns119_1 := NB425_430.out; have hms119_0 := NB430_424.out; have hms119_1 := NB430_425.out; have hs120 : w117.cell? ⟨gb430, 2, none⟩ = some (.int .u16 0) := (blk_cell BK430.out 2).trans rfl; have hfs120 := blk_frozen BK430.out 2; have hns120_0 := NB424_430.out; have hns120_1 := NB425_430.out; have hms120_0 := NB430_424.out; have hms120_1 := NB430_425.out; have hs121 : w117.cell? ⟨gb430, 3, none⟩ = some (.int .u32 0) := (blk_cell BK430.out 3).trans rfl; have hfs121 := blk_frozen BK430.out 3; have hns121_0 := NB424_430.out; have hns121_1 := NB425_430.out; have hms121_0 := NB430_424.out; have hms121_1 := NB430_425.out; have hs122 : w117.cell? ⟨gb430, 4, none⟩ = some (.int .u64 0) := (blk_cell BK430.out 4).trans rfl; have hfs122 := blk_frozen BK430.out 4; have hns122_0 := NB424_430.out; have hns122_1 := NB425_430.out; have hms122_0 := NB430_424.out; have hms122_1 := NB430_425.out; have hs123 : w117.cell? ⟨gb430, 5, none⟩ = some (.string (⟨#[]⟩ : ByteArray)) := (blk_cell BK430.out 5).trans rfl; have hfs123 := blk_frozen BK430.out 5; have hns123_0 := NB424_430.out; have hns123_1 := NB425_430.out; have hms123_0 := NB430_424.out; have hms123_1 := NB430_425.out; have hs124 : w117.cell? ⟨gb430, 6, none⟩ = some (.string (⟨#[]⟩ : ByteArray)) := (blk_cell BK430.out 6).trans rfl; have hfs124 := blk_frozen BK430.out 6; have hns124_0 := NB424_430.out; have hns124_1 := NB425_430.out; have hms124_0 := NB430_424.out; have hms124_1 := NB430_425.out; have hs125 : w117.cell? ⟨gb430, 7, none⟩ = some (.string (⟨#[]⟩ : ByteArray)) := (blk_cell BK430.out 7).trans rfl; have hfs125 := blk_frozen BK430.out 7; have hns125_0 := NB424_430.out; have hns125_1 := NB425_430.out; have hms125_0 := NB430_424.out; have hms125_1 := NB430_425.out; refine skip_ (w1 := ?_) (by rfl) rfl ?_ ?_
      rotate_left
      ·go_simp
       rfl
      refine hK.out _ _ ⟨(kF hHeld.1), (kF hHeld.2.1), (kF hHeld.2.2.1), (kF hHeld.2.2.2.1), (kF hHeld.2.2.2.2.1), (kF hHeld.2.2.2.2.2.1), (kF hHeld.2.2.2.2.2.2.1), (kF hHeld.2.2.2.2.2.2.2)⟩ (fun hHeld => ?_)
      clear hK K; refine done_ (done_of HT_.out (by kernel_rfl)) ?_
      have hnb126 := rP NB424_430 NB430_424; obtain ⟨hcz127, hfz127⟩ := d8 BK424
      try go_wp2_with (first | ((with_reducible refine gate_callee (f := 46) rfl ?_); refine gL (some 35) rfl rfl Try.func46 #[.int .u64 ((wrap32 (a0_3)) % 4294967296), .int .i64 4] rfl ?_; (with_reducible refine (frame_number.calls k ((wrap32 (a0_3)) % 4294967296) 4 t431 _ A9.out).mono ?_); rintro e w128 ⟨rfl, hb⟩; refine ⟨_, rfl, ?_⟩; replace BK424 := rB BK424 hb; replace BK425 := rB BK425 hb; replace BK430 := Aside0.mk (blk_below (g := gb430) (o := .cells #[.bool false, .int .u8 t428, .int .u16 0, .int .u32 a1, .int .u64 a0_5, .string (⟨#[]⟩ : ByteArray), .string t429, .string a0_4] 31 (0, 0)) (bV BK430.out) hb); replace HB := rS HB hb; (try clear hb); obtain ⟨hcz129, hfz129⟩ := d8 BK424) | ((with_reducible refine gate_callee (f := 49) rfl ?_); refine gL (some 38) rfl rfl Try.func49 #[.int .i64 a0_0] rfl ?_; (with_reducible refine (frame_extras.calls k a0_0 t432 _ A10.out).mono ?_); rintro e w' ⟨rfl, ⟨nd, rfl⟩⟩; refine ⟨_, rfl, ?_⟩; (try simp only [World.drewN_drewN]); (try (rw [drewN_self w128]; generalize hq_ : World.drewN w128 _ = w128; have n0_ := Aside0.mk (bQ BK424.out hq_); have n1_ := Aside0.mk (bQ BK425.out hq_); have n2_ := Aside0.mk (bQ BK430.out hq_); have n3_ := Aside0.mk (bF HB.out hq_); clear BK424 BK425 BK430 HB hq_; have BK424 := n0_; have BK425 := n1_; have BK430 := n2_; have HB := n3_; clear n0_ n1_ n2_ n3_; have hcr424_0 : w128.cell? ⟨gb424, 0, none⟩ = some (.int .i64 a0_0) := (blk_cell BK424.out 0).trans rfl; have hfr424_0 := blk_frozen BK424.out 0; have hcr424_1 : w128.cell? ⟨gb424, 1, none⟩ = some (.slice A0_1 l0_1.length c0_1) := (blk_cell BK424.out 1).trans rfl; have hfr424_1 := blk_frozen BK424.out 1; have hcr424_2 : w128.cell? ⟨gb424, 2, none⟩ = some (.int .u32 a0_2) := (blk_cell BK424.out 2).trans rfl; have hfr424_2 := blk_frozen BK424.out 2; have hcr424_3 : w128.cell? ⟨gb424, 3, none⟩ = some (.int .i64 a0_3) := (blk_cell BK424.out 3).trans rfl; have hfr424_3 := blk_frozen BK424.out 3; have hcr424_4 : w128.cell? ⟨gb424, 4, none⟩ = some (.string a0_4) := (blk_cell BK424.out 4).trans rfl; have hfr424_4 := blk_frozen BK424.out 4; have hcr424_5 : w128.cell? ⟨gb424, 5, none⟩ = some (.int .u64 a0_5) := (blk_cell BK424.out 5).trans rfl; have hfr424_5 := blk_frozen BK424.out 5; have hcr424_6 : w128.cell? ⟨gb424, 6, none⟩ = some (.int .u64 a0_6) := (blk_cell BK424.out 6).trans rfl; have hfr424_6 := blk_frozen BK424.out 6; have hcr424_7 : w128.cell? ⟨gb424, 7, none⟩ = some (.bool a0_7) := (blk_cell BK424.out 7).trans rfl; have hfr424_7 := blk_frozen BK424.out 7)); have hnb130 := rP NB430_425 NB425_430; obtain ⟨hcz131, hfz131⟩ := d8 BK430; obtain ⟨hcz132, hfz132⟩ := d8 BK425))
      refine bodyPost_ret (results_ct rfl _ _ gb425 31 #[.bool false, .int .u8 t428, .int .u16 0, .int .u32 a1, .int .u64 a0_5, .string (⟨#[]⟩ : ByteArray), .string t429, .string a0_4] (0, 0) _ rfl (bV BK425.out) Try.underlying31 rfl (by kernel_rfl)) rfl ?_
      exact ⟨xR, bH HB.out⟩
  ·replace c6 := Bool.eq_false_iff.mpr c6; subst c6; rw [if_neg (show ¬ (false = true) by decide)] at H; simp only [Option.some.injEq, Prod.mk.injEq] at H; obtain ⟨rfl, rfl, rfl, rfl, rfl, rfl, rfl, rfl, rfl⟩ := H; go_enter Try.func32, Try.ntmps32
   go_wp2_with (first | ((with_reducible refine gate_dst (N := 2) rfl ?_); refine bE 2 #[.int .i64 a0_0, .slice A0_1 l0_1.length c0_1, .int .u32 a0_2, .int .i64 a0_3, .string a0_4, .int .u64 a0_5, .int .u64 a0_6, .bool a0_7] 70 rfl rfl ?_; intro gb424 hg w133 hbox hb; have BK424 := rM hbox; have GW424 := rG HB hg; replace HB := rS HB hb; have GE424 := GW424; clear hb hbox hg) | ((with_reducible refine gate_dst (N := 4) rfl ?_); refine bE 4 #[.bool false, .int .u8 0, .int .u16 0, .int .u32 0, .int .u64 0, .string (⟨#[]⟩ : ByteArray), .string (⟨#[]⟩ : ByteArray), .string (⟨#[]⟩ : ByteArray)] 31 rfl rfl ?_; intro gb425 hg w134 hbox hb; have BK425 := rM hbox; have GW425 := rG HB hg; replace HB := rS HB hb; have GE425 := GW425; have NB424_425 := rN BK424 hg; replace BK424 := rB BK424 hb; have NB425_424 := rY NB424_425; clear hb hbox hg; have hnb135 := rP NB424_425 NB425_424; obtain ⟨hcz136, hfz136⟩ := d8 BK424) | ((with_reducible refine gate_callee (f := 51) rfl ?_); refine gL (some 10) rfl rfl Try.func51 #[.agg #[.int .i64 a0_0, .slice A0_1 l0_1.length c0_1, .int .u32 a0_2, .int .i64 a0_3, .string a0_4, .int .u64 a0_5, .int .u64 a0_6, .bool a0_7]] rfl ?_; (with_reducible refine (verb_Check.calls k a0_0 _ _ l0_1 a0_2 a0_3 a0_4 a0_5 a0_6 a0_7 t426 _ ?side1 ?side2 A3.out).mono ?_); (case side1 => repeat (first | exact (Kd.C_below HR0_1.out HB.out) | (with_reducible refine Kd.C_alloc ?_ _) | (with_reducible refine Kd.C_drewN ?_ _) | (with_reducible refine Kd.C_drew ?_))); (case side2 => exact HC0_1.out); rintro e w137 ⟨rfl, hb⟩; refine ⟨_, rfl, ?_⟩; replace BK424 := rB BK424 hb; replace BK425 := rB BK425 hb; replace HB := rS HB hb; (try clear hb); obtain ⟨hcz138, hfz138⟩ := d8 BK424) | ((with_reducible refine gate_callee (f := 54) rfl ?_); refine gL (some 16) rfl rfl Try.func54 #[.agg #[.int .i64 a0_0, .slice A0_1 l0_1.length c0_1, .int .u32 a0_2, .int .i64 a0_3, .string a0_4, .int .u64 a0_5, .int .u64 a0_6, .bool a0_7]] rfl ?_; (with_reducible refine (frame_plain.calls k a0_0 _ _ l0_1 a0_2 a0_3 a0_4 a0_5 a0_6 a0_7 false _ ?side1 ?side2 A5.out).mono ?_); (case side1 => repeat (first | exact (Kd.C_below HR0_1.out HB.out) | (with_reducible refine Kd.C_alloc ?_ _) | (with_reducible refine Kd.C_drewN ?_ _) | (with_reducible refine Kd.C_drew ?_))); (case side2 => exact HC0_1.out); rintro e w139 ⟨rfl, hb⟩; refine ⟨_, rfl, ?_⟩; replace BK424 := rB BK424 hb; replace BK425 := rB BK425 hb; replace HB := rS HB hb; (try clear hb); obtain ⟨hcz140, hfz140⟩ := d8 BK425))
   refine bodyPost_ret (results_ct rfl _ _ gb425 31 #[.bool false, .int .u8 0, .int .u16 0, .int .u32 0, .int .u64 0, .string (⟨#[]⟩ : ByteArray), .string (⟨#[]⟩ : ByteArray), .string (⟨#[]⟩ : ByteArray)] (0, 0) _ rfl (bV BK425.out) Try.underlying31 rfl (by kernel_rfl)) rfl ?_
   exact ⟨xR, bH HB.out⟩
 ·rw [if_neg c4] at H; have c4b0 : (t426 == 0) = false := beq_eq_false_iff_ne.mpr c4; have c4b1 : (t426 != 0) = true := bne_iff_ne.mpr c4; simp only [Option.some.injEq, Prod.mk.injEq] at H; obtain ⟨rfl, rfl, rfl, rfl, rfl, rfl, rfl, rfl, rfl⟩ := H; go_enter Try.func32, Try.ntmps32
  go_wp2_with (first | ((with_reducible refine gate_dst (N := 2) rfl ?_); refine bE 2 #[.int .i64 a0_0, .slice A0_1 l0_1.length c0_1, .int .u32 a0_2, .int .i64 a0_3, .string a0_4, .int .u64 a0_5, .int .u64 a0_6, .bool a0_7] 70 rfl rfl ?_; intro gb424 hg w141 hbox hb; have BK424 := rM hbox; have GW424 := rG HB hg; replace HB := rS HB hb; have GE424 := GW424; clear hb hbox hg) | ((with_reducible refine gate_dst (N := 4) rfl ?_); refine bE 4 #[.bool false, .int .u8 0, .int .u16 0, .int .u32 0, .int .u64 0, .string (⟨#[]⟩ : ByteArray), .string (⟨#[]⟩ : ByteArray), .string (⟨#[]⟩ : ByteArray)] 31 rfl rfl ?_; intro gb425 hg w142 hbox hb; have BK425 := rM hbox; have GW425 := rG HB hg; replace HB := rS HB hb; have GE425 := GW425; have NB424_425 := rN BK424 hg; replace BK424 := rB BK424 hb; have NB425_424 := rY NB424_425; clear hb hbox hg; have hnb143 := rP NB424_425 NB425_424; obtain ⟨hcz144, hfz144⟩ := d8 BK424) | ((with_reducible refine gate_callee (f := 51) rfl ?_); refine gL (some 10) rfl rfl Try.func51 #[.agg #[.int .i64 a0_0, .slice A0_1 l0_1.length c0_1, .int .u32 a0_2, .int .i64 a0_3, .string a0_4, .int .u64 a0_5, .int .u64 a0_6, .bool a0_7]] rfl ?_; (with_reducible refine (verb_Check.calls k a0_0 _ _ l0_1 a0_2 a0_3 a0_4 a0_5 a0_6 a0_7 t426 _ ?side1 ?side2 A3.out).mono ?_); (case side1 => repeat (first | exact (Kd.C_below HR0_1.out HB.out) | (with_reducible refine Kd.C_alloc ?_ _) | (with_reducible refine Kd.C_drewN ?_ _) | (with_reducible refine Kd.C_drew ?_))); (case side2 => exact HC0_1.out); rintro e w145 ⟨rfl, hb⟩; refine ⟨_, rfl, ?_⟩; replace BK424 := rB BK424 hb; replace BK425 := rB BK425 hb; replace HB := rS HB hb; (try clear hb); obtain ⟨hcz146, hfz146⟩ := d8 BK425))
  refine bodyPost_ret (results_ct rfl _ _ gb425 31 #[.bool false, .int .u8 0, .int .u16 0, .int .u32 0, .int .u64 0, .string (⟨#[]⟩ : ByteArray), .string (⟨#[]⟩ : ByteArray), .string (⟨#[]⟩ : ByteArray)] (0, 0) _ rfl (bV BK425.out) Try.underlying31 rfl (by kernel_rfl)) rfl ?_
  exact ⟨xR, bH HB.out⟩

end Go.Proofs.Ytdepkgikdmlgiaa.P
