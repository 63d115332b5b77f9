/- Lean functions for the Go functions that the laws of this seat use, and the proofs that the Go code computes them; conditions: the readings that each theorem names. Written by a program. -/
import Derived.Test.YtdepkgikdmlgiaaPx0
import Derived.Test.YtdepkgikdmlgiaaPx1
import Derived.Test.YtdepkgikdmlgiaaPx3
import Derived.Test.YtdepkgikdmlgiaaPx5
import Derived.Test.YtdepkgikdmlgiaaPx11
import Derived.Test.YtdepkgikdmlgiaaPx23
import Derived.Test.YtdepkgikdmlgiaaPx28
import Derived.Test.YtdepkgikdmlgiaaPx29
import Derived.Test.YtdepkgikdmlgiaaPx33
import Derived.Test.YtdepkgikdmlgiaaPx34
import Derived.Test.YtdepkgikdmlgiaaPx35
import Derived.Test.YtdepkgikdmlgiaaPx36
import Derived.Test.YtdepkgikdmlgiaaPx37
import Derived.Test.YtdepkgikdmlgiaaPx38
import Derived.Test.YtdepkgikdmlgiaaPx39
import Derived.Test.YtdepkgikdmlgiaaPx40
import Derived.Test.YtdepkgikdmlgiaaShort
namespace Go.Proofs.Ytdepkgikdmlgiaa.P
open Go.RowKit Go.Proofs.YtdepkgikdmlgiaaW.PrintWords Go.Proofs.YtdepkgikdmlgiaaW.PrintLast Go.Proofs.YtdepkgikdmlgiaaW.PrintMore
set_option linter.unusedVariables false
set_option linter.unusedSimpArgs false

attribute [local go_sem high] eqA26
/-! ### tallboylaw29_FrameAsks: function 6 -/
set_option maxHeartbeats 8000000 in
set_option maxRecDepth 100000 in
theorem tallboylaw29_FrameAsks.calls (k : Nat) (a0_0 : Bool) (a0_1 : Int) (a0_2 : Int) (a0_3 : Int) (a0_4 : Int) (a0_5 : ByteArray) (a0_6 : ByteArray) (a0_7 : ByteArray) (a1_0 : Int) (A1_1 : Option Addr) (c1_1 : Nat) (l1_1 : List ByteArray) (a1_2 : Int) (a1_3 : Int) (a1_4 : ByteArray) (a1_5 : Int) (a1_6 : Int) (a1_7 : Bool) (a2 : Int) (r : Bool) (w : World) (hr1_1 : Kd.C Kd.string w A1_1 l1_1.length l1_1) (hc1_1 : l1_1.length ≤ c1_1) (h : tallboylaw29_FrameAsks.f k a0_0 a0_1 a0_2 a0_3 a0_4 a0_5 a0_6 a0_7 a1_0 l1_1 a1_2 a1_3 a1_4 a1_5 a1_6 a1_7 a2 = some r) :
  Calls Try.prog 6 #[.agg #[.bool a0_0, .int .u8 a0_1, .int .u16 a0_2, .int .u32 a0_3, .int .u64 a0_4, .string a0_5, .string a0_6, .string a0_7], .agg #[.int .i64 a1_0, .slice A1_1 l1_1.length c1_1, .int .u32 a1_2, .int .i64 a1_3, .string a1_4, .int .u64 a1_5, .int .u64 a1_6, .bool a1_7], .int .u32 a2] w fun e w' => e = .returned (.bool r) ∧ Below w.heap.size w w' := by
 have hu26 := Try.underlying26; have hu70 := Try.underlying70; have hu31 := Try.underlying31; have HR1_1 := Aside0.mk hr1_1; have HC1_1 := Aside0.mk hc1_1; clear hr1_1 hc1_1; have HB := Aside0.mk (Below.refl w.heap.size w); have H : ((tallboylaw29_Great.f a0_0 a0_1 a0_2 a0_3 a0_4 a0_5 a0_6 a0_7).bind fun t469 => (if t469 = true then (tallboylaw29_FrameAsks.j0 k a2 true a0_0 a0_1 a0_2 a0_3 a0_4 a0_5 a0_6 a0_7 a1_0 l1_1 a1_2 a1_3 a1_4 a1_5 a1_6 a1_7) else ((tallboylaw15_Great.f k a1_0 l1_1 a1_2 a1_3 a1_4 a1_5 a1_6 a1_7).bind fun t470 => (tallboylaw29_FrameAsks.j0 k a2 t470 a0_0 a0_1 a0_2 a0_3 a0_4 a0_5 a0_6 a0_7 a1_0 l1_1 a1_2 a1_3 a1_4 a1_5 a1_6 a1_7)))) = some r := h; clear h; have HC4 := Aside0.mk H; clear H; go_enter Try.func6, Try.ntmps6
 go_upto_region 1 with (first | ((with_reducible refine gate_dst (N := 3) rfl ?_); refine bE 3 #[.bool a0_0, .int .u8 a0_1, .int .u16 a0_2, .int .u32 a0_3, .int .u64 a0_4, .string a0_5, .string a0_6, .string a0_7] 26 rfl rfl ?_; intro gb467 hg w5 hbox hb; have BK467 := rM hbox; have GW467 := rG HB hg; replace HB := rS HB hb; have GE467 := GW467; clear hb hbox hg) | ((with_reducible refine gate_dst (N := 4) rfl ?_); refine bE 4 #[.int .i64 a1_0, .slice A1_1 l1_1.length c1_1, .int .u32 a1_2, .int .i64 a1_3, .string a1_4, .int .u64 a1_5, .int .u64 a1_6, .bool a1_7] 70 rfl rfl ?_; intro gb468 hg w6 hbox hb; have BK468 := rM hbox; have GW468 := rG HB hg; replace HB := rS HB hb; have GE468 := GW468; have NB467_468 := rN BK467 hg; replace BK467 := rB BK467 hb; have NB468_467 := rY NB467_468; clear hb hbox hg))
 (try simp only [Act.put, sA, sB, sC])
 go_cut [20] (fun v20 wc => ∃ (kq : Nat) (x20_3 : Bool), v20 = .bool x20_3 ∧ Aside0 (tallboylaw29_FrameAsks.j0 kq a2 x20_3 a0_0 a0_1 a0_2 a0_3 a0_4 a0_5 a0_6 a0_7 a1_0 l1_1 a1_2 a1_3 a1_4 a1_5 a1_6 a1_7 = some r) ∧ Aside0 (kq ≤ k) ∧ Aside0 (wc.heap[gb467]? = some (.cells #[.bool a0_0, .int .u8 a0_1, .int .u16 a0_2, .int .u32 a0_3, .int .u64 a0_4, .string a0_5, .string a0_6, .string a0_7] 26 (0, 0))) ∧ Aside0 (wc.heap[gb468]? = some (.cells #[.int .i64 a1_0, (.slice A1_1 l1_1.length c1_1), .int .u32 a1_2, .int .i64 a1_3, .string a1_4, .int .u64 a1_5, .int .u64 a1_6, .bool a1_7] 70 (0, 0))) ∧ Aside0 (Below w.heap.size w wc))
 case first =>
  have H := HC4.out; clear HC4; replace H := Option.bind_eq_some_iff.mp H; obtain ⟨t469, A70, H⟩ := H; (try dsimp only at H); have A7 := Aside0.mk A70; clear A70
  by_cases c8 : t469 = true
  ·subst c8; rw [if_pos rfl] at H; have H' := Aside0.mk H; clear H; have hnb9 := rP NB467_468 NB468_467; obtain ⟨hcz10, hfz10⟩ := d8 BK467
   go_wp2_with (first | ((with_reducible refine gate_callee (f := 11) rfl ?_); refine gL (some 16) rfl rfl Try.func11 #[.agg #[.bool a0_0, .int .u8 a0_1, .int .u16 a0_2, .int .u32 a0_3, .int .u64 a0_4, .string a0_5, .string a0_6, .string a0_7]] rfl ?_; (with_reducible refine (tallboylaw29_Great.calls a0_0 a0_1 a0_2 a0_3 a0_4 a0_5 a0_6 a0_7 true _ A7.out).mono ?_); rintro e w11 ⟨rfl, hb⟩; refine ⟨_, rfl, ?_⟩; replace BK467 := rB BK467 hb; replace BK468 := rB BK468 hb; replace HB := rS HB hb; (try clear hb); (try clear hk); ))
   go_meet
   case rel => exact ⟨_, (true), (by first | rfl | (simp; done) | (simp [*]; done)), H', ⟨by first | omega | exact Nat.le_refl _⟩, ⟨bK BK467.out⟩, ⟨bK BK468.out⟩, ⟨bH HB.out⟩⟩
  ·replace c8 := Bool.eq_false_iff.mpr c8; subst c8; rw [if_neg (show ¬ (false = true) by decide)] at H; replace H := Option.bind_eq_some_iff.mp H; obtain ⟨t470, A120, H⟩ := H; (try dsimp only at H); have A12 := Aside0.mk A120; clear A120; have H' := Aside0.mk H; clear H; have hnb13 := rP NB467_468 NB468_467; obtain ⟨hcz14, hfz14⟩ := d8 BK467
   go_wp2_with (first | ((with_reducible refine gate_callee (f := 11) rfl ?_); refine gL (some 16) rfl rfl Try.func11 #[.agg #[.bool a0_0, .int .u8 a0_1, .int .u16 a0_2, .int .u32 a0_3, .int .u64 a0_4, .string a0_5, .string a0_6, .string a0_7]] rfl ?_; (with_reducible refine (tallboylaw29_Great.calls a0_0 a0_1 a0_2 a0_3 a0_4 a0_5 a0_6 a0_7 false _ A7.out).mono ?_); rintro e w15 ⟨rfl, hb⟩; refine ⟨_, rfl, ?_⟩; replace BK467 := rB BK467 hb; replace BK468 := rB BK468 hb; replace HB := rS HB hb; (try clear hb); (try clear hk); obtain ⟨hcz16, hfz16⟩ := d8 BK468) | (go_at_call 29; (with_reducible refine (tallboylaw15_Great.calls k a1_0 _ _ l1_1 a1_2 a1_3 a1_4 a1_5 a1_6 a1_7 t470 _ ?side1 ?side2 A12.out).mono ?_); (case side1 => repeat (first | exact (Kd.C_below HR1_1.out HB.out) | (with_reducible refine Kd.C_alloc ?_ _) | (with_reducible refine Kd.C_drewN ?_ _) | (with_reducible refine Kd.C_drew ?_))); (case side2 => exact HC1_1.out); rintro e w17 ⟨rfl, hb⟩; replace BK467 := rB BK467 hb; replace BK468 := rB BK468 hb; replace HB := rS HB hb; (try clear hb); (try clear hk); ))
   go_meet
   case rel => exact ⟨_, (t470), (by first | rfl | (simp; done) | (simp [*]; done)), H', ⟨by first | omega | exact Nat.le_refl _⟩, ⟨bK BK467.out⟩, ⟨bK BK468.out⟩, ⟨bH HB.out⟩⟩
 case rest =>
  clear HC4; (try clear c8); (try clear hcz10); (try clear hcz14); (try clear hcz16); (try clear hfz10); (try clear hfz14); (try clear hfz16); obtain ⟨kq, x20_3, rfl, HA, HJ3, BK467, BK468, HB⟩ := hcut; cases kq with
  | zero => exact absurd HA.out (by simp [tallboylaw29_FrameAsks.j0])
  | succ kj3 =>
   have H := HA.out; clear HA; simp only [tallboylaw29_FrameAsks.j0] at H
   by_cases c18 : x20_3 = true
   ·subst c18; rw [if_pos rfl] at H; obtain rfl := Option.some.inj H; go_wp2; go_ret
    exact ⟨xR, bH HB.out⟩
   ·replace c18 := Bool.eq_false_iff.mpr c18; subst c18; rw [if_neg (show ¬ (false = true) by decide)] at H; replace H := Option.bind_eq_some_iff.mp H; obtain ⟨⟨t471, t472, t473, t474, t475, t476, t477, t478⟩, A190, H⟩ := H; (try dsimp only at H); have A19 := Aside0.mk A190; clear A190; replace H := Option.bind_eq_some_iff.mp H; obtain ⟨⟨t479, t480, t483, t484, t485, t486, t487, t488, t489⟩, A200, H⟩ := H
    (try dsimp only at H); have A20 := Aside0.mk A200; clear A200; replace H := Option.bind_eq_some_iff.mp H; obtain ⟨⟨t491, t492, t495, t496, t497, t498, t499, t500, t501⟩, A210, H⟩ := H; (try dsimp only at H); have A21 := Aside0.mk A210; clear A210; replace H := Option.bind_eq_some_iff.mp H; obtain ⟨⟨t503, t504, t507, t508, t509, t510, t511, t512⟩, A220, H⟩ := H
    (try dsimp only at H); have A22 := Aside0.mk A220; clear A220; replace H := Option.bind_eq_some_iff.mp H; obtain ⟨⟨t513, t514, t515, t516, t517, t518, t519, t520, t521⟩, A230, H⟩ := H; (try dsimp only at H); have A23 := Aside0.mk A230; clear A230; replace H := Option.bind_eq_some_iff.mp H; obtain ⟨⟨t523, t524, t525, t526, t527, t528, t529, t530, t531⟩, A240, H⟩ := H; (try dsimp only at H); have A24 := Aside0.mk A240; clear A240; replace H := Option.bind_eq_some_iff.mp H; obtain ⟨t533, A250, H⟩ := H
    (try dsimp only at H); have A25 := Aside0.mk A250; clear A250
    by_cases c26 : t533 = true
    ·subst c26; rw [if_pos rfl] at H
     by_cases c27 : t489 = t501
     ·rw [if_pos c27] at H; have c27b0 : (t489 == t501) = true := beq_iff_eq.mpr c27; have c27b1 : (t489 != t501) = false := bne_eq_false_iff_eq.mpr c27; clear c27; replace H := Option.bind_eq_some_iff.mp H; obtain ⟨⟨t534, t535, t536, t537, t538, t539, t540, t541⟩, A280, H⟩ := H; (try dsimp only at H); have A28 := Aside0.mk A280; clear A280
      by_cases c29 : (t534 == t523 && (t535 == t524 && (t536 == t525 && (t537 == t526 && (t538 == t527 && (t539.toList == t528.toList && (t540.toList == t529.toList && (t541.toList == t530.toList)))))))) = true
      ·rw [if_pos c29] at H; have c29b0 : (t534 == t523 && (t535 == t524 && (t536 == t525 && (t537 == t526 && (t538 == t527 && (t539.toList == t528.toList && (t540.toList == t529.toList && (t541.toList == t530.toList)))))))) = true := c29
       (try (have c29b1 : decide (t534 = t523 && (t535 == t524 && (t536 == t525 && (t537 == t526 && (t538 == t527 && (t539.toList == t528.toList && (t540.toList == t529.toList && (t541.toList == t530.toList)))))))) = true := by simpa using c29))
       (try (have c29b2 : (t534 == t523 && (t535 == t524 && (t536 == t525 && (t537 == t526 && (t538 == t527 && (t539.toList == t528.toList && (t540.toList == t529.toList && (t541.toList == t530.toList)))))))) = true := by simpa using c29))
       clear c29; obtain rfl := Option.some.inj H; have hnb30 := rP NB467_468 NB468_467; obtain ⟨hcz31, hfz31⟩ := d8 BK467
       try go_wp2_with (first | ((with_reducible refine gate_callee (f := 13) rfl ?_); refine gL (some 23) rfl rfl Try.func13 #[.agg #[.bool a0_0, .int .u8 a0_1, .int .u16 a0_2, .int .u32 a0_3, .int .u64 a0_4, .string a0_5, .string a0_6, .string a0_7]] rfl ?_; (with_reducible refine (tallboylaw29_To.calls a0_0 a0_1 a0_2 a0_3 a0_4 a0_5 a0_6 a0_7 t471 t472 t473 t474 t475 t476 t477 t478 _ A19.out).mono ?_); rintro e w32 ⟨rfl, hb⟩; refine ⟨_, rfl, ?_⟩; replace BK467 := rB BK467 hb; replace BK468 := rB BK468 hb; replace HB := rS HB hb; (try clear hb); (try clear hk); ) | ((with_reducible refine gate_callee (f := 30) rfl ?_); refine gL (some 24) rfl rfl Try.func30 #[.agg #[.bool t471, .int .u8 t472, .int .u16 t473, .int .u32 t474, .int .u64 t475, .string t476, .string t477, .string t478]] rfl ?_; (with_reducible refine (frame_Command.calls kj3 t471 t472 t473 t474 t475 t476 t477 t478 t479 t480 t483 t484 t485 t486 t487 t488 t489 _ A20.out).mono ?_); rintro e w33 ⟨v481, rfl, ho0, hb⟩; refine ⟨_, rfl, ?_⟩; have HO482 := Aside0.mk (Kd.R_lower ho0 (below_size (bH HB.out))); replace BK467 := rB BK467 hb; replace BK468 := rB BK468 hb; replace HB := rS HB hb; (try clear hb); (try clear hk); (try clear ho0)) | ((with_reducible refine gate_dst (N := 7) rfl ?_); refine bE 7 #[.int .i64 0, .slice none 0 0, .int .u32 0, .int .i64 0, .string (⟨#[]⟩ : ByteArray), .int .u64 0, .int .u64 0, .bool false] 70 rfl rfl ?_; intro gb490 hg w34 hbox hb; replace HO482 := Aside0.mk (Kd.R_below (by (with_reducible repeat (first | apply Kd.R_alloc | apply Kd.R_drewN | apply Kd.R_drew)); exact HO482.out) hb); have BK490 := rM hbox; have GW490 := rG HB hg; replace HB := rS HB hb; have GE490 := GW490; have NB467_490 := rN BK467 hg; replace BK467 := rB BK467 hb; have NB490_467 := rY NB467_490; have NB468_490 := rN BK468 hg; replace BK468 := rB BK468 hb; have NB490_468 := rY NB468_490; clear hb hbox hg; have hnb35 := rP NB490_467 NB467_490; have hnb36 := rP NB490_468 NB468_490; obtain ⟨hcz37, hfz37⟩ := d8 BK490; obtain ⟨Ao38, co38, eo38⟩ := Kd.R_slice HO482.out; subst eo38; obtain ⟨hcz39, hfz39⟩ := d8 BK467) | ((with_reducible refine gate_callee (f := 31) rfl ?_); refine gL (some 29) rfl rfl Try.func31 #[.agg #[.bool a0_0, .int .u8 a0_1, .int .u16 a0_2, .int .u32 a0_3, .int .u64 a0_4, .string a0_5, .string a0_6, .string a0_7]] rfl ?_; (with_reducible refine (tallboyref29_Command.calls kj3 a0_0 a0_1 a0_2 a0_3 a0_4 a0_5 a0_6 a0_7 t491 t492 t495 t496 t497 t498 t499 t500 t501 _ A21.out).mono ?_); rintro e w40 ⟨v493, rfl, ho0, hb⟩; refine ⟨_, rfl, ?_⟩; have HO494 := Aside0.mk (Kd.R_lower (Kd.R_new' ho0 (Kd.R_lt (by (with_reducible repeat (first | apply Kd.R_alloc | apply Kd.R_drewN | apply Kd.R_drew)); exact (Kd.R_mono (Kd.R_far (p := ⟨gb490, 7, none⟩) (Kd.R_far (p := ⟨gb490, 6, none⟩) (Kd.R_far (p := ⟨gb490, 5, none⟩) (Kd.R_far (p := ⟨gb490, 4, none⟩) (Kd.R_far (p := ⟨gb490, 3, none⟩) (Kd.R_far (p := ⟨gb490, 2, none⟩) (Kd.R_far (p := ⟨gb490, 1, none⟩) (Kd.R_far (p := ⟨gb490, 0, none⟩) (Kd.R_types HO482.out BK490.out (by decide)) (fun _ hk => hk.2) (.int .i64 t479)) (fun _ hk => hk.2) (.slice Ao38 t480.length co38)) (fun _ hk => hk.2) (.int .u32 t483)) (fun _ hk => hk.2) (.int .i64 t484)) (fun _ hk => hk.2) (.string t485)) (fun _ hk => hk.2) (.int .u64 t486)) (fun _ hk => hk.2) (.int .u64 t487)) (fun _ hk => hk.2) (.bool t488)) (fun _ h_ => h_.1))))) (below_size (bH HB.out))); replace HO482 := Aside0.mk (Kd.R_elder' (by (with_reducible repeat (first | apply Kd.R_alloc | apply Kd.R_drewN | apply Kd.R_drew)); exact (Kd.R_mono (Kd.R_far (p := ⟨gb490, 7, none⟩) (Kd.R_far (p := ⟨gb490, 6, none⟩) (Kd.R_far (p := ⟨gb490, 5, none⟩) (Kd.R_far (p := ⟨gb490, 4, none⟩) (Kd.R_far (p := ⟨gb490, 3, none⟩) (Kd.R_far (p := ⟨gb490, 2, none⟩) (Kd.R_far (p := ⟨gb490, 1, none⟩) (Kd.R_far (p := ⟨gb490, 0, none⟩) (Kd.R_types HO482.out BK490.out (by decide)) (fun _ hk => hk.2) (.int .i64 t479)) (fun _ hk => hk.2) (.slice Ao38 t480.length co38)) (fun _ hk => hk.2) (.int .u32 t483)) (fun _ hk => hk.2) (.int .i64 t484)) (fun _ hk => hk.2) (.string t485)) (fun _ hk => hk.2) (.int .u64 t486)) (fun _ hk => hk.2) (.int .u64 t487)) (fun _ hk => hk.2) (.bool t488)) (fun _ h_ => h_.1))) (Kd.R_base ho0) hb); replace BK467 := rB BK467 hb; replace BK468 := rB BK468 hb; replace BK490 := Aside0.mk (blk_below (g := gb490) (o := .cells #[.int .i64 t479, .slice Ao38 t480.length co38, .int .u32 t483, .int .i64 t484, .string t485, .int .u64 t486, .int .u64 t487, .bool t488] 70 (0, 0)) (bV BK490.out) hb); replace HB := rS HB hb; (try clear hb); (try clear hk); (try clear ho0)) | ((with_reducible refine gate_dst (N := 9) rfl ?_); refine bE 9 #[.int .i64 0, .slice none 0 0, .int .u32 0, .int .i64 0, .string (⟨#[]⟩ : ByteArray), .int .u64 0, .int .u64 0, .bool false] 70 rfl rfl ?_; intro gb502 hg w41 hbox hb; replace HO482 := Aside0.mk (Kd.R_below (by (with_reducible repeat (first | apply Kd.R_alloc | apply Kd.R_drewN | apply Kd.R_drew)); exact HO482.out) hb); replace HO494 := Aside0.mk (Kd.R_below (by (with_reducible repeat (first | apply Kd.R_alloc | apply Kd.R_drewN | apply Kd.R_drew)); exact HO494.out) hb); have BK502 := rM hbox; have GW502 := rG HB hg; replace HB := rS HB hb; have GE502 := GW502; have NB467_502 := rN BK467 hg; replace BK467 := rB BK467 hb; have NB502_467 := rY NB467_502; have NB468_502 := rN BK468 hg; replace BK468 := rB BK468 hb; have NB502_468 := rY NB468_502; have NB490_502 := rN BK490 hg; replace BK490 := rB BK490 hb; have NB502_490 := rY NB490_502; clear hb hbox hg; have hnb42 := rP NB502_467 NB467_502; have hnb43 := rP NB502_468 NB468_502; have hnb44 := rP NB502_490 NB490_502; obtain ⟨hcz45, hfz45⟩ := d8 BK502; obtain ⟨Ao46, co46, eo46⟩ := Kd.R_slice HO494.out; subst eo46; obtain ⟨hcz47, hfz47⟩ := d8 BK468) | ((with_reducible refine gate_callee (f := 33) rfl ?_); refine gL (some 34) rfl rfl Try.func33 #[.agg #[.int .i64 a1_0, .slice A1_1 l1_1.length c1_1, .int .u32 a1_2, .int .i64 a1_3, .string a1_4, .int .u64 a1_5, .int .u64 a1_6, .bool a1_7]] rfl ?_; (with_reducible refine (tallboylaw15_Own.calls a1_0 _ _ l1_1 a1_2 a1_3 a1_4 a1_5 a1_6 a1_7 t503 t504 t507 t508 t509 t510 t511 t512 _ ?side1 ?side2 A22.out).mono ?_); (case side1 => exact Kd.C_below HR1_1.out (bH HB.out)); (case side2 => exact HC1_1.out); rintro e w48 ⟨v505, rfl, ho0, hb⟩; refine ⟨_, rfl, ?_⟩; have HO506 := Aside0.mk (Kd.R_lower (Kd.R_new' (Kd.R_new' ho0 (Kd.R_lt (by (with_reducible repeat (first | apply Kd.R_alloc | apply Kd.R_drewN | apply Kd.R_drew)); exact (Kd.R_mono (Kd.R_far (p := ⟨gb502, 7, none⟩) (Kd.R_far (p := ⟨gb502, 6, none⟩) (Kd.R_far (p := ⟨gb502, 5, none⟩) (Kd.R_far (p := ⟨gb502, 4, none⟩) (Kd.R_far (p := ⟨gb502, 3, none⟩) (Kd.R_far (p := ⟨gb502, 2, none⟩) (Kd.R_far (p := ⟨gb502, 1, none⟩) (Kd.R_far (p := ⟨gb502, 0, none⟩) (Kd.R_types HO482.out BK502.out (by decide)) (fun _ hk => hk.2) (.int .i64 t491)) (fun _ hk => hk.2) (.slice Ao46 t492.length co46)) (fun _ hk => hk.2) (.int .u32 t495)) (fun _ hk => hk.2) (.int .i64 t496)) (fun _ hk => hk.2) (.string t497)) (fun _ hk => hk.2) (.int .u64 t498)) (fun _ hk => hk.2) (.int .u64 t499)) (fun _ hk => hk.2) (.bool t500)) (fun _ h_ => h_.1))))) (Kd.R_lt (by (with_reducible repeat (first | apply Kd.R_alloc | apply Kd.R_drewN | apply Kd.R_drew)); exact (Kd.R_mono (Kd.R_far (p := ⟨gb502, 7, none⟩) (Kd.R_far (p := ⟨gb502, 6, none⟩) (Kd.R_far (p := ⟨gb502, 5, none⟩) (Kd.R_far (p := ⟨gb502, 4, none⟩) (Kd.R_far (p := ⟨gb502, 3, none⟩) (Kd.R_far (p := ⟨gb502, 2, none⟩) (Kd.R_far (p := ⟨gb502, 1, none⟩) (Kd.R_far (p := ⟨gb502, 0, none⟩) (Kd.R_types HO494.out BK502.out (by decide)) (fun _ hk => hk.2) (.int .i64 t491)) (fun _ hk => hk.2) (.slice Ao46 t492.length co46)) (fun _ hk => hk.2) (.int .u32 t495)) (fun _ hk => hk.2) (.int .i64 t496)) (fun _ hk => hk.2) (.string t497)) (fun _ hk => hk.2) (.int .u64 t498)) (fun _ hk => hk.2) (.int .u64 t499)) (fun _ hk => hk.2) (.bool t500)) (fun _ h_ => h_.1))))) (below_size (bH HB.out))); replace HO482 := Aside0.mk (Kd.R_elder' (by (with_reducible repeat (first | apply Kd.R_alloc | apply Kd.R_drewN | apply Kd.R_drew)); exact (Kd.R_mono (Kd.R_far (p := ⟨gb502, 7, none⟩) (Kd.R_far (p := ⟨gb502, 6, none⟩) (Kd.R_far (p := ⟨gb502, 5, none⟩) (Kd.R_far (p := ⟨gb502, 4, none⟩) (Kd.R_far (p := ⟨gb502, 3, none⟩) (Kd.R_far (p := ⟨gb502, 2, none⟩) (Kd.R_far (p := ⟨gb502, 1, none⟩) (Kd.R_far (p := ⟨gb502, 0, none⟩) (Kd.R_types HO482.out BK502.out (by decide)) (fun _ hk => hk.2) (.int .i64 t491)) (fun _ hk => hk.2) (.slice Ao46 t492.length co46)) (fun _ hk => hk.2) (.int .u32 t495)) (fun _ hk => hk.2) (.int .i64 t496)) (fun _ hk => hk.2) (.string t497)) (fun _ hk => hk.2) (.int .u64 t498)) (fun _ hk => hk.2) (.int .u64 t499)) (fun _ hk => hk.2) (.bool t500)) (fun _ h_ => h_.1))) (Kd.R_base ho0) hb); replace HO494 := Aside0.mk (Kd.R_elder' (by (with_reducible repeat (first | apply Kd.R_alloc | apply Kd.R_drewN | apply Kd.R_drew)); exact (Kd.R_mono (Kd.R_far (p := ⟨gb502, 7, none⟩) (Kd.R_far (p := ⟨gb502, 6, none⟩) (Kd.R_far (p := ⟨gb502, 5, none⟩) (Kd.R_far (p := ⟨gb502, 4, none⟩) (Kd.R_far (p := ⟨gb502, 3, none⟩) (Kd.R_far (p := ⟨gb502, 2, none⟩) (Kd.R_far (p := ⟨gb502, 1, none⟩) (Kd.R_far (p := ⟨gb502, 0, none⟩) (Kd.R_types HO494.out BK502.out (by decide)) (fun _ hk => hk.2) (.int .i64 t491)) (fun _ hk => hk.2) (.slice Ao46 t492.length co46)) (fun _ hk => hk.2) (.int .u32 t495)) (fun _ hk => hk.2) (.int .i64 t496)) (fun _ hk => hk.2) (.string t497)) (fun _ hk => hk.2) (.int .u64 t498)) (fun _ hk => hk.2) (.int .u64 t499)) (fun _ hk => hk.2) (.bool t500)) (fun _ h_ => h_.1))) (Kd.R_base ho0) hb); replace BK467 := rB BK467 hb; replace BK468 := rB BK468 hb; replace BK490 := rB BK490 hb; replace BK502 := Aside0.mk (blk_below (g := gb502) (o := .cells #[.int .i64 t491, .slice Ao46 t492.length co46, .int .u32 t495, .int .i64 t496, .string t497, .int .u64 t498, .int .u64 t499, .bool t500] 70 (0, 0)) (bV BK502.out) hb); replace HB := rS HB hb; (try clear hb); (try clear hk); (try clear ho0); obtain ⟨Ao49, co49, eo49⟩ := Kd.R_slice HO506.out; subst eo49) | ((with_reducible refine gate_callee (f := 32) rfl ?_); refine gL (some 36) rfl rfl Try.func32 #[.agg #[.int .i64 t503, .slice Ao49 t504.length co49, .int .u32 t507, .int .i64 t508, .string t509, .int .u64 t510, .int .u64 t511, .bool t512], .int .u32 a2] rfl ?_; (with_reducible refine (frame_Request.calls kj3 t503 _ _ t504 t507 t508 t509 t510 t511 t512 a2 t513 t514 t515 t516 t517 t518 t519 t520 t521 _ ?side1 ?side2 A23.out).mono ?_); (case side1 => repeat (first | exact (Kd.R_reads' HO506.out).2.2 | (with_reducible refine Kd.C_alloc ?_ _) | (with_reducible refine Kd.C_drewN ?_ _) | (with_reducible refine Kd.C_drew ?_))); (case side2 => exact (Kd.R_reads' HO506.out).2.1); rintro e w50 ⟨rfl, hb⟩; refine ⟨_, rfl, ?_⟩; replace HO482 := Aside0.mk (Kd.R_below (by (with_reducible repeat (first | apply Kd.R_alloc | apply Kd.R_drewN | apply Kd.R_drew)); exact HO482.out) hb); replace HO494 := Aside0.mk (Kd.R_below (by (with_reducible repeat (first | apply Kd.R_alloc | apply Kd.R_drewN | apply Kd.R_drew)); exact HO494.out) hb); replace HO506 := Aside0.mk (Kd.R_below (by (with_reducible repeat (first | apply Kd.R_alloc | apply Kd.R_drewN | apply Kd.R_drew)); exact HO506.out) hb); replace BK467 := rB BK467 hb; replace BK468 := rB BK468 hb; replace BK490 := rB BK490 hb; replace BK502 := rB BK502 hb; replace HB := rS HB hb; (try clear hb); (try clear hk); ) | ((with_reducible refine gate_dst (N := 11) rfl ?_); refine bE 11 #[.bool false, .int .u8 0, .int .u16 0, .int .u32 0, .int .u64 0, .string (⟨#[]⟩ : ByteArray), .string (⟨#[]⟩ : ByteArray), .string (⟨#[]⟩ : ByteArray)] 31 rfl rfl ?_; intro gb522 hg w51 hbox hb; replace HO482 := Aside0.mk (Kd.R_below (by (with_reducible repeat (first | apply Kd.R_alloc | apply Kd.R_drewN | apply Kd.R_drew)); exact HO482.out) hb); replace HO494 := Aside0.mk (Kd.R_below (by (with_reducible repeat (first | apply Kd.R_alloc | apply Kd.R_drewN | apply Kd.R_drew)); exact HO494.out) hb); replace HO506 := Aside0.mk (Kd.R_below (by (with_reducible repeat (first | apply Kd.R_alloc | apply Kd.R_drewN | apply Kd.R_drew)); exact HO506.out) hb); have BK522 := rM hbox; have GW522 := rG HB hg; replace HB := rS HB hb; have GE522 := GW522; have NB467_522 := rN BK467 hg; replace BK467 := rB BK467 hb; have NB522_467 := rY NB467_522; have NB468_522 := rN BK468 hg; replace BK468 := rB BK468 hb; have NB522_468 := rY NB468_522; have NB490_522 := rN BK490 hg; replace BK490 := rB BK490 hb; have NB522_490 := rY NB490_522; have NB502_522 := rN BK502 hg; replace BK502 := rB BK502 hb; have NB522_502 := rY NB502_522; clear hb hbox hg; have hnb52 := rP NB522_467 NB467_522; have hnb53 := rP NB522_468 NB468_522; have hnb54 := rP NB522_490 NB490_522; have hnb55 := rP NB522_502 NB502_522; obtain ⟨hcz56, hfz56⟩ := d8 BK522; obtain ⟨hcz57, hfz57⟩ := d8 BK468) | ((with_reducible refine gate_callee (f := 34) rfl ?_); refine gL (some 42) rfl rfl Try.func34 #[.agg #[.int .i64 a1_0, .slice A1_1 l1_1.length c1_1, .int .u32 a1_2, .int .i64 a1_3, .string a1_4, .int .u64 a1_5, .int .u64 a1_6, .bool a1_7], .int .u32 a2] rfl ?_; (with_reducible refine (tallboyref29_Request.calls kj3 a1_0 _ _ l1_1 a1_2 a1_3 a1_4 a1_5 a1_6 a1_7 a2 t523 t524 t525 t526 t527 t528 t529 t530 t531 _ ?side1 ?side2 A24.out).mono ?_); (case side1 => exact Kd.C_below HR1_1.out (bH HB.out)); (case side2 => exact HC1_1.out); rintro e w58 ⟨rfl, hb⟩; refine ⟨_, rfl, ?_⟩; replace HO482 := Aside0.mk (Kd.R_below (by (with_reducible repeat (first | apply Kd.R_alloc | apply Kd.R_drewN | apply Kd.R_drew)); exact (Kd.R_mono (Kd.R_far (p := ⟨gb522, 7, none⟩) (Kd.R_far (p := ⟨gb522, 6, none⟩) (Kd.R_far (p := ⟨gb522, 5, none⟩) (Kd.R_far (p := ⟨gb522, 4, none⟩) (Kd.R_far (p := ⟨gb522, 3, none⟩) (Kd.R_far (p := ⟨gb522, 2, none⟩) (Kd.R_far (p := ⟨gb522, 1, none⟩) (Kd.R_far (p := ⟨gb522, 0, none⟩) (Kd.R_types HO482.out BK522.out (by decide)) (fun _ hk => hk.2) (.bool t513)) (fun _ hk => hk.2) (.int .u8 t514)) (fun _ hk => hk.2) (.int .u16 t515)) (fun _ hk => hk.2) (.int .u32 t516)) (fun _ hk => hk.2) (.int .u64 t517)) (fun _ hk => hk.2) (.string t518)) (fun _ hk => hk.2) (.string t519)) (fun _ hk => hk.2) (.string t520)) (fun _ h_ => h_.1))) hb); replace HO494 := Aside0.mk (Kd.R_below (by (with_reducible repeat (first | apply Kd.R_alloc | apply Kd.R_drewN | apply Kd.R_drew)); exact (Kd.R_mono (Kd.R_far (p := ⟨gb522, 7, none⟩) (Kd.R_far (p := ⟨gb522, 6, none⟩) (Kd.R_far (p := ⟨gb522, 5, none⟩) (Kd.R_far (p := ⟨gb522, 4, none⟩) (Kd.R_far (p := ⟨gb522, 3, none⟩) (Kd.R_far (p := ⟨gb522, 2, none⟩) (Kd.R_far (p := ⟨gb522, 1, none⟩) (Kd.R_far (p := ⟨gb522, 0, none⟩) (Kd.R_types HO494.out BK522.out (by decide)) (fun _ hk => hk.2) (.bool t513)) (fun _ hk => hk.2) (.int .u8 t514)) (fun _ hk => hk.2) (.int .u16 t515)) (fun _ hk => hk.2) (.int .u32 t516)) (fun _ hk => hk.2) (.int .u64 t517)) (fun _ hk => hk.2) (.string t518)) (fun _ hk => hk.2) (.string t519)) (fun _ hk => hk.2) (.string t520)) (fun _ h_ => h_.1))) hb); replace HO506 := Aside0.mk (Kd.R_below (by (with_reducible repeat (first | apply Kd.R_alloc | apply Kd.R_drewN | apply Kd.R_drew)); exact (Kd.R_mono (Kd.R_far (p := ⟨gb522, 7, none⟩) (Kd.R_far (p := ⟨gb522, 6, none⟩) (Kd.R_far (p := ⟨gb522, 5, none⟩) (Kd.R_far (p := ⟨gb522, 4, none⟩) (Kd.R_far (p := ⟨gb522, 3, none⟩) (Kd.R_far (p := ⟨gb522, 2, none⟩) (Kd.R_far (p := ⟨gb522, 1, none⟩) (Kd.R_far (p := ⟨gb522, 0, none⟩) (Kd.R_types HO506.out BK522.out (by decide)) (fun _ hk => hk.2) (.bool t513)) (fun _ hk => hk.2) (.int .u8 t514)) (fun _ hk => hk.2) (.int .u16 t515)) (fun _ hk => hk.2) (.int .u32 t516)) (fun _ hk => hk.2) (.int .u64 t517)) (fun _ hk => hk.2) (.string t518)) (fun _ hk => hk.2) (.string t519)) (fun _ hk => hk.2) (.string t520)) (fun _ h_ => h_.1))) hb); replace BK467 := rB BK467 hb; replace BK468 := rB BK468 hb; replace BK490 := rB BK490 hb; replace BK502 := rB BK502 hb; replace BK522 := Aside0.mk (blk_below (g := gb522) (o := .cells #[.bool t513, .int .u8 t514, .int .u16 t515, .int .u32 t516, .int .u64 t517, .string t518, .string t519, .string t520] 31 (0, 0)) (bV BK522.out) hb); replace HB := rS HB hb; (try clear hb); (try clear hk); ) | ((with_reducible refine gate_dst (N := 13) rfl ?_); refine bE 13 #[.bool false, .int .u8 0, .int .u16 0, .int .u32 0, .int .u64 0, .string (⟨#[]⟩ : ByteArray), .string (⟨#[]⟩ : ByteArray), .string (⟨#[]⟩ : ByteArray)] 26 rfl rfl ?_; intro gb532 hg w59 hbox hb; replace HO482 := Aside0.mk (Kd.R_below (by (with_reducible repeat (first | apply Kd.R_alloc | apply Kd.R_drewN | apply Kd.R_drew)); exact HO482.out) hb); replace HO494 := Aside0.mk (Kd.R_below (by (with_reducible repeat (first | apply Kd.R_alloc | apply Kd.R_drewN | apply Kd.R_drew)); exact HO494.out) hb); replace HO506 := Aside0.mk (Kd.R_below (by (with_reducible repeat (first | apply Kd.R_alloc | apply Kd.R_drewN | apply Kd.R_drew)); exact HO506.out) hb); have BK532 := rM hbox; have GW532 := rG HB hg; replace HB := rS HB hb; have GE532 := GW532; have NB467_532 := rN BK467 hg; replace BK467 := rB BK467 hb; have NB532_467 := rY NB467_532; have NB468_532 := rN BK468 hg; replace BK468 := rB BK468 hb; have NB532_468 := rY NB468_532; have NB490_532 := rN BK490 hg; replace BK490 := rB BK490 hb; have NB532_490 := rY NB490_532; have NB502_532 := rN BK502 hg; replace BK502 := rB BK502 hb; have NB532_502 := rY NB502_532; have NB522_532 := rN BK522 hg; replace BK522 := rB BK522 hb; have NB532_522 := rY NB522_532; clear hb hbox hg; have hnb60 := rP NB532_467 NB467_532; have hnb61 := rP NB532_468 NB468_532; have hnb62 := rP NB532_490 NB490_532; have hnb63 := rP NB532_502 NB502_532; have hnb64 := rP NB532_522 NB522_532; obtain ⟨hcz65, hfz65⟩ := d8 BK532))
       have n0_ : Aside0 (Kd.R Kd.string 9 ((((((((w59.setCell ⟨gb532, 0, none⟩ (.bool t523)).setCell ⟨gb532, 1, none⟩ (.int .u8 t524)).setCell ⟨gb532, 2, none⟩ (.int .u16 t525)).setCell ⟨gb532, 3, none⟩ (.int .u32 t526)).setCell ⟨gb532, 4, none⟩ (.int .u64 t527)).setCell ⟨gb532, 5, none⟩ (.string t528)).setCell ⟨gb532, 6, none⟩ (.string t529)).setCell ⟨gb532, 7, none⟩ (.string t530)) w.heap.size (fun k_ => some k_ ≠ (.slice Ao46 t492.length co46 : Value).ownBlock ∧ some k_ ≠ (.slice Ao49 t504.length co49 : Value).ownBlock) (.slice Ao38 t480.length co38) t480) := ⟨by (with_reducible repeat (first | apply Kd.R_alloc | apply Kd.R_drewN | apply Kd.R_drew)); exact Kd.R_mono (Kd.R_far (p := ⟨gb532, 7, none⟩) (Kd.R_far (p := ⟨gb532, 6, none⟩) (Kd.R_far (p := ⟨gb532, 5, none⟩) (Kd.R_far (p := ⟨gb532, 4, none⟩) (Kd.R_far (p := ⟨gb532, 3, none⟩) (Kd.R_far (p := ⟨gb532, 2, none⟩) (Kd.R_far (p := ⟨gb532, 1, none⟩) (Kd.R_far (p := ⟨gb532, 0, none⟩) (Kd.R_types HO482.out BK532.out (by decide)) (fun _ hk => hk.2) (.bool t523)) (fun _ hk => hk.2) (.int .u8 t524)) (fun _ hk => hk.2) (.int .u16 t525)) (fun _ hk => hk.2) (.int .u32 t526)) (fun _ hk => hk.2) (.int .u64 t527)) (fun _ hk => hk.2) (.string t528)) (fun _ hk => hk.2) (.string t529)) (fun _ hk => hk.2) (.string t530)) (fun _ hk => ⟨hk.1.1.2, hk.1.2⟩)⟩; have n1_ : Aside0 (Kd.R Kd.string 9 ((((((((w59.setCell ⟨gb532, 0, none⟩ (.bool t523)).setCell ⟨gb532, 1, none⟩ (.int .u8 t524)).setCell ⟨gb532, 2, none⟩ (.int .u16 t525)).setCell ⟨gb532, 3, none⟩ (.int .u32 t526)).setCell ⟨gb532, 4, none⟩ (.int .u64 t527)).setCell ⟨gb532, 5, none⟩ (.string t528)).setCell ⟨gb532, 6, none⟩ (.string t529)).setCell ⟨gb532, 7, none⟩ (.string t530)) w.heap.size (fun k_ => some k_ ≠ (.slice Ao38 t480.length co38 : Value).ownBlock ∧ some k_ ≠ (.slice Ao49 t504.length co49 : Value).ownBlock) (.slice Ao46 t492.length co46) t492) := ⟨by (with_reducible repeat (first | apply Kd.R_alloc | apply Kd.R_drewN | apply Kd.R_drew)); exact Kd.R_mono (Kd.R_far (p := ⟨gb532, 7, none⟩) (Kd.R_far (p := ⟨gb532, 6, none⟩) (Kd.R_far (p := ⟨gb532, 5, none⟩) (Kd.R_far (p := ⟨gb532, 4, none⟩) (Kd.R_far (p := ⟨gb532, 3, none⟩) (Kd.R_far (p := ⟨gb532, 2, none⟩) (Kd.R_far (p := ⟨gb532, 1, none⟩) (Kd.R_far (p := ⟨gb532, 0, none⟩) (Kd.R_types HO494.out BK532.out (by decide)) (fun _ hk => hk.2) (.bool t523)) (fun _ hk => hk.2) (.int .u8 t524)) (fun _ hk => hk.2) (.int .u16 t525)) (fun _ hk => hk.2) (.int .u32 t526)) (fun _ hk => hk.2) (.int .u64 t527)) (fun _ hk => hk.2) (.string t528)) (fun _ hk => hk.2) (.string t529)) (fun _ hk => hk.2) (.string t530)) (fun _ hk => ⟨hk.1.1.2, hk.1.2⟩)⟩
       have n2_ : Aside0 (Kd.R Kd.string 9 ((((((((w59.setCell ⟨gb532, 0, none⟩ (.bool t523)).setCell ⟨gb532, 1, none⟩ (.int .u8 t524)).setCell ⟨gb532, 2, none⟩ (.int .u16 t525)).setCell ⟨gb532, 3, none⟩ (.int .u32 t526)).setCell ⟨gb532, 4, none⟩ (.int .u64 t527)).setCell ⟨gb532, 5, none⟩ (.string t528)).setCell ⟨gb532, 6, none⟩ (.string t529)).setCell ⟨gb532, 7, none⟩ (.string t530)) w.heap.size (fun k_ => some k_ ≠ (.slice Ao38 t480.length co38 : Value).ownBlock ∧ some k_ ≠ (.slice Ao46 t492.length co46 : Value).ownBlock) (.slice Ao49 t504.length co49) t504) := ⟨by (with_reducible repeat (first | apply Kd.R_alloc | apply Kd.R_drewN | apply Kd.R_drew)); exact Kd.R_mono (Kd.R_far (p := ⟨gb532, 7, none⟩) (Kd.R_far (p := ⟨gb532, 6, none⟩) (Kd.R_far (p := ⟨gb532, 5, none⟩) (Kd.R_far (p := ⟨gb532, 4, none⟩) (Kd.R_far (p := ⟨gb532, 3, none⟩) (Kd.R_far (p := ⟨gb532, 2, none⟩) (Kd.R_far (p := ⟨gb532, 1, none⟩) (Kd.R_far (p := ⟨gb532, 0, none⟩) (Kd.R_types HO506.out BK532.out (by decide)) (fun _ hk => hk.2) (.bool t523)) (fun _ hk => hk.2) (.int .u8 t524)) (fun _ hk => hk.2) (.int .u16 t525)) (fun _ hk => hk.2) (.int .u32 t526)) (fun _ hk => hk.2) (.int .u64 t527)) (fun _ hk => hk.2) (.string t528)) (fun _ hk => hk.2) (.string t529)) (fun _ hk => hk.2) (.string t530)) (fun _ hk => ⟨hk.1.1.2, hk.1.2⟩)⟩
       have n3_ : Aside0 (((((((((w59.setCell ⟨gb532, 0, none⟩ (.bool t523)).setCell ⟨gb532, 1, none⟩ (.int .u8 t524)).setCell ⟨gb532, 2, none⟩ (.int .u16 t525)).setCell ⟨gb532, 3, none⟩ (.int .u32 t526)).setCell ⟨gb532, 4, none⟩ (.int .u64 t527)).setCell ⟨gb532, 5, none⟩ (.string t528)).setCell ⟨gb532, 6, none⟩ (.string t529)).setCell ⟨gb532, 7, none⟩ (.string t530)).heap[gb467]? = some (.cells #[.bool a0_0, .int .u8 a0_1, .int .u16 a0_2, .int .u32 a0_3, .int .u64 a0_4, .string a0_5, .string a0_6, .string a0_7] 26 (0, 0))) := ⟨bK BK467.out⟩
       have n4_ : Aside0 (((((((((w59.setCell ⟨gb532, 0, none⟩ (.bool t523)).setCell ⟨gb532, 1, none⟩ (.int .u8 t524)).setCell ⟨gb532, 2, none⟩ (.int .u16 t525)).setCell ⟨gb532, 3, none⟩ (.int .u32 t526)).setCell ⟨gb532, 4, none⟩ (.int .u64 t527)).setCell ⟨gb532, 5, none⟩ (.string t528)).setCell ⟨gb532, 6, none⟩ (.string t529)).setCell ⟨gb532, 7, none⟩ (.string t530)).heap[gb468]? = some (.cells #[.int .i64 a1_0, .slice A1_1 l1_1.length c1_1, .int .u32 a1_2, .int .i64 a1_3, .string a1_4, .int .u64 a1_5, .int .u64 a1_6, .bool a1_7] 70 (0, 0))) := ⟨bK BK468.out⟩
       have n5_ : Aside0 (((((((((w59.setCell ⟨gb532, 0, none⟩ (.bool t523)).setCell ⟨gb532, 1, none⟩ (.int .u8 t524)).setCell ⟨gb532, 2, none⟩ (.int .u16 t525)).setCell ⟨gb532, 3, none⟩ (.int .u32 t526)).setCell ⟨gb532, 4, none⟩ (.int .u64 t527)).setCell ⟨gb532, 5, none⟩ (.string t528)).setCell ⟨gb532, 6, none⟩ (.string t529)).setCell ⟨gb532, 7, none⟩ (.string t530)).heap[gb490]? = some (.cells #[.int .i64 t479, .slice Ao38 t480.length co38, .int .u32 t483, .int .i64 t484, .string t485, .int .u64 t486, .int .u64 t487, .bool t488] 70 (0, 0))) := ⟨bK BK490.out⟩
       have n6_ : Aside0 (((((((((w59.setCell ⟨gb532, 0, none⟩ (.bool t523)).setCell ⟨gb532, 1, none⟩ (.int .u8 t524)).setCell ⟨gb532, 2, none⟩ (.int .u16 t525)).setCell ⟨gb532, 3, none⟩ (.int .u32 t526)).setCell ⟨gb532, 4, none⟩ (.int .u64 t527)).setCell ⟨gb532, 5, none⟩ (.string t528)).setCell ⟨gb532, 6, none⟩ (.string t529)).setCell ⟨gb532, 7, none⟩ (.string t530)).heap[gb502]? = some (.cells #[.int .i64 t491, .slice Ao46 t492.length co46, .int .u32 t495, .int .i64 t496, .string t497, .int .u64 t498, .int .u64 t499, .bool t500] 70 (0, 0))) := ⟨bK BK502.out⟩
       have n7_ : Aside0 (((((((((w59.setCell ⟨gb532, 0, none⟩ (.bool t523)).setCell ⟨gb532, 1, none⟩ (.int .u8 t524)).setCell ⟨gb532, 2, none⟩ (.int .u16 t525)).setCell ⟨gb532, 3, none⟩ (.int .u32 t526)).setCell ⟨gb532, 4, none⟩ (.int .u64 t527)).setCell ⟨gb532, 5, none⟩ (.string t528)).setCell ⟨gb532, 6, none⟩ (.string t529)).setCell ⟨gb532, 7, none⟩ (.string t530)).heap[gb522]? = some (.cells #[.bool t513, .int .u8 t514, .int .u16 t515, .int .u32 t516, .int .u64 t517, .string t518, .string t519, .string t520] 31 (0, 0))) := ⟨bK BK522.out⟩
       have n8_ : Aside0 (((((((((w59.setCell ⟨gb532, 0, none⟩ (.bool t523)).setCell ⟨gb532, 1, none⟩ (.int .u8 t524)).setCell ⟨gb532, 2, none⟩ (.int .u16 t525)).setCell ⟨gb532, 3, none⟩ (.int .u32 t526)).setCell ⟨gb532, 4, none⟩ (.int .u64 t527)).setCell ⟨gb532, 5, none⟩ (.string t528)).setCell ⟨gb532, 6, none⟩ (.string t529)).setCell ⟨gb532, 7, none⟩ (.string t530)).heap[gb532]? = some (.cells #[.bool t523, .int .u8 t524, .int .u16 t525, .int .u32 t526, .int .u64 t527, .string t528, .string t529, .string t530] 26 (0, 0))) := ⟨bV BK532.out⟩
       have n9_ : Aside0 (Below w.heap.size w ((((((((w59.setCell ⟨gb532, 0, none⟩ (.bool t523)).setCell ⟨gb532, 1, none⟩ (.int .u8 t524)).setCell ⟨gb532, 2, none⟩ (.int .u16 t525)).setCell ⟨gb532, 3, none⟩ (.int .u32 t526)).setCell ⟨gb532, 4, none⟩ (.int .u64 t527)).setCell ⟨gb532, 5, none⟩ (.string t528)).setCell ⟨gb532, 6, none⟩ (.string t529)).setCell ⟨gb532, 7, none⟩ (.string t530))) := ⟨bH HB.out⟩
       (try clear HO482)
       (try clear HO494)
       (try clear HO506)
       (try clear BK467)
       (try clear BK468)
       (try clear BK490)
       (try clear BK502)
       (try clear BK522)
       (try clear BK532)
       (try clear HB)
       generalize ((((((((w59.setCell ⟨gb532, 0, none⟩ (.bool t523)).setCell ⟨gb532, 1, none⟩ (.int .u8 t524)).setCell ⟨gb532, 2, none⟩ (.int .u16 t525)).setCell ⟨gb532, 3, none⟩ (.int .u32 t526)).setCell ⟨gb532, 4, none⟩ (.int .u64 t527)).setCell ⟨gb532, 5, none⟩ (.string t528)).setCell ⟨gb532, 6, none⟩ (.string t529)).setCell ⟨gb532, 7, none⟩ (.string t530)) = w66 at n0_ n1_ n2_ n3_ n4_ n5_ n6_ n7_ n8_ n9_ ⊢; have HO482 := n0_; have HO494 := n1_; have HO506 := n2_; have BK467 := n3_; have BK468 := n4_; have BK490 := n5_; have BK502 := n6_; have BK522 := n7_; have BK532 := n8_; have HB := n9_; clear n0_ n1_ n2_ n3_ n4_ n5_ n6_ n7_ n8_ n9_; replace HO482 := Aside0.mk (Kd.R_drew HO482.out); replace HO494 := Aside0.mk (Kd.R_drew HO494.out); replace HO506 := Aside0.mk (Kd.R_drew HO506.out); replace BK467 := Aside0.mk (bD BK467.out); replace BK468 := Aside0.mk (bD BK468.out); replace BK490 := Aside0.mk (bD BK490.out); replace BK502 := Aside0.mk (bD BK502.out); replace BK522 := Aside0.mk (bD BK522.out); replace BK532 := Aside0.mk (bD BK532.out); replace HB := Aside0.mk (eD HB.out); refine start_ (n := 20) (S := fun w' => w'.cell? ⟨gb490, 0, none⟩ = some (.int .i64 t479) ∧ w'.cell? ⟨gb490, 1, none⟩ = some (.slice Ao38 t480.length co38) ∧ w'.cell? ⟨gb490, 2, none⟩ = some (.int .u32 t483) ∧ w'.cell? ⟨gb490, 3, none⟩ = some (.int .i64 t484) ∧ w'.cell? ⟨gb490, 4, none⟩ = some (.string t485) ∧ w'.cell? ⟨gb490, 5, none⟩ = some (.int .u64 t486) ∧ w'.cell? ⟨gb490, 6, none⟩ = some (.int .u64 t487) ∧ w'.cell? ⟨gb490, 7, none⟩ = some (.bool t488) ∧ w'.cell? ⟨gb502, 0, none⟩ = some (.int .i64 t491) ∧ w'.cell? ⟨gb502, 1, none⟩ = some (.slice Ao46 t492.length co46) ∧ w'.cell? ⟨gb502, 2, none⟩ = some (.int .u32 t495) ∧ w'.cell? ⟨gb502, 3, none⟩ = some (.int .i64 t496) ∧ w'.cell? ⟨gb502, 4, none⟩ = some (.string t497) ∧ w'.cell? ⟨gb502, 5, none⟩ = some (.int .u64 t498) ∧ w'.cell? ⟨gb502, 6, none⟩ = some (.int .u64 t499) ∧ w'.cell? ⟨gb502, 7, none⟩ = some (.bool t500) ∧ w'.cell? ⟨gb522, 0, none⟩ = some (.bool t513) ∧ w'.cell? ⟨gb522, 1, none⟩ = some (.int .u8 t514) ∧ w'.cell? ⟨gb522, 2, none⟩ = some (.int .u16 t515) ∧ w'.cell? ⟨gb522, 3, none⟩ = some (.int .u32 t516) ∧ w'.cell? ⟨gb522, 4, none⟩ = some (.int .u64 t517) ∧ w'.cell? ⟨gb522, 5, none⟩ = some (.string t518) ∧ w'.cell? ⟨gb522, 6, none⟩ = some (.string t519) ∧ w'.cell? ⟨gb522, 7, none⟩ = some (.string t520) ∧ w'.cell? ⟨gb532, 0, none⟩ = some (.bool t523) ∧ w'.cell? ⟨gb532, 1, none⟩ = some (.int .u8 t524) ∧ w'.cell? ⟨gb532, 2, none⟩ = some (.int .u16 t525) ∧ w'.cell? ⟨gb532, 3, none⟩ = some (.int .u32 t526) ∧ w'.cell? ⟨gb532, 4, none⟩ = some (.int .u64 t527) ∧ w'.cell? ⟨gb532, 5, none⟩ = some (.string t528) ∧ w'.cell? ⟨gb532, 6, none⟩ = some (.string t529) ∧ w'.cell? ⟨gb532, 7, none⟩ = some (.string t530)) (ds := []) #[false, false, false, false, false, false, false, false, false, false, false, false, false, false, false, false, false, false, false, false] (by kernel_rfl) rfl rfl ⟨kC BK490 0, kC BK490 1, kC BK490 2, kC BK490 3, kC BK490 4, kC BK490 5, kC BK490 6, kC BK490 7, kC BK502 0, kC BK502 1, kC BK502 2, kC BK502 3, kC BK502 4, kC BK502 5, kC BK502 6, kC BK502 7, kC BK522 0, kC BK522 1, kC BK522 2, kC BK522 3, kC BK522 4, kC BK522 5, kC BK522 6, kC BK522 7, kC BK532 0, kC BK532 1, kC BK532 2, kC BK532 3, kC BK532 4, kC BK532 5, kC BK532 6, kC BK532 7⟩ (fun hHeld => ?_); refine with_tabW tallboylaw29_FrameAsks.tab7 tallboylaw29_FrameAsks.bits7 (fun HT_ HW_ => ?_)
       generalize w66.drew = w67 at HO482 HO494 HO506 BK467 BK468 BK490 BK502 BK522 BK532 HB hHeld ⊢; refine tU HT_ HW_ hHeld 0 (some 45) ?_ #[true, false, false, false, false, false, false, false, false, false, false, false, false, false, false, false, false, false, false, false] rfl rfl ?_ ?_ ?_ ?_
       rotate_left
       ·rintro w' ⟨s0, s1, s2, s3, s4, s5, s6, s7, s8, s9, s10, s11, s12, s13, s14, s15, s16, s17, s18, s19, s20, s21, s22, s23, s24, s25, s26, s27, s28, s29, s30, s31⟩
        go_simp
        with_reducible rfl
       rotate_left
       ·simp only [Act.put, sA, sB, sC, i64_w, i32_w]
        rfl
       refine tU HT_ HW_ hHeld 1 (some 46) ?_ #[true, true, false, false, false, false, false, false, false, false, false, false, false, false, false, false, false, false, false, false] rfl rfl ?_ ?_ ?_ ?_
       rotate_left
       ·rintro w' ⟨s0, s1, s2, s3, s4, s5, s6, s7, s8, s9, s10, s11, s12, s13, s14, s15, s16, s17, s18, s19, s20, s21, s22, s23, s24, s25, s26, s27, s28, s29, s30, s31⟩
        go_simp
        with_reducible rfl
       rotate_left
       ·simp only [Act.put, sA, sB, sC, i64_w, i32_w]
        rfl
       refine one_ (i := 2) (N := some 47) #[true, true, true, false, false, false, false, false, false, false, false, false, false, false, false, false, false, false, false, false] rfl rfl (one_of HT_.out (by kernel_rfl)) (by decide) (fun K hK => ?_)
       refine goes_ Try.func35 (by kernel_rfl) rfl #[.agg #[.int .i64 t479, .slice Ao38 t480.length co38, .int .u32 t483, .int .i64 t484, .string t485, .int .u64 t486, .int .u64 t487, .bool t488], .agg #[.int .i64 t491, .slice Ao46 t492.length co46, .int .u32 t495, .int .i64 t496, .string t497, .int .u64 t498, .int .u64 t499, .bool t500]] (by rfl) rfl rfl (by (try simp only [List.map_toArray, List.map_cons, List.map_nil]); first | done | rfl | (simp only [List.length_drop, List.length_take]; rfl)) ?_
       with_reducible refine (tallboyref17_SameCommands.calls kj3 t479 _ _ t480 t483 t484 t485 t486 t487 t488 t491 _ _ t492 t495 t496 t497 t498 t499 t500 true _ ?side1 ?side2 ?side3 ?side4 A25.out).mono ?_
       (case side1 => repeat (first | exact (Kd.R_reads' HO482.out).2.2 | (with_reducible refine Kd.C_alloc ?_ _) | (with_reducible refine Kd.C_drewN ?_ _) | (with_reducible refine Kd.C_drew ?_)))
       (case side2 => exact (Kd.R_reads' HO482.out).2.1)
       (case side3 => repeat (first | exact (Kd.R_reads' HO494.out).2.2 | (with_reducible refine Kd.C_alloc ?_ _) | (with_reducible refine Kd.C_drewN ?_ _) | (with_reducible refine Kd.C_drew ?_)))
       (case side4 => exact (Kd.R_reads' HO494.out).2.1)
       rintro e w68 ⟨rfl, hb⟩
       refine ⟨_, rfl, ?_⟩
       replace HO482 := Aside0.mk (Kd.R_below (by (with_reducible repeat (first | apply Kd.R_alloc | apply Kd.R_drewN | apply Kd.R_drew)); exact HO482.out) hb); replace HO494 := Aside0.mk (Kd.R_below (by (with_reducible repeat (first | apply Kd.R_alloc | apply Kd.R_drewN | apply Kd.R_drew)); exact HO494.out) hb); replace HO506 := Aside0.mk (Kd.R_below (by (with_reducible repeat (first | apply Kd.R_alloc | apply Kd.R_drewN | apply Kd.R_drew)); exact HO506.out) hb); replace BK467 := rB BK467 hb; replace BK468 := rB BK468 hb; replace BK490 := rB BK490 hb; replace BK502 := rB BK502 hb; replace BK522 := rB BK522 hb; replace BK532 := rB BK532 hb; replace HB := rS HB hb
       (try clear hb)
       
       (try clear hk)
       
       refine hK.out _ _ ⟨kC BK490 0, kC BK490 1, kC BK490 2, kC BK490 3, kC BK490 4, kC BK490 5, kC BK490 6, kC BK490 7, kC BK502 0, kC BK502 1, kC BK502 2, kC BK502 3, kC BK502 4, kC BK502 5, kC BK502 6, kC BK502 7, kC BK522 0, kC BK522 1, kC BK522 2, kC BK522 3, kC BK522 4, kC BK522 5, kC BK522 6, kC BK522 7, kC BK532 0, kC BK532 1, kC BK532 2, kC BK532 3, kC BK532 4, kC BK532 5, kC BK532 6, kC BK532 7⟩ (fun hHeld => ?_)
       clear hK K; refine norm_ (a' := ?_) ?_ ?_
       rotate_left
       ·show Act.put _ (some 47) _ = _
        simp only [Act.put, sA, sB, sC, i64_w, i32_w]
        rfl
       refine pU HT_ 3 (some 48) ?_ #[true, true, true, true, false, false, false, false, false, false, false, false, false, false, false, false, false, false, false, false] rfl rfl ?_ ?_ ?_ ?_
       rotate_left
       ·intro w'
        go_simp
        with_reducible rfl
       rotate_left
       ·simp only [Act.put, sA, sB, sC, i64_w, i32_w]
        rfl
       refine pU HT_ 4 (some 49) ?_ #[true, true, true, true, true, false, false, false, false, false, false, false, false, false, false, false, false, false, false, false] rfl rfl ?_ ?_ ?_ ?_
       rotate_left
       ·intro w'
        go_simp
        with_reducible rfl
       rotate_left
       ·simp only [Act.put, sA, sB, sC, i64_w, i32_w]
        rfl
       refine pU HT_ 5 (some 50) ?_ #[true, true, true, true, true, true, false, false, false, false, false, false, false, false, false, false, false, false, false, false] rfl rfl ?_ ?_ ?_ ?_
       rotate_left
       ·intro w'
        go_simp
        with_reducible rfl
       rotate_left
       ·simp only [Act.put, sA, sB, sC, i64_w, i32_w]
        rfl
       refine pU HT_ 6 (some 51) ?_ #[true, true, true, true, true, true, true, false, false, false, false, false, false, false, false, false, false, false, false, false] rfl rfl ?_ ?_ ?_ ?_
       rotate_left
       ·intro w'
        go_simp
        with_reducible rfl
       rotate_left
       ·simp only [Act.put, sA, sB, sC, i64_w, i32_w]
        rfl
       refine pU HT_ 7 (some 52) ?_ #[true, true, true, true, true, true, true, true, false, false, false, false, false, false, false, false, false, false, false, false] rfl rfl ?_ ?_ ?_ ?_
       rotate_left
       ·intro w'
        go_simp
        with_reducible rfl
       rotate_left
       ·simp only [Act.put, sA, sB, sC, i64_w, i32_w]
        rfl
       refine pU HT_ 8 (some 53) ?_ #[true, true, true, true, true, true, true, true, true, false, false, false, false, false, false, false, false, false, false, false] rfl rfl ?_ ?_ ?_ ?_
       rotate_left
       ·intro w'
        go_simp
        with_reducible rfl
       rotate_left
       ·simp only [Act.put, sA, sB, sC, i64_w, i32_w]
        rfl
       refine tU HT_ HW_ hHeld 9 (some 54) ?_ #[true, true, true, true, true, true, true, true, true, true, false, false, false, false, false, false, false, false, false, false] rfl rfl ?_ ?_ ?_ ?_
       rotate_left
       ·rintro w' ⟨s0, s1, s2, s3, s4, s5, s6, s7, s8, s9, s10, s11, s12, s13, s14, s15, s16, s17, s18, s19, s20, s21, s22, s23, s24, s25, s26, s27, s28, s29, s30, s31⟩
        go_simp
        with_reducible rfl
       rotate_left
       ·simp only [Act.put, sA, sB, sC, i64_w, i32_w]
        rfl
       refine tU HT_ HW_ hHeld 11 (some 56) ?_ #[true, true, true, true, true, true, true, true, true, true, false, true, false, false, false, false, false, false, false, false] rfl rfl ?_ ?_ ?_ ?_
       rotate_left
       ·rintro w' ⟨s0, s1, s2, s3, s4, s5, s6, s7, s8, s9, s10, s11, s12, s13, s14, s15, s16, s17, s18, s19, s20, s21, s22, s23, s24, s25, s26, s27, s28, s29, s30, s31⟩
        go_simp
        with_reducible rfl
       rotate_left
       ·simp only [Act.put, sA, sB, sC, i64_w, i32_w]
        rfl
       refine one_ (i := 10) (N := some 55) #[true, true, true, true, true, true, true, true, true, true, true, true, false, false, false, false, false, false, false, false] rfl rfl (one_of HT_.out (by kernel_rfl)) (by decide) (fun K hK => ?_)
       refine goes_ Try.func17 (by kernel_rfl) rfl #[.agg #[.bool t513, .int .u8 t514, .int .u16 t515, .int .u32 t516, .int .u64 t517, .string t518, .string t519, .string t520]] (by rfl) rfl rfl (by (try simp only [List.map_toArray, List.map_cons, List.map_nil]); first | done | rfl | (simp only [List.length_drop, List.length_take]; rfl)) ?_
       with_reducible refine (tallboylaw29_From.calls t513 t514 t515 t516 t517 t518 t519 t520 t534 t535 t536 t537 t538 t539 t540 t541 _ A28.out).mono ?_
       rintro e w69 ⟨rfl, hb⟩
       refine ⟨_, rfl, ?_⟩
       replace HO482 := Aside0.mk (Kd.R_below (by (with_reducible repeat (first | apply Kd.R_alloc | apply Kd.R_drewN | apply Kd.R_drew)); exact HO482.out) hb); replace HO494 := Aside0.mk (Kd.R_below (by (with_reducible repeat (first | apply Kd.R_alloc | apply Kd.R_drewN | apply Kd.R_drew)); exact HO494.out) hb); replace HO506 := Aside0.mk (Kd.R_below (by (with_reducible repeat (first | apply Kd.R_alloc | apply Kd.R_drewN | apply Kd.R_drew)); exact HO506.out) hb); replace BK467 := rB BK467 hb; replace BK468 := rB BK468 hb; replace BK490 := rB BK490 hb; replace BK502 := rB BK502 hb; replace BK522 := rB BK522 hb; replace BK532 := rB BK532 hb; replace HB := rS HB hb
       (try clear hb)
       
       (try clear hk)
       
       refine hK.out _ _ ⟨kC BK490 0, kC BK490 1, kC BK490 2, kC BK490 3, kC BK490 4, kC BK490 5, kC BK490 6, kC BK490 7, kC BK502 0, kC BK502 1, kC BK502 2, kC BK502 3, kC BK502 4, kC BK502 5, kC BK502 6, kC BK502 7, kC BK522 0, kC BK522 1, kC BK522 2, kC BK522 3, kC BK522 4, kC BK522 5, kC BK522 6, kC BK522 7, kC BK532 0, kC BK532 1, kC BK532 2, kC BK532 3, kC BK532 4, kC BK532 5, kC BK532 6, kC BK532 7⟩ (fun hHeld => ?_)
       clear hK K; refine norm_ (a' := ?_) ?_ ?_
       rotate_left
       ·show Act.put _ (some 55) _ = _
        simp only [Act.put, sA, sB, sC, i64_w, i32_w]
        rfl
       refine pU HT_ 12 (some 57) ?_ #[true, true, true, true, true, true, true, true, true, true, true, true, true, false, false, false, false, false, false, false] rfl rfl ?_ ?_ ?_ ?_
       rotate_left
       ·intro w'
        go_simp
        with_reducible rfl
       rotate_left
       ·simp only [Act.put, sA, sB, sC, i64_w, i32_w]
        rfl
       refine pU HT_ 13 (some 58) ?_ #[true, true, true, true, true, true, true, true, true, true, true, true, true, true, false, false, false, false, false, false] rfl rfl ?_ ?_ ?_ ?_
       rotate_left
       ·intro w'
        go_simp
        with_reducible rfl
       rotate_left
       ·simp only [Act.put, sA, sB, sC, i64_w, i32_w]
        rfl
       refine pU HT_ 14 (some 59) ?_ #[true, true, true, true, true, true, true, true, true, true, true, true, true, true, true, false, false, false, false, false] rfl rfl ?_ ?_ ?_ ?_
       rotate_left
       ·intro w'
        go_simp
        with_reducible rfl
       rotate_left
       ·simp only [Act.put, sA, sB, sC, i64_w, i32_w]
        rfl
       refine pU HT_ 15 (some 60) ?_ #[true, true, true, true, true, true, true, true, true, true, true, true, true, true, true, true, false, false, false, false] rfl rfl ?_ ?_ ?_ ?_
       rotate_left
       ·intro w'
        go_simp
        with_reducible rfl
       rotate_left
       ·simp only [Act.put, sA, sB, sC, i64_w, i32_w]
        rfl
       refine pU HT_ 16 (some 61) ?_ #[true, true, true, true, true, true, true, true, true, true, true, true, true, true, true, true, true, false, false, false] rfl rfl ?_ ?_ ?_ ?_
       rotate_left
       ·intro w'
        go_simp
        with_reducible rfl
       rotate_left
       ·simp only [Act.put, sA, sB, sC, i64_w, i32_w]
        rfl
       refine pU HT_ 17 (some 62) ?_ #[true, true, true, true, true, true, true, true, true, true, true, true, true, true, true, true, true, true, false, false] rfl rfl ?_ ?_ ?_ ?_
       rotate_left
       ·intro w'
        go_simp
        with_reducible rfl
       rotate_left
       ·simp only [Act.put, sA, sB, sC, i64_w, i32_w]
        rfl
       refine pU HT_ 18 (some 63) ?_ #[true, true, true, true, true, true, true, true, true, true, true, true, true, true, true, true, true, true, true, false] rfl rfl ?_ ?_ ?_ ?_
       rotate_left
       ·intro w'
        go_simp
        with_reducible rfl
       rotate_left
       ·simp only [Act.put, sA, sB, sC, i64_w, i32_w]
        rfl
       refine pU HT_ 19 (some 6) ?_ #[true, true, true, true, true, true, true, true, true, true, true, true, true, true, true, true, true, true, true, true] rfl rfl ?_ ?_ ?_ ?_
       rotate_left
       ·intro w'
        go_simp
        with_reducible rfl
       rotate_left
       ·simp only [Act.put, sA, sB, sC, i64_w, i32_w]
        rfl
       refine done_ (done_of HT_.out (by kernel_rfl)) ?_
       try go_wp2
       go_ret
       exact ⟨xR, bH HB.out⟩
      ·rw [if_neg c29] at H; have c29b0 : (t534 == t523 && (t535 == t524 && (t536 == t525 && (t537 == t526 && (t538 == t527 && (t539.toList == t528.toList && (t540.toList == t529.toList && (t541.toList == t530.toList)))))))) = false := by simpa using c29
       (try (have c29b1 : decide (t534 = t523 && (t535 == t524 && (t536 == t525 && (t537 == t526 && (t538 == t527 && (t539.toList == t528.toList && (t540.toList == t529.toList && (t541.toList == t530.toList)))))))) = false := by simpa using c29))
       (try (have c29b2 : (t534 == t523 && (t535 == t524 && (t536 == t525 && (t537 == t526 && (t538 == t527 && (t539.toList == t528.toList && (t540.toList == t529.toList && (t541.toList == t530.toList)))))))) = false := by simpa using c29))
       (try (have c29b3 : ¬ (t534 = t523 && (t535 == t524 && (t536 == t525 && (t537 == t526 && (t538 == t527 && (t539.toList == t528.toList && (t540.toList == t529.toList && (t541.toList == t530.toList)))))))) := by simpa using c29))
       clear c29; exact absurd H (by simp)
     ·rw [if_neg c27] at H; have c27b0 : (t489 == t501) = false := beq_eq_false_iff_ne.mpr c27; have c27b1 : (t489 != t501) = true := bne_iff_ne.mpr c27; exact absurd H (by simp)
    ·replace c26 := Bool.eq_false_iff.mpr c26; subst c26; rw [if_neg (show ¬ (false = true) by decide)] at H; exact absurd H (by simp)

end Go.Proofs.Ytdepkgikdmlgiaa.P
