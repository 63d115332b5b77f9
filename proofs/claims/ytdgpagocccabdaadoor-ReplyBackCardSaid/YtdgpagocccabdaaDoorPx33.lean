/- Lean functions for the Go functions that the laws of this seat use, and the proofs that the Go code computes them; conditions: the readings that each theorem names. Written by a program. -/
import Derived.Test.YtdgpagocccabdaaDoorPx0
import Derived.Test.YtdgpagocccabdaaDoorPx3
import Derived.Test.YtdgpagocccabdaaDoorPx9
import Derived.Test.YtdgpagocccabdaaDoorPx10
import Derived.Test.YtdgpagocccabdaaDoorPx24
import Derived.Test.YtdgpagocccabdaaDoorPx25
import Derived.Test.YtdgpagocccabdaaDoorPx29
import Derived.Test.YtdgpagocccabdaaDoorPx31
import Derived.Test.YtdgpagocccabdaaDoorPx32
import Derived.Test.YtdgpagocccabdaaDoorShort
namespace Go.Proofs.YtdgpagocccabdaaDoor.P
open Go.RowKit Go.Proofs.YtdgpagocccabdaaDoorW.PrintWords Go.Proofs.YtdgpagocccabdaaDoorW.PrintLast Go.Proofs.YtdgpagocccabdaaDoorW.PrintMore
set_option linter.unusedVariables false
set_option linter.unusedSimpArgs false

/-! ### tallboylaw18_ReplyBack: function 5 -/
set_option maxHeartbeats 8000000 in
set_option maxRecDepth 100000 in
theorem tallboylaw18_ReplyBack.calls (k : Nat) (a0 : Int) (a1_0 : Int) (A1_1 : Option Addr) (c1_1 : Nat) (l1_1 : List (S47)) (a1_2 : Int) (a2 : ByteArray) (r : Bool) (w : World) (hr1_1 : Kd.C k47 w A1_1 l1_1.length l1_1) (hc1_1 : l1_1.length ≤ c1_1) (h : tallboylaw18_ReplyBack.f k a0 a1_0 l1_1 a1_2 a2 = some r) (hL : LdU w) :
  Calls Tryd.prog 5 #[.int .i64 a0, .agg #[.int .i64 a1_0, .slice A1_1 l1_1.length c1_1, .int .u64 a1_2], .string a2] w fun e w' => e = .returned (.bool r) ∧ Below w.heap.size w w' := by
 have HL := Aside0.mk hL; clear hL; have hu25 := Tryd.underlying25; have hu30 := Tryd.underlying30; have HR1_1 := Aside0.mk hr1_1; have HC1_1 := Aside0.mk hc1_1; clear hr1_1 hc1_1; have HB := Aside0.mk (Below.refl w.heap.size w); have H : ((tallboylaw18_works.f k).bind fun t281 => (if t281 = true then ((tallboylaw18_Great.f k a1_0 l1_1 a1_2).bind fun t282 => (if t282 = true then (tallboylaw18_ReplyBack.j0 k a0 a2 true a1_0 l1_1 a1_2) else (if (l1_1.length : Int) > 100 then (tallboylaw18_ReplyBack.j0 k a0 a2 true a1_0 l1_1 a1_2) else (if (a2.size : Int) > 1000 then (tallboylaw18_ReplyBack.j0 k a0 a2 true a1_0 l1_1 a1_2) else (if a1_0 < 1 then (tallboylaw18_ReplyBack.j0 k a0 a2 true a1_0 l1_1 a1_2) else (tallboylaw18_ReplyBack.j0 k a0 a2 (decide (a1_0 > 12)) a1_0 l1_1 a1_2)))))) else (none))) = some r := h; clear h; replace H := Option.bind_eq_some_iff.mp H; obtain ⟨t281, A40, H⟩ := H; (try dsimp only at H); have A4 := Aside0.mk A40; clear A40
 by_cases c5 : t281 = true
 ·subst c5; rw [if_pos rfl] at H; have HC6 := Aside0.mk H; clear H; go_enter Tryd.func5, Tryd.ntmps5
  go_upto_region 3 with (first | ((with_reducible refine gate_dst (N := 4) rfl ?_); (try (refine gate_guard (by rfl) ?_; dsimp only)); refine bE 4 #[.int .i64 a1_0, .slice A1_1 l1_1.length c1_1, .int .u64 a1_2] 25 rfl rfl ?_; intro gb280 hg w7 hbox hb; have BK280 := rM hbox; have GW280 := rG HB hg; replace HB := rS HB hb; have GE280 := GW280; clear hb hbox hg) | ((with_reducible refine gate_callee (f := 18) rfl ?_); refine goesL_ (some 13) rfl rfl Tryd.func18 (by kernel_rfl) rfl #[] rfl (by (try simp only [List.map_toArray, List.map_cons, List.map_nil]); first | done | rfl | (simp only [List.length_drop, List.length_take]; rfl)) ?_; (with_reducible refine (tallboylaw18_works.calls k  true _ A4.out (by first | exact HL.out | exact LdU.on HL.out (bH HB.out))).mono ?_); rintro e w8 ⟨rfl, hb⟩; refine ⟨_, rfl, ?_⟩; replace BK280 := rB BK280 hb; replace HB := rS HB hb; (try clear hb); (try clear hk); ))
  (try simp only [Act.put, sA, sB, sC])
  go_cut [37] (fun v37 wc => ∃ (kq : Nat) (x37_5 : Bool), v37 = .bool x37_5 ∧ Aside0 (tallboylaw18_ReplyBack.j0 kq a0 a2 x37_5 a1_0 l1_1 a1_2 = some r) ∧ Aside0 (kq ≤ k) ∧ Aside0 (wc.heap[gb280]? = some (.cells #[.int .i64 a1_0, (.slice A1_1 l1_1.length c1_1), .int .u64 a1_2] 25 (0, 0))) ∧ Aside0 (Below w.heap.size w wc))
  case first =>
   have H := HC6.out; clear HC6; replace H := Option.bind_eq_some_iff.mp H; obtain ⟨t282, A90, H⟩ := H; (try dsimp only at H); have A9 := Aside0.mk A90; clear A90
   by_cases c10 : t282 = true
   ·subst c10; rw [if_pos rfl] at H; have H' := Aside0.mk H; clear H; obtain ⟨hcz11, hfz11⟩ := d3 BK280
    go_wp2_with (first | ((with_reducible refine gate_callee (f := 8) rfl ?_); refine goesL_ (some 16) rfl rfl Tryd.func8 (by kernel_rfl) rfl #[.agg #[.int .i64 a1_0, .slice A1_1 l1_1.length c1_1, .int .u64 a1_2]] rfl (by (try simp only [List.map_toArray, List.map_cons, List.map_nil]); first | done | rfl | (simp only [List.length_drop, List.length_take]; rfl)) ?_; (with_reducible refine (tallboylaw18_Great.calls k a1_0 _ _ l1_1 a1_2 true _ ?side1 ?side2 A9.out).mono ?_); (case side1 => repeat (first | exact (Kd.C_below HR1_1.out HB.out) | (with_reducible refine Kd.C_alloc ?_ _) | (with_reducible refine Kd.C_drewN ?_ _) | (with_reducible refine Kd.C_drew ?_))); (case side2 => exact HC1_1.out); rintro e w12 ⟨rfl, hb⟩; refine ⟨_, rfl, ?_⟩; replace BK280 := rB BK280 hb; replace HB := rS HB hb; (try clear hb); (try clear hk); ))
    go_meet
    case rel => exact ⟨_, (true), (by first | rfl | (simp; done) | (simp [*]; done)), H', ⟨by first | omega | exact Nat.le_refl _⟩, ⟨bK BK280.out⟩, ⟨bH HB.out⟩⟩
   ·replace c10 := Bool.eq_false_iff.mpr c10; subst c10; rw [if_neg (show ¬ (false = true) by decide)] at H
    by_cases c13 : (l1_1.length : Int) > 100
    ·rw [if_pos c13] at H; have c13b0 : decide (100 < (l1_1.length : Int)) = true := decide_eq_true c13; have c13b1 : decide (100 < l1_1.length) = true := decide_eq_true (by omega); clear c13
     (first | rw [c13b0] | (simp only [i64_w, i32_w]; rw [c13b0]) | skip)
     have H' := Aside0.mk H; clear H; obtain ⟨hcz14, hfz14⟩ := d3 BK280
     go_wp2_with (first | ((with_reducible refine gate_callee (f := 8) rfl ?_); refine goesL_ (some 16) rfl rfl Tryd.func8 (by kernel_rfl) rfl #[.agg #[.int .i64 a1_0, .slice A1_1 l1_1.length c1_1, .int .u64 a1_2]] rfl (by (try simp only [List.map_toArray, List.map_cons, List.map_nil]); first | done | rfl | (simp only [List.length_drop, List.length_take]; rfl)) ?_; (with_reducible refine (tallboylaw18_Great.calls k a1_0 _ _ l1_1 a1_2 false _ ?side1 ?side2 A9.out).mono ?_); (case side1 => repeat (first | exact (Kd.C_below HR1_1.out HB.out) | (with_reducible refine Kd.C_alloc ?_ _) | (with_reducible refine Kd.C_drewN ?_ _) | (with_reducible refine Kd.C_drew ?_))); (case side2 => exact HC1_1.out); rintro e w15 ⟨rfl, hb⟩; refine ⟨_, rfl, ?_⟩; replace BK280 := rB BK280 hb; replace HB := rS HB hb; (try clear hb); (try clear hk); obtain ⟨hcz16, hfz16⟩ := d3 BK280))
     go_meet
     case rel => exact ⟨_, (true), (by first | rfl | (simp; done) | (simp [*]; done)), H', ⟨by first | omega | exact Nat.le_refl _⟩, ⟨bK BK280.out⟩, ⟨bH HB.out⟩⟩
    ·rw [if_neg c13] at H; have c13b0 : decide (100 < (l1_1.length : Int)) = false := decide_eq_false c13; have c13b1 : decide (100 < l1_1.length) = false := decide_eq_false (by omega); clear c13
     (first | rw [c13b0] | (simp only [i64_w, i32_w]; rw [c13b0]) | skip)
     by_cases c17 : (a2.size : Int) > 1000
     ·rw [if_pos c17] at H; have c17b0 : decide (1000 < (a2.size : Int)) = true := decide_eq_true c17; have c17b1 : decide (1000 < a2.size) = true := decide_eq_true (by omega); clear c17; have H' := Aside0.mk H; clear H; obtain ⟨hcz18, hfz18⟩ := d3 BK280
      go_wp2_with (first | ((with_reducible refine gate_callee (f := 8) rfl ?_); refine goesL_ (some 16) rfl rfl Tryd.func8 (by kernel_rfl) rfl #[.agg #[.int .i64 a1_0, .slice A1_1 l1_1.length c1_1, .int .u64 a1_2]] rfl (by (try simp only [List.map_toArray, List.map_cons, List.map_nil]); first | done | rfl | (simp only [List.length_drop, List.length_take]; rfl)) ?_; (with_reducible refine (tallboylaw18_Great.calls k a1_0 _ _ l1_1 a1_2 false _ ?side1 ?side2 A9.out).mono ?_); (case side1 => repeat (first | exact (Kd.C_below HR1_1.out HB.out) | (with_reducible refine Kd.C_alloc ?_ _) | (with_reducible refine Kd.C_drewN ?_ _) | (with_reducible refine Kd.C_drew ?_))); (case side2 => exact HC1_1.out); rintro e w19 ⟨rfl, hb⟩; refine ⟨_, rfl, ?_⟩; replace BK280 := rB BK280 hb; replace HB := rS HB hb; (try clear hb); (try clear hk); obtain ⟨hcz20, hfz20⟩ := d3 BK280))
      go_meet
      case rel => exact ⟨_, (true), (by first | rfl | (simp; done) | (simp [*]; done)), H', ⟨by first | omega | exact Nat.le_refl _⟩, ⟨bK BK280.out⟩, ⟨bH HB.out⟩⟩
     ·rw [if_neg c17] at H; have c17b0 : decide (1000 < (a2.size : Int)) = false := decide_eq_false c17; have c17b1 : decide (1000 < a2.size) = false := decide_eq_false (by omega); clear c17
      by_cases c21 : a1_0 < 1
      ·rw [if_pos c21] at H; have c21b0 : decide (a1_0 < 1) = true := decide_eq_true c21; clear c21; have H' := Aside0.mk H; clear H; obtain ⟨hcz22, hfz22⟩ := d3 BK280
       go_wp2_with (first | ((with_reducible refine gate_callee (f := 8) rfl ?_); refine goesL_ (some 16) rfl rfl Tryd.func8 (by kernel_rfl) rfl #[.agg #[.int .i64 a1_0, .slice A1_1 l1_1.length c1_1, .int .u64 a1_2]] rfl (by (try simp only [List.map_toArray, List.map_cons, List.map_nil]); first | done | rfl | (simp only [List.length_drop, List.length_take]; rfl)) ?_; (with_reducible refine (tallboylaw18_Great.calls k a1_0 _ _ l1_1 a1_2 false _ ?side1 ?side2 A9.out).mono ?_); (case side1 => repeat (first | exact (Kd.C_below HR1_1.out HB.out) | (with_reducible refine Kd.C_alloc ?_ _) | (with_reducible refine Kd.C_drewN ?_ _) | (with_reducible refine Kd.C_drew ?_))); (case side2 => exact HC1_1.out); rintro e w23 ⟨rfl, hb⟩; refine ⟨_, rfl, ?_⟩; replace BK280 := rB BK280 hb; replace HB := rS HB hb; (try clear hb); (try clear hk); obtain ⟨hcz24, hfz24⟩ := d3 BK280))
       go_meet
       case rel => exact ⟨_, (true), (by first | rfl | (simp; done) | (simp [*]; done)), H', ⟨by first | omega | exact Nat.le_refl _⟩, ⟨bK BK280.out⟩, ⟨bH HB.out⟩⟩
      ·rw [if_neg c21] at H; have c21b0 : decide (a1_0 < 1) = false := decide_eq_false c21; clear c21; have H' := Aside0.mk H; clear H; obtain ⟨hcz25, hfz25⟩ := d3 BK280
       go_wp2_with (first | ((with_reducible refine gate_callee (f := 8) rfl ?_); refine goesL_ (some 16) rfl rfl Tryd.func8 (by kernel_rfl) rfl #[.agg #[.int .i64 a1_0, .slice A1_1 l1_1.length c1_1, .int .u64 a1_2]] rfl (by (try simp only [List.map_toArray, List.map_cons, List.map_nil]); first | done | rfl | (simp only [List.length_drop, List.length_take]; rfl)) ?_; (with_reducible refine (tallboylaw18_Great.calls k a1_0 _ _ l1_1 a1_2 false _ ?side1 ?side2 A9.out).mono ?_); (case side1 => repeat (first | exact (Kd.C_below HR1_1.out HB.out) | (with_reducible refine Kd.C_alloc ?_ _) | (with_reducible refine Kd.C_drewN ?_ _) | (with_reducible refine Kd.C_drew ?_))); (case side2 => exact HC1_1.out); rintro e w26 ⟨rfl, hb⟩; refine ⟨_, rfl, ?_⟩; replace BK280 := rB BK280 hb; replace HB := rS HB hb; (try clear hb); (try clear hk); obtain ⟨hcz27, hfz27⟩ := d3 BK280))
       go_meet
       case rel => exact ⟨_, (decide (a1_0 > 12)), (by first | rfl | (simp; done) | (simp [*]; done)), H', ⟨by first | omega | exact Nat.le_refl _⟩, ⟨bK BK280.out⟩, ⟨bH HB.out⟩⟩
  case rest =>
   clear HC6; (try clear c5); (try clear c10); (try clear c13b0); (try clear c13b1); (try clear c17b0); (try clear c17b1); (try clear c21b0); (try clear hcz11); (try clear hcz14); (try clear hcz16); (try clear hcz18); (try clear hcz20); (try clear hcz22); (try clear hcz24); (try clear hcz25); (try clear hcz27); (try clear hfz11); (try clear hfz14); (try clear hfz16); (try clear hfz18); (try clear hfz20); (try clear hfz22); (try clear hfz24); (try clear hfz25); (try clear hfz27); obtain ⟨kq, x37_5, rfl, HA, HJ5, BK280, HB⟩ := hcut; cases kq with
   | zero => exact absurd HA.out (by simp [tallboylaw18_ReplyBack.j0])
   | succ kj5 =>
    have H := HA.out; clear HA; simp only [tallboylaw18_ReplyBack.j0] at H
    by_cases c28 : x37_5 = true
    ·subst c28; rw [if_pos rfl] at H; obtain rfl := Option.some.inj H; go_wp2; go_ret
     exact ⟨xR, bH HB.out⟩
    ·replace c28 := Bool.eq_false_iff.mpr c28; subst c28; rw [if_neg (show ¬ (false = true) by decide)] at H; have HC29 := Aside0.mk H; clear H; obtain ⟨hcz30, hfz30⟩ := d3 BK280
     go_upto_if 40 with (fail)
     go_cut [] (fun wc => ∃ (kq : Nat) (z0 : Int), Aside0 (tallboylaw18_ReplyBack.j1 kq a0 a2 a1_0 l1_1 z0 = some r) ∧ Aside0 (kq ≤ kj5) ∧ Aside0 (wc.heap[gb280]? = some (.cells #[.int .i64 a1_0, (.slice A1_1 l1_1.length c1_1), .int .u64 z0] 25 (0, 0))) ∧ Aside0 (Below w.heap.size w wc))
     case first =>
      have H := HC29.out; clear HC29
      by_cases c31 : a1_0 = 7
      ·rw [if_pos c31] at H; have c31b0 : (a1_0 == 7) = true := beq_iff_eq.mpr c31; have c31b1 : (a1_0 != 7) = false := bne_eq_false_iff_eq.mpr c31; clear c31
       (first | rw [c31b0] | (simp only [i64_w, i32_w]; rw [c31b0]) | skip)
       have H' := Aside0.mk H; clear H; go_wp2
       go_meet
       case rel => exact ⟨_, (a1_2), H', ⟨by have := HJ5.out; first | omega | exact Nat.le_refl _⟩, ⟨bK BK280.out⟩, ⟨bH HB.out⟩⟩
      ·rw [if_neg c31] at H; have c31b0 : (a1_0 == 7) = false := beq_eq_false_iff_ne.mpr c31; have c31b1 : (a1_0 != 7) = true := bne_iff_ne.mpr c31
       (first | rw [c31b0] | (simp only [i64_w, i32_w]; rw [c31b0]) | skip)
       have H' := Aside0.mk H; clear H; obtain ⟨hcz32, hfz32⟩ := d3 BK280; go_wp2
       go_meet
       case rel => exact ⟨_, (0), H', ⟨by have := HJ5.out; first | omega | exact Nat.le_refl _⟩, ⟨bV BK280.out⟩, ⟨bH HB.out⟩⟩
     case rest =>
      clear HC29; (try clear c5); (try clear c10); (try clear c13b0); (try clear c13b1); (try clear c17b0); (try clear c17b1); (try clear c21b0); (try clear c28); (try clear c31); (try clear c31b0); (try clear c31b1); (try clear hcz11); (try clear hcz14); (try clear hcz16); (try clear hcz18); (try clear hcz20); (try clear hcz22); (try clear hcz24); (try clear hcz25); (try clear hcz27); (try clear hcz30); (try clear hcz32); (try clear hfz11); (try clear hfz14); (try clear hfz16); (try clear hfz18); (try clear hfz20); (try clear hfz22); (try clear hfz24); (try clear hfz25); (try clear hfz27); (try clear hfz30); (try clear hfz32); obtain ⟨kq, z0, HA, HJ28, BK280, HB⟩ := hcut; cases kq with
      | zero => exact absurd HA.out (by simp [tallboylaw18_ReplyBack.j1])
      | succ kj28 =>
       have H := HA.out; clear HA; simp only [tallboylaw18_ReplyBack.j1] at H
       by_cases c33 : a1_0 = 1
       ·rw [if_pos c33] at H; have c33b0 : (a1_0 == 1) = true := beq_iff_eq.mpr c33; have c33b1 : (a1_0 != 1) = false := bne_eq_false_iff_eq.mpr c33; clear c33; obtain ⟨y283, hy283⟩ : ∃ y_ : List (S47), y_ = (([] : List (S47))) := ⟨_, rfl⟩; replace H : (if y283.length + l1_1.length < 2932031007402 then (tallboylaw18_ReplyBack.l0 kj28 a0 a2 (y283 ++ l1_1) 0 a1_0 l1_1 z0) else (none)) = some r := by first | (rw [hy283]; with_reducible exact H) | (have H2_ := (Option.bind_some _ _).symm.trans H; rw [hy283]; with_reducible exact H2_) | (have H2_ := (Option.bind_some _ _).symm.trans H; with_reducible exact H2_) | with_reducible exact H | (rw [hy283]; exact H) | exact H
        have Ny283 := Aside0.mk hy283; clear hy283
        by_cases c34 : y283.length + l1_1.length < 2932031007402
        ·rw [if_pos c34] at H; have LMc34 := Aside0.mk c34; clear c34; obtain ⟨y286, hy286⟩ : ∃ y_ : List (S47), y_ = (y283 ++ l1_1) := ⟨_, rfl⟩; replace H : (tallboylaw18_ReplyBack.l0 kj28 a0 a2 y286 0 a1_0 l1_1 z0) = some r := by first | (rw [hy286]; with_reducible exact H) | (have H2_ := (Option.bind_some _ _).symm.trans H; rw [hy286]; with_reducible exact H2_) | (have H2_ := (Option.bind_some _ _).symm.trans H; with_reducible exact H2_) | with_reducible exact H | (rw [hy286]; exact H) | exact H
         have Ny286 := Aside0.mk hy286; clear hy286; have H' := Aside0.mk H; clear H; obtain ⟨hcz35, hfz35⟩ := d3 BK280
         go_wp2_with (first | ((with_reducible refine gate_dst (N := 46) rfl ?_); (try (refine gate_guard (by rfl) ?_; dsimp only)); refine Kd.R_lit k47 _ 47 ?hg (N := 46) ?hd (xs := ([] : List (S47))) (inner := []) (ok := fun _ => True) (okp := fun _ => True) ?hr ?hp (fun _ hk => hk) trivial (Below.refl _ _) (Nat.le_refl _) (by simp) ?_; (case hd => rfl); (case hg => rfl); (case hr => first | (go_simp; done) | (go_simp; rfl)); (case hp => exact (Reps.none _ _)); intro v284 w36 ho37 hb hg_ hnew_; clear hg_ hnew_; (first | rw [← Ny283.out] at ho37 | (simp only [Int.reduceToNat] at ho37; rw [← Ny283.out] at ho37)); have HO285 := Aside0.mk (Kd.R_lower ho37 (below_size (bH HB.out))); replace BK280 := rB BK280 hb; replace HB := rS HB hb; clear hb ho37; obtain ⟨hcz38, hfz38⟩ := d3 BK280) | ((with_reducible refine gate_builtin (b := .append) (xs := #[.tmp 46, .tmp 48]) rfl ?_); (try (refine gate_guard (by rfl) ?_; dsimp only)); at_builtin; refine Kd.R_append_rows k47 (w0 := w) w.heap.size rfl (.tmp 46) (.tmp 48) 22 47 (.agg #[(.string ⟨#[]⟩), (.int .u32 0), (.string ⟨#[]⟩), (.int .u64 0)]) 48 rfl Tryd.underlying22 info47 rfl (by decide) (by omega) v284 y283 l1_1 _ _ _ (fun _ => True) (fun _ => False) rfl rfl ?aO ?aR (fun _ _ h => h) (fun _ h => h.elim) ?aF ?aB ?aS ?aL ?_; (case aR => repeat (first | exact (Kd.C_below HR1_1.out HB.out) | (with_reducible refine Kd.C_alloc ?_ _) | (with_reducible refine Kd.C_drewN ?_ _) | (with_reducible refine Kd.C_drew ?_))); (case aB => exact (bH HB.out)); (case aF => exact (fun _ _ => trivial)); (case aO => exact (by (with_reducible repeat (first | apply Kd.R_alloc | apply Kd.R_drewN | apply Kd.R_drew)); exact HO285.out)); (case aS => exact (below_size (bH HB.out))); (case aL => have := LMc34.out; omega); intro v287 w39 ho hb hg hat; rw [← Ny286.out] at ho; replace BK280 := Aside0.mk (blk_grown (g := gb280) (o := .cells #[.int .i64 a1_0, .slice A1_1 l1_1.length c1_1, .int .u64 z0] 25 (0, 0)) (bK BK280.out) hg (Kd.R_ne HO285.out BK280.out (by decide))); replace HB := Aside0.mk (hb); have HO288 := Aside0.mk (ho); clear HO285; clear ho hb hg hat))
         go_loopg [8] kj28 (fun kq v8 w' => ∃ (x7_3 : List (S47)) (x8_3 : Int), v8 = .int .i64 x8_3 ∧ Aside0 (tallboylaw18_ReplyBack.l0 kq a0 a2 x7_3 x8_3 a1_0 l1_1 z0 = some r) ∧ Aside0 (kq ≤ kj28) ∧ Aside0 (Kd.R k47 47 w' w.heap.size (fun _ => True) v287 x7_3) ∧ Aside0 (w'.heap[gb280]? = some (.cells #[.int .i64 a1_0, (.slice A1_1 l1_1.length c1_1), .int .u64 z0] 25 (0, 0))) ∧ Aside0 (Below w.heap.size w w'))
         case atStart => exact ⟨(y286), (0), (by first | rfl | (simp; done) | (simp [*]; done)), H', ⟨Nat.le_refl _⟩, ⟨by (with_reducible repeat (first | apply Kd.R_alloc | apply Kd.R_drewN | apply Kd.R_drew)); exact HO288.out⟩, ⟨bK BK280.out⟩, ⟨bH HB.out⟩⟩
         case round =>
          clear H'; (try clear c5); (try clear c10); (try clear c13b0); (try clear c13b1); (try clear c17b0); (try clear c17b1); (try clear c21b0); (try clear c28); (try clear c31); (try clear c31b0); (try clear c31b1); (try clear c33); (try clear c33b0); (try clear c33b1); (try clear c34); (try clear hcz11); (try clear hcz14); (try clear hcz16); (try clear hcz18); (try clear hcz20); (try clear hcz22); (try clear hcz24); (try clear hcz25); (try clear hcz27); (try clear hcz30); (try clear hcz32); (try clear hcz35); (try clear hcz38); (try clear hfz11); (try clear hfz14); (try clear hfz16); (try clear hfz18); (try clear hfz20); (try clear hfz22); (try clear hfz24); (try clear hfz25); (try clear hfz27); (try clear hfz30); (try clear hfz32); (try clear hfz35); (try clear hfz38); obtain ⟨x7_3, x8_3, rfl, HA, HK3, HO_7, BK280, HB⟩ := hrel; cases gk with
          | zero => exact absurd HA.out (by simp [tallboylaw18_ReplyBack.l0])
          | succ k3 =>
           have H := HA.out; clear HA; simp only [tallboylaw18_ReplyBack.l0] at H
           by_cases c40 : x8_3 < (x7_3.length : Int)
           ·rw [if_pos c40] at H; have c40b0 : decide (x8_3 < (x7_3.length : Int)) = true := decide_eq_true c40; clear c40; have HC41 := Aside0.mk H; clear H; obtain ⟨Ao42, co42, eo42⟩ := Kd.R_slice HO_7.out; subst eo42
            go_upto_region 13 with (fail)
            go_cut [71] (fun v71 wc => ∃ (kq : Nat) (x71_40 : Bool), v71 = .bool x71_40 ∧ Aside0 (tallboylaw18_ReplyBack.j3 kq a0 a2 x7_3 x8_3 x71_40 a1_0 l1_1 z0 = some r) ∧ Aside0 (kq ≤ k3) ∧ Aside0 (Kd.R k47 47 wc w.heap.size (fun _ => True) (.slice Ao42 x7_3.length co42) x7_3) ∧ Aside0 (wc.heap[gb280]? = some (.cells #[.int .i64 a1_0, (.slice A1_1 l1_1.length c1_1), .int .u64 z0] 25 (0, 0))) ∧ Aside0 (Below w.heap.size w wc))
            case first =>
             have H := HC41.out; clear HC41
             by_cases c43 : 0 ≤ x8_3
             ·rw [if_pos c43] at H; have c43b0 : decide (0 ≤ x8_3) = true := decide_eq_true c43; clear c43
              (first | rw [c43b0] | (simp only [i64_w, i32_w]; rw [c43b0]) | skip)
              replace H := Option.bind_eq_some_iff.mp H; obtain ⟨t290, A440, H⟩ := H; (try dsimp only at H); have A44 := Aside0.mk A440; clear A440
              by_cases c45 : t290 = true
              ·subst c45; rw [if_pos rfl] at H; have H' := Aside0.mk H; clear H; have p289 : 0 ≤ (x8_3 : Int) := of_decide_eq_true (by first | (with_reducible assumption) | assumption); have q289 : x8_3 < (x7_3.length : Int) := of_decide_eq_true (by first | (with_reducible assumption) | assumption)
               obtain ⟨ad289, e289, hx289_0, hx289_1, hx289_2, hx289_3⟩ := at_T47 (Kd.R_reads' HO_7.out).2.2 x8_3 p289 q289; cases e289; replace p289 := eq_true p289; replace q289 := eq_true q289
               go_wp2_with (first | ((with_reducible refine gate_callee (f := 19) rfl ?_); refine goesL_ (some 61) rfl rfl Tryd.func19 (by kernel_rfl) rfl #[.string ((rd_T47 x7_3 x8_3).f0)] rfl (by (try simp only [List.map_toArray, List.map_cons, List.map_nil]); first | done | rfl | (simp only [List.length_drop, List.length_take]; rfl)) ?_; (with_reducible refine (tallboyref04_Key.calls k3 ((rd_T47 x7_3 x8_3).f0) true _ A44.out).mono ?_); rintro e w' ⟨rfl, ⟨nd, rfl⟩⟩; refine ⟨_, rfl, ?_⟩; have p291 : 0 ≤ (x8_3 : Int) := of_decide_eq_true (by first | (with_reducible assumption) | assumption); have q291 : x8_3 < (x7_3.length : Int) := of_decide_eq_true (by first | (with_reducible assumption) | assumption); obtain ⟨ad291, e291, hx291_0, hx291_1, hx291_2, hx291_3⟩ := at_T47 (Kd.R_reads' HO_7.out).2.2 x8_3 p291 q291; obtain rfl : ad289 = ad291 := (by injection e291); replace p291 := eq_true p291; replace q291 := eq_true q291))
               go_meet
               case rel => exact ⟨_, (decide ((((rd_T47 x7_3 x8_3).f2).size : Int) > 2000)), (by first | rfl | (simp; done) | (simp [*]; done)), H', ⟨by have := HJ5.out; have := HJ28.out; have := HK3.out; first | omega | exact Nat.le_refl _⟩, ⟨by (with_reducible repeat (first | apply Kd.R_alloc | apply Kd.R_drewN | apply Kd.R_drew)); exact HO_7.out⟩, ⟨bK BK280.out⟩, ⟨bH HB.out⟩⟩
              ·replace c45 := Bool.eq_false_iff.mpr c45; subst c45; rw [if_neg (show ¬ (false = true) by decide)] at H; have H' := Aside0.mk H; clear H; have p289 : 0 ≤ (x8_3 : Int) := of_decide_eq_true (by first | (with_reducible assumption) | assumption); have q289 : x8_3 < (x7_3.length : Int) := of_decide_eq_true (by first | (with_reducible assumption) | assumption)
               obtain ⟨ad289, e289, hx289_0, hx289_1, hx289_2, hx289_3⟩ := at_T47 (Kd.R_reads' HO_7.out).2.2 x8_3 p289 q289; cases e289; replace p289 := eq_true p289; replace q289 := eq_true q289
               go_wp2_with (first | ((with_reducible refine gate_callee (f := 19) rfl ?_); refine goesL_ (some 61) rfl rfl Tryd.func19 (by kernel_rfl) rfl #[.string ((rd_T47 x7_3 x8_3).f0)] rfl (by (try simp only [List.map_toArray, List.map_cons, List.map_nil]); first | done | rfl | (simp only [List.length_drop, List.length_take]; rfl)) ?_; (with_reducible refine (tallboyref04_Key.calls k3 ((rd_T47 x7_3 x8_3).f0) false _ A44.out).mono ?_); rintro e w' ⟨rfl, ⟨nd, rfl⟩⟩; refine ⟨_, rfl, ?_⟩))
               go_meet
               case rel => exact ⟨_, (true), (by first | rfl | (simp; done) | (simp [*]; done)), H', ⟨by have := HJ5.out; have := HJ28.out; have := HK3.out; first | omega | exact Nat.le_refl _⟩, ⟨by (with_reducible repeat (first | apply Kd.R_alloc | apply Kd.R_drewN | apply Kd.R_drew)); exact HO_7.out⟩, ⟨bK BK280.out⟩, ⟨bH HB.out⟩⟩
             ·rw [if_neg c43] at H; exact absurd H (by simp)
            case rest =>
             clear HC41; (try clear c5); (try clear c10); (try clear c13b0); (try clear c13b1); (try clear c17b0); (try clear c17b1); (try clear c21b0); (try clear c28); (try clear c31); (try clear c31b0); (try clear c31b1); (try clear c33); (try clear c33b0); (try clear c33b1); (try clear c34); (try clear c40b0); (try clear c43); (try clear c43b0); (try clear c45); (try clear hcz11); (try clear hcz14); (try clear hcz16); (try clear hcz18); (try clear hcz20); (try clear hcz22); (try clear hcz24); (try clear hcz25); (try clear hcz27); (try clear hcz30); (try clear hcz32); (try clear hcz35); (try clear hcz38); (try clear hfz11); (try clear hfz14); (try clear hfz16); (try clear hfz18); (try clear hfz20); (try clear hfz22); (try clear hfz24); (try clear hfz25); (try clear hfz27); (try clear hfz30); (try clear hfz32); (try clear hfz35); (try clear hfz38); (try clear hx289_0); (try clear hx289_1); (try clear hx289_2); (try clear hx289_3); (try clear hx291_0); (try clear hx291_1); (try clear hx291_2); (try clear hx291_3); (try clear p289); (try clear p291); (try clear q289); (try clear q291); obtain ⟨kq, x71_40, rfl, HA, HJ40, HO_7, BK280, HB⟩ := hcut; cases kq with
             | zero => exact absurd HA.out (by simp [tallboylaw18_ReplyBack.j3])
             | succ kj40 =>
              have H := HA.out; clear HA; simp only [tallboylaw18_ReplyBack.j3] at H
              by_cases c46 : x71_40 = true
              ·subst c46; rw [if_pos rfl] at H; obtain rfl := Option.some.inj H; go_wp2; go_ret
               exact ⟨xR, bH HB.out⟩
              ·replace c46 := Bool.eq_false_iff.mpr c46; subst c46; rw [if_neg (show ¬ (false = true) by decide)] at H; replace H := Option.bind_eq_some_iff.mp H; obtain ⟨t292, A470, H⟩ := H; (try dsimp only at H); have A47 := Aside0.mk A470; clear A470
               by_cases c48 : t292 = true
               ·subst c48; rw [if_pos rfl] at H; have H' := Aside0.mk H; clear H
                go_wp2_with (first | ((with_reducible refine gate_callee (f := 20) rfl ?_); refine goesL_ (some 73) rfl rfl Tryd.func20 (by kernel_rfl) rfl #[.int .i64 a0] rfl (by (try simp only [List.map_toArray, List.map_cons, List.map_nil]); first | done | rfl | (simp only [List.length_drop, List.length_take]; rfl)) ?_; (with_reducible refine (verb_Shows.calls a0 true _ A47.out).mono ?_); rintro e w' ⟨rfl, ⟨nd, rfl⟩⟩; refine ⟨_, rfl, ?_⟩))
                go_roundg kj40
                case measure => have := HJ5.out; have := HJ28.out; have := HK3.out; have := HJ40.out; omega
                case rel => exact ⟨(x7_3), (wrap64 (x8_3 + 1)), (by first | rfl | (simp; done) | (simp [*]; done)), H', ⟨by have := HJ5.out; have := HJ28.out; have := HK3.out; have := HJ40.out; omega⟩, ⟨by (with_reducible repeat (first | apply Kd.R_alloc | apply Kd.R_drewN | apply Kd.R_drew)); exact HO_7.out⟩, ⟨bK BK280.out⟩, ⟨bH HB.out⟩⟩
               ·replace c48 := Bool.eq_false_iff.mpr c48; subst c48; rw [if_neg (show ¬ (false = true) by decide)] at H
                by_cases c49 : 0 ≤ x8_3
                ·rw [if_pos c49] at H; have c49b0 : decide (0 ≤ x8_3) = true := decide_eq_true c49; clear c49
                 by_cases c50 : x8_3 < (x7_3.length : Int)
                 ·rw [if_pos c50] at H; have c50b0 : decide (x8_3 < (x7_3.length : Int)) = true := decide_eq_true c50; clear c50; obtain ⟨y293, hy293⟩ : ∃ y_ : List (S47), y_ = (x7_3.set (x8_3 : Int).toNat (⟨(rd_T47 x7_3 x8_3).f0, (rd_T47 x7_3 x8_3).f1, (rd_T47 x7_3 x8_3).f2, 0⟩ : S47)) := ⟨_, rfl⟩; replace H : (tallboylaw18_ReplyBack.l0 kj40 a0 a2 y293 (wrap64 (x8_3 + 1)) a1_0 l1_1 z0) = some r := by first | (rw [hy293]; with_reducible exact H) | (have H2_ := (Option.bind_some _ _).symm.trans H; rw [hy293]; with_reducible exact H2_) | (have H2_ := (Option.bind_some _ _).symm.trans H; with_reducible exact H2_) | with_reducible exact H | (rw [hy293]; exact H) | exact H
                  have Ny293 := Aside0.mk hy293; clear hy293; have H' := Aside0.mk H; clear H
                  go_wp2_with (first | ((with_reducible refine gate_callee (f := 20) rfl ?_); refine goesL_ (some 73) rfl rfl Tryd.func20 (by kernel_rfl) rfl #[.int .i64 a0] rfl (by (try simp only [List.map_toArray, List.map_cons, List.map_nil]); first | done | rfl | (simp only [List.length_drop, List.length_take]; rfl)) ?_; (with_reducible refine (verb_Shows.calls a0 false _ A47.out).mono ?_); rintro e w' ⟨rfl, ⟨nd, rfl⟩⟩; refine ⟨_, rfl, ?_⟩; (try simp only [World.drewN_drewN]); (try (rw [drewN_self wc]; generalize hq_ : World.drewN wc _ = wc; have n0_ : Aside0 (Kd.R k47 47 wc w.heap.size (fun _ => True) (.slice Ao42 x7_3.length co42) x7_3) := ⟨by rw [← hq_]; exact (by (with_reducible repeat (first | apply Kd.R_alloc | apply Kd.R_drewN | apply Kd.R_drew)); exact HO_7.out)⟩; have n1_ := Aside0.mk (bQ BK280.out hq_); have n2_ := Aside0.mk (bF HB.out hq_); clear HO_7 BK280 HB hq_; have HO_7 := n0_; have BK280 := n1_; have HB := n2_; clear n0_ n1_ n2_)); have p51 : 0 ≤ (x8_3 : Int) := of_decide_eq_true (by first | (with_reducible assumption) | assumption); have q51 : (x8_3 : Int) < ((x7_3.length : Int) : Int) := of_decide_eq_true (by first | (with_reducible assumption) | assumption); obtain ⟨go51, co51, eo51, gb51, gl51, cl51, HG51⟩ := Kd.R_form HO_7.out (by omega); (first | cases eo51 | (injection eo51 with ea_ en_ ec_; (first | subst ea_ | (injection ea_ with ea_; subst ea_)); subst ec_; clear en_)); have GB51 := Aside0.mk gb51; have GG51 := Aside0.mk HG51; clear gb51 gl51 HG51; obtain ⟨ce51, hcl51, hM51, hcc51, hfr51⟩ := Kd.R_elem HO_7.out z47 (x8_3 : Int) p51 q51; obtain rfl := k47_openM hM51; have hx51_0 : wc.cell? ⟨go51, (x8_3 : Int).toNat * 4, none⟩ = some (.string ((rd_T47 x7_3 x8_3).f0)) := hcc51 0 _ rfl; have hx51_1 : wc.cell? ⟨go51, (x8_3 : Int).toNat * 4 + 1, none⟩ = some (.int .u32 ((rd_T47 x7_3 x8_3).f1)) := hcc51 1 _ rfl; have hx51_2 : wc.cell? ⟨go51, (x8_3 : Int).toNat * 4 + 2, none⟩ = some (.string ((rd_T47 x7_3 x8_3).f2)) := hcc51 2 _ rfl; have hx51_3 : wc.cell? ⟨go51, (x8_3 : Int).toNat * 4 + 3, none⟩ = some (.int .u64 ((rd_T47 x7_3 x8_3).f3)) := hcc51 3 _ rfl; have hf51_0 : wc.frozen? ⟨go51, (x8_3 : Int).toNat * 4, none⟩ = false := hfr51 0; have hf51_1 : wc.frozen? ⟨go51, (x8_3 : Int).toNat * 4 + 1, none⟩ = false := hfr51 1; have hf51_2 : wc.frozen? ⟨go51, (x8_3 : Int).toNat * 4 + 2, none⟩ = false := hfr51 2; have hf51_3 : wc.frozen? ⟨go51, (x8_3 : Int).toNat * 4 + 3, none⟩ = false := hfr51 3; clear hcl51 hcc51 hfr51 hM51; replace p51 := eq_true p51; replace q51 := eq_true q51; have HX52 := Aside0.mk (show Kd.R k47 47 wc w.heap.size (fun _ => True) (.slice (some ⟨go51, 0, none⟩) x7_3.length co42) x7_3 from (by (with_reducible repeat (first | apply Kd.R_alloc | apply Kd.R_drewN | apply Kd.R_drew)); exact HO_7.out)); obtain ⟨ce52, hcl52, hM52, hcc52, hfr52⟩ := Kd.R_elem HX52.out z47 (x8_3 : Int) (of_decide_eq_true (by first | (with_reducible assumption) | assumption)) (by have h_ : (x8_3 : Int) < ((x7_3.length : Int) : Int) := of_decide_eq_true (by first | (with_reducible assumption) | assumption); first | exact h_ | (have e_ := (Kd.R_reads' HO_7.out).1; omega) | simpa using h_); obtain rfl := k47_openM hM52; have HP52 := Kd.R_seg HX52.out (x8_3 : Int) (of_decide_eq_true (by first | (with_reducible assumption) | assumption)) (by have h_ : (x8_3 : Int) < ((x7_3.length : Int) : Int) := of_decide_eq_true (by first | (with_reducible assumption) | assumption); first | exact h_ | (have e_ := (Kd.R_reads' HO_7.out).1; omega) | simpa using h_) (seg := [.int .u64 0]) (j := 3) hcl52 hcc52 (show 4 ≤ 4 from by decide) (x' := (⟨(rd_T47 x7_3 x8_3).f0, (rd_T47 x7_3 x8_3).f1, (rd_T47 x7_3 x8_3).f2, 0⟩ : S47)) (k47_mkM _ _ _ (⟨(rd_T47 x7_3 x8_3).f0, (rd_T47 x7_3 x8_3).f1, (rd_T47 x7_3 x8_3).f2, 0⟩ : S47) ) (fun _ hk => hk); have hx52_3 := hcc52 3 _ rfl; (try simp only [show (k47).sz = 4 from rfl, Nat.mul_one, Nat.add_zero] at hx52_3); have hf52_3 := hfr52 3; (try simp only [show (k47).sz = 4 from rfl, Nat.mul_one, Nat.add_zero] at hf52_3); clear hcl52 hcc52 hfr52 hM52) | ((with_reducible refine gate_store (t := 23) (p := 78) rfl ?_); refine store_event (t := 23) (p := 78) (v := ?vo_w53) (w1 := (wc.setCell ⟨go51, (x8_3 : Int).toNat * 4 + 3, none⟩ (.int .u64 0))) ?hg ?ho ?hn ?hr ?_; (case ho => rfl); (case hg => rfl); (case hn => rfl); (case hr => first | (go_simp; done) | (go_simp; rfl)); intro w53 hw; have hg : wc.grownBy w53 (some go51) := (by rw [hw]; exact HP52.2); have hp_ : Kd.R k47 47 w53 w.heap.size (fun _ => True) (.slice (some ⟨go51, 0, none⟩) x7_3.length co42) y293 := (by rw [hw, Ny293.out]; exact HP52.1); clear HP52; replace BK280 := Aside0.mk (blk_grown (g := gb280) (o := .cells #[.int .i64 a1_0, .slice A1_1 l1_1.length c1_1, .int .u64 z0] 25 (0, 0)) (bK BK280.out) hg (Kd.R_ne HO_7.out BK280.out (by decide))); replace HO_7 := Aside0.mk (hp_); replace HB := Aside0.mk ((by rw [hw]; exact eS (HB.out) GB51.out : Below w.heap.size w w53)); clear hg hw hp_))
                  go_roundg kj40
                  case measure => have := HJ5.out; have := HJ28.out; have := HK3.out; have := HJ40.out; omega
                  case rel => exact ⟨(y293), (wrap64 (x8_3 + 1)), (by first | rfl | (simp; done) | (simp [*]; done)), H', ⟨by have := HJ5.out; have := HJ28.out; have := HK3.out; have := HJ40.out; omega⟩, ⟨by (with_reducible repeat (first | apply Kd.R_alloc | apply Kd.R_drewN | apply Kd.R_drew)); exact HO_7.out⟩, ⟨bK BK280.out⟩, ⟨bH HB.out⟩⟩
                 ·rw [if_neg c50] at H; exact absurd H (by simp)
                ·rw [if_neg c49] at H; exact absurd H (by simp)
           ·rw [if_neg c40] at H; have c40b0 : decide (x8_3 < (x7_3.length : Int)) = false := decide_eq_false c40; clear c40; replace H := Option.bind_eq_some_iff.mp H; obtain ⟨⟨t294, t295, t298⟩, A540, H⟩ := H; (try dsimp only at H); have A54 := Aside0.mk A540; clear A540; replace H := Option.bind_eq_some_iff.mp H; obtain ⟨t299, A550, H⟩ := H; (try dsimp only at H); have A55 := Aside0.mk A550; clear A550; have HC56 := Aside0.mk H; clear H; obtain ⟨Ao57, co57, eo57⟩ := Kd.R_slice HO_7.out; subst eo57; obtain ⟨hcz58, hfz58⟩ := d3 BK280
            go_upto_region 19 with (first | ((with_reducible refine gate_callee (f := 10) rfl ?_); refine goesL_ (some 83) rfl rfl Tryd.func10 (by kernel_rfl) rfl #[.agg #[.int .i64 a1_0, .slice Ao57 x7_3.length co57, .int .u64 z0]] rfl (by (try simp only [List.map_toArray, List.map_cons, List.map_nil]); first | done | rfl | (simp only [List.length_drop, List.length_take]; rfl)) ?_; (with_reducible refine (tallboylaw18_To.calls k3 a1_0 _ _ x7_3 z0 t294 t295 t298 _ ?side1 ?side2 A54.out).mono ?_); (case side1 => refine (Kd.R_reads' (e := 47) (base := w.heap.size) (ok := fun k_ => True) (n := x7_3.length) (c := co57) ?_).2.2; exact (by (with_reducible repeat (first | apply Kd.R_alloc | apply Kd.R_drewN | apply Kd.R_drew)); exact (Kd.R_mono (Kd.R_far (p := ⟨gb280, 1, none⟩) (Kd.R_types HO_7.out BK280.out (by decide)) (fun _ hk => hk.2) (.slice Ao57 x7_3.length co57)) (fun _ h_ => h_.1)))); (case side2 => exact (Kd.R_reads' HO_7.out).2.1); rintro e w59 ⟨v296, rfl, ho0, hb⟩; refine ⟨_, rfl, ?_⟩; replace HO_7 := Aside0.mk (Kd.R_below (by (with_reducible repeat (first | apply Kd.R_alloc | apply Kd.R_drewN | apply Kd.R_drew)); exact (Kd.R_mono (Kd.R_far (p := ⟨gb280, 1, none⟩) (Kd.R_types HO_7.out BK280.out (by decide)) (fun _ hk => hk.2) (.slice Ao57 x7_3.length co57)) (fun _ h_ => h_.1))) hb); have HO297 := Aside0.mk (Kd.R_lower ho0 (below_size (bH HB.out))); replace BK280 := Aside0.mk (blk_below (g := gb280) (o := .cells #[.int .i64 a1_0, .slice Ao57 x7_3.length co57, .int .u64 z0] 25 (0, 0)) (bV BK280.out) hb); replace HB := rS HB hb; (try clear hb); (try clear hk); (try clear ho0); obtain ⟨Ao60, co60, eo60⟩ := Kd.R_slice HO297.out; subst eo60) | ((with_reducible refine gate_callee (f := 9) rfl ?_); refine goesL_ (some 84) rfl rfl Tryd.func9 (by kernel_rfl) rfl #[.int .i64 a0, .agg #[.int .i64 t294, .slice Ao60 t295.length co60, .int .u64 t298]] rfl (by (try simp only [List.map_toArray, List.map_cons, List.map_nil]); first | done | rfl | (simp only [List.length_drop, List.length_take]; rfl)) ?_; (with_reducible refine (reply_Text.calls a0 t294 _ _ t295 t298 t299 _ ?side1 ?side2 A55.out (by first | exact (LdS.t (LdU.s HL.out)) | exact LdT.on (LdS.t (LdU.s HL.out)) (bH HB.out))).mono ?_); (case side1 => repeat (first | exact (Kd.R_reads' HO297.out).2.2 | (with_reducible refine Kd.C_alloc ?_ _) | (with_reducible refine Kd.C_drewN ?_ _) | (with_reducible refine Kd.C_drew ?_))); (case side2 => exact (Kd.R_reads' HO297.out).2.1); rintro e w61 ⟨rfl, hb⟩; refine ⟨_, rfl, ?_⟩; replace HO_7 := Aside0.mk (Kd.R_below (by (with_reducible repeat (first | apply Kd.R_alloc | apply Kd.R_drewN | apply Kd.R_drew)); exact HO_7.out) hb); replace HO297 := Aside0.mk (Kd.R_below (by (with_reducible repeat (first | apply Kd.R_alloc | apply Kd.R_drewN | apply Kd.R_drew)); exact HO297.out) hb); replace BK280 := rB BK280 hb; replace HB := rS HB hb; (try clear hb); (try clear hk); ))
            (try simp only [Act.put, sA, sB, sC])
            go_cut [95] (fun v95 wc => ∃ (kq : Nat) (x95_55 : Bool), v95 = .bool x95_55 ∧ Aside0 (tallboylaw18_ReplyBack.j4 kq a0 a2 t299 x95_55 a1_0 x7_3 z0 = some r) ∧ Aside0 (kq ≤ k3) ∧ Aside0 (Kd.R k47 47 wc w.heap.size (fun _ => True) (.slice Ao57 x7_3.length co57) x7_3) ∧ Aside0 (wc.heap[gb280]? = some (.cells #[.int .i64 a1_0, (.slice Ao57 x7_3.length co57), .int .u64 z0] 25 (0, 0))) ∧ Aside0 (Below w.heap.size w wc))
            case first =>
             have H := HC56.out; clear HC56
             by_cases c62 : (t299.size : Int) < 3
             ·rw [if_pos c62] at H; have c62b0 : decide ((t299.size : Int) < 3) = true := decide_eq_true c62; have c62b1 : decide (t299.size < 3) = true := decide_eq_true (by omega); clear c62
              (first | rw [c62b0] | (simp only [i64_w, i32_w]; rw [c62b0]) | skip)
              have H' := Aside0.mk H; clear H; go_wp2
              go_meet
              case rel => exact ⟨_, (true), (by first | rfl | (simp; done) | (simp [*]; done)), H', ⟨by have := HJ5.out; have := HJ28.out; have := HK3.out; first | omega | exact Nat.le_refl _⟩, ⟨by (with_reducible repeat (first | apply Kd.R_alloc | apply Kd.R_drewN | apply Kd.R_drew)); exact HO_7.out⟩, ⟨bK BK280.out⟩, ⟨bH HB.out⟩⟩
             ·rw [if_neg c62] at H; have c62b0 : decide ((t299.size : Int) < 3) = false := decide_eq_false c62; have c62b1 : decide (t299.size < 3) = false := decide_eq_false (by omega); clear c62
              (first | rw [c62b0] | (simp only [i64_w, i32_w]; rw [c62b0]) | skip)
              obtain ⟨ji63, hji63⟩ : ∃ j_ : Int, (wrap64 ((t299.size : Int) - 2)) = j_ := ⟨_, rfl⟩; replace H : (if 0 ≤ (ji63) then (if (ji63) ≤ (t299.size : Int) then (tallboylaw18_ReplyBack.j4 k3 a0 a2 t299 ((t299.extract ((ji63) : Int).toNat t299.size).toList != ([13, 10] : List UInt8)) a1_0 x7_3 z0) else (none)) else (none)) = some r := by first | (rw [hji63] at H; exact H) | (simp only [hji63] at H ⊢; exact H)
              have hji63w : (IntKind.i64.wrap ((t299.size : Int) - 2)) = ji63 := (i64_w _).trans hji63
              by_cases c64 : 0 ≤ (ji63)
              ·rw [if_pos c64] at H; have c64b0 := eq_true c64; have c64b1 : decide (0 ≤ (ji63)) = true := decide_eq_true c64; clear c64
               by_cases c65 : (ji63) ≤ (t299.size : Int)
               ·rw [if_pos c65] at H; have c65b0 := eq_true c65; have c65b1 : decide ((ji63) ≤ (t299.size : Int)) = true := decide_eq_true c65; clear c65; have H' := Aside0.mk H; clear H; go_wp2
                go_meet
                case rel => exact ⟨_, (((t299.extract ((ji63) : Int).toNat t299.size).toList != ([13, 10] : List UInt8))), (by first | rfl | (simp; done) | (simp only [← hji63] <;> (first | rfl | simp)) | (simp [*]; done)), H', ⟨by have := HJ5.out; have := HJ28.out; have := HK3.out; first | omega | exact Nat.le_refl _⟩, ⟨by (with_reducible repeat (first | apply Kd.R_alloc | apply Kd.R_drewN | apply Kd.R_drew)); exact HO_7.out⟩, ⟨bK BK280.out⟩, ⟨bH HB.out⟩⟩
               ·rw [if_neg c65] at H; exact absurd H (by simp)
              ·rw [if_neg c64] at H; exact absurd H (by simp)
            case rest =>
             clear HC56; (try clear c5); (try clear c10); (try clear c13b0); (try clear c13b1); (try clear c17b0); (try clear c17b1); (try clear c21b0); (try clear c28); (try clear c31); (try clear c31b0); (try clear c31b1); (try clear c33); (try clear c33b0); (try clear c33b1); (try clear c34); (try clear c40b0); (try clear c43); (try clear c43b0); (try clear c45); (try clear c46); (try clear c48); (try clear c49); (try clear c49b0); (try clear c50); (try clear c50b0); (try clear p51); (try clear q51); (try clear c62b0); (try clear c62b1); (try clear c64); (try clear c64b0); (try clear c64b1); (try clear c65); (try clear c65b0); (try clear c65b1); (try clear hcz11); (try clear hcz14); (try clear hcz16); (try clear hcz18); (try clear hcz20); (try clear hcz22); (try clear hcz24); (try clear hcz25); (try clear hcz27); (try clear hcz30); (try clear hcz32); (try clear hcz35); (try clear hcz38); (try clear hcz58); (try clear hfz11); (try clear hfz14); (try clear hfz16); (try clear hfz18); (try clear hfz20); (try clear hfz22); (try clear hfz24); (try clear hfz25); (try clear hfz27); (try clear hfz30); (try clear hfz32); (try clear hfz35); (try clear hfz38); (try clear hfz58)
             (try clear hfz58); (try clear hx289_0); (try clear hx289_1); (try clear hx289_2); (try clear hx289_3); (try clear hx291_0); (try clear hx291_1); (try clear hx291_2); (try clear hx291_3); (try clear hx51_0); (try clear hx51_1); (try clear hx51_2); (try clear hx51_3); (try clear hx52_3); (try clear p289); (try clear p291); (try clear p51); (try clear q289); (try clear q291); (try clear q51); obtain ⟨kq, x95_55, rfl, HA, HJ55, z1, BK280, HB⟩ := hcut; cases kq with
             | zero => exact absurd HA.out (by simp [tallboylaw18_ReplyBack.j4])
             | succ kj55 =>
              have H := HA.out; clear HA; simp only [tallboylaw18_ReplyBack.j4] at H
              by_cases c66 : x95_55 = true
              ·subst c66; rw [if_pos rfl] at H; exact absurd H (by simp)
              ·replace c66 := Bool.eq_false_iff.mpr c66; subst c66; rw [if_neg (show ¬ (false = true) by decide)] at H
               by_cases c67 : t299.size + a2.size ≤ 9223372036854775807
               ·rw [if_pos c67] at H; have c67b0 := eq_true c67; have c67b1 : decide (t299.size + a2.size ≤ 9223372036854775807) = true := decide_eq_true c67
                try have c67b2 : (9223372036854775807 < t299.size + a2.size) = False := eq_false (Nat.not_lt.2 c67)
                replace H := Option.bind_eq_some_iff.mp H; obtain ⟨⟨t300, t301, t304, t305, t306⟩, A680, H⟩ := H; (try dsimp only at H); have A68 := Aside0.mk A680; clear A680
                by_cases c69 : t306 = 0
                ·rw [if_pos c69] at H; have c69b0 : (t306 == 0) = true := beq_iff_eq.mpr c69; have c69b1 : (t306 != 0) = false := bne_eq_false_iff_eq.mpr c69; clear c69
                 by_cases c70 : t305 = (t299.size : Int)
                 ·rw [if_pos c70] at H; have c70b0 : (t305 == (t299.size : Int)) = true := beq_iff_eq.mpr c70; have c70b1 : (t305 != (t299.size : Int)) = false := bne_eq_false_iff_eq.mpr c70; clear c70; replace H := Option.bind_eq_some_iff.mp H; obtain ⟨⟨t308, t309, t312⟩, A710, H⟩ := H; (try dsimp only at H); have A71 := Aside0.mk A710; clear A710; replace H := Option.bind_eq_some_iff.mp H; obtain ⟨t313, A720, H⟩ := H; (try dsimp only at H); have A72 := Aside0.mk A720; clear A720; obtain rfl := Option.some.inj H
                  try go_wp2_with (first | ((with_reducible refine gate_callee (f := 14) rfl ?_); refine goesL_ (some 101) rfl rfl Tryd.func14 (by kernel_rfl) rfl #[.int .i64 a0, .string (t299 ++ a2)] rfl (by (try simp only [List.map_toArray, List.map_cons, List.map_nil]); first | done | rfl | (simp only [List.length_drop, List.length_take]; rfl)) ?_; (with_reducible refine (reply_Read.calls kj55 a0 (t299 ++ a2) t300 t301 t304 t305 t306 _ A68.out (by first | exact HL.out | exact LdU.on HL.out (bH HB.out))).mono ?_); rintro e w73 ⟨v302, rfl, ho0, hb⟩; refine ⟨_, rfl, ?_⟩; replace z1 := Aside0.mk (Kd.R_below (by (with_reducible repeat (first | apply Kd.R_alloc | apply Kd.R_drewN | apply Kd.R_drew)); exact z1.out) hb); have HO303 := Aside0.mk (Kd.R_lower ho0 (below_size (bH HB.out))); replace BK280 := rB BK280 hb; replace HB := rS HB hb; (try clear hb); (try clear hk); (try clear ho0)) | ((with_reducible refine gate_dst (N := 10) rfl ?_); (try (refine gate_guard (by rfl) ?_; dsimp only)); refine bE 10 #[.int .i64 0, .slice none 0 0, .int .u64 0] 30 rfl rfl ?_; intro gb307 hg w74 hbox hb; replace z1 := Aside0.mk (Kd.R_below (by (with_reducible repeat (first | apply Kd.R_alloc | apply Kd.R_drewN | apply Kd.R_drew)); exact z1.out) hb); replace HO303 := Aside0.mk (Kd.R_below (by (with_reducible repeat (first | apply Kd.R_alloc | apply Kd.R_drewN | apply Kd.R_drew)); exact HO303.out) hb); have BK307 := rM hbox; have GW307 := rG HB hg; replace HB := rS HB hb; have GE307 := GW307; have NB280_307 := rN BK280 hg; replace BK280 := rB BK280 hb; have NB307_280 := rY NB280_307; clear hb hbox hg; have hnb75 := rP NB307_280 NB280_307; obtain ⟨hcz76, hfz76⟩ := d3 BK307; obtain ⟨Ao77, co77, eo77⟩ := Kd.R_slice HO303.out; subst eo77))
                  have n0_ : Aside0 (Kd.R k47 47 (((w74.setCell ⟨gb307, 0, none⟩ (.int .i64 t300)).setCell ⟨gb307, 1, none⟩ (.slice Ao77 t301.length co77)).setCell ⟨gb307, 2, none⟩ (.int .u64 t304)) w.heap.size (fun _ => True) (.slice Ao57 x7_3.length co57) x7_3) := ⟨by (with_reducible repeat (first | apply Kd.R_alloc | apply Kd.R_drewN | apply Kd.R_drew)); exact Kd.R_mono (Kd.R_far (p := ⟨gb307, 2, none⟩) (Kd.R_far (p := ⟨gb307, 1, none⟩) (Kd.R_far (p := ⟨gb307, 0, none⟩) (Kd.R_types z1.out BK307.out (by decide)) (fun _ hk => hk.2) (.int .i64 t300)) (fun _ hk => hk.2) (.slice Ao77 t301.length co77)) (fun _ hk => hk.2) (.int .u64 t304)) (fun _ hk => trivial)⟩; have n1_ : Aside0 (Kd.R k60 60 (((w74.setCell ⟨gb307, 0, none⟩ (.int .i64 t300)).setCell ⟨gb307, 1, none⟩ (.slice Ao77 t301.length co77)).setCell ⟨gb307, 2, none⟩ (.int .u64 t304)) w.heap.size (fun _ => True) (.slice Ao77 t301.length co77) t301) := ⟨by (with_reducible repeat (first | apply Kd.R_alloc | apply Kd.R_drewN | apply Kd.R_drew)); exact Kd.R_mono (Kd.R_far (p := ⟨gb307, 2, none⟩) (Kd.R_far (p := ⟨gb307, 1, none⟩) (Kd.R_far (p := ⟨gb307, 0, none⟩) (Kd.R_types HO303.out BK307.out (by decide)) (fun _ hk => hk.2) (.int .i64 t300)) (fun _ hk => hk.2) (.slice Ao77 t301.length co77)) (fun _ hk => hk.2) (.int .u64 t304)) (fun _ hk => trivial)⟩; have n2_ : Aside0 ((((w74.setCell ⟨gb307, 0, none⟩ (.int .i64 t300)).setCell ⟨gb307, 1, none⟩ (.slice Ao77 t301.length co77)).setCell ⟨gb307, 2, none⟩ (.int .u64 t304)).heap[gb280]? = some (.cells #[.int .i64 a1_0, .slice Ao57 x7_3.length co57, .int .u64 z0] 25 (0, 0))) := ⟨bK BK280.out⟩
                  have n3_ : Aside0 ((((w74.setCell ⟨gb307, 0, none⟩ (.int .i64 t300)).setCell ⟨gb307, 1, none⟩ (.slice Ao77 t301.length co77)).setCell ⟨gb307, 2, none⟩ (.int .u64 t304)).heap[gb307]? = some (.cells #[.int .i64 t300, .slice Ao77 t301.length co77, .int .u64 t304] 30 (0, 0))) := ⟨bV BK307.out⟩; have n4_ : Aside0 (Below w.heap.size w (((w74.setCell ⟨gb307, 0, none⟩ (.int .i64 t300)).setCell ⟨gb307, 1, none⟩ (.slice Ao77 t301.length co77)).setCell ⟨gb307, 2, none⟩ (.int .u64 t304))) := ⟨bH HB.out⟩
                  (try clear z1)
                  (try clear HO303)
                  (try clear BK280)
                  (try clear BK307)
                  (try clear HB)
                  generalize (((w74.setCell ⟨gb307, 0, none⟩ (.int .i64 t300)).setCell ⟨gb307, 1, none⟩ (.slice Ao77 t301.length co77)).setCell ⟨gb307, 2, none⟩ (.int .u64 t304)) = w78 at n0_ n1_ n2_ n3_ n4_ ⊢; have z1 := n0_; have HO303 := n1_; have BK280 := n2_; have BK307 := n3_; have HB := n4_; clear n0_ n1_ n2_ n3_ n4_; replace z1 := Aside0.mk (Kd.R_drew z1.out); replace HO303 := Aside0.mk (Kd.R_drew HO303.out); replace BK280 := Aside0.mk (bD BK280.out); replace BK307 := Aside0.mk (bD BK307.out); replace HB := Aside0.mk (eD HB.out); refine start_ (n := 15) (S := fun w' => w'.cell? ⟨gb307, 0, none⟩ = some (.int .i64 t300) ∧ w'.cell? ⟨gb307, 1, none⟩ = some (.slice Ao77 t301.length co77) ∧ w'.cell? ⟨gb307, 2, none⟩ = some (.int .u64 t304) ∧ w'.cell? ⟨gb280, 0, none⟩ = some (.int .i64 a1_0) ∧ w'.cell? ⟨gb280, 1, none⟩ = some (.slice Ao57 x7_3.length co57) ∧ w'.cell? ⟨gb280, 2, none⟩ = some (.int .u64 z0)) (ds := []) #[false, false, false, false, false, false, false, false, false, false, false, false, false, false, false] (by kernel_rfl) rfl rfl ⟨kC BK307 0, kC BK307 1, kC BK307 2, kC BK280 0, kC BK280 1, kC BK280 2⟩ (fun hHeld => ?_); refine with_tabW tallboylaw18_ReplyBack.tab22 tallboylaw18_ReplyBack.bits22 (fun HT_ HW_ => ?_)
                  generalize w78.drew = w79 at z1 HO303 BK280 BK307 HB hHeld ⊢; refine pU HT_ 0 (some 105) ?_ #[true, false, false, false, false, false, false, false, false, false, false, false, false, false, false] rfl rfl ?_ ?_ ?_ ?_
                  rotate_left
                  ·intro w'
                   go_simp
                   with_reducible rfl
                  rotate_left
                  ·simp only [Act.put, sA, sB, sC, i64_w, i32_w]
                   rfl
                  refine pU HT_ 1 (some 106) ?_ #[true, true, false, false, false, false, false, false, false, false, false, false, false, false, false] rfl rfl ?_ ?_ ?_ ?_
                  rotate_left
                  ·intro w'
                   go_simp
                   with_reducible rfl
                  rotate_left
                  ·simp only [Act.put, sA, sB, sC, i64_w, i32_w]
                   rfl
                  refine pU HT_ 2 (some 107) ?_ #[true, true, true, false, false, false, false, false, false, false, false, false, false, false, false] rfl rfl ?_ ?_ ?_ ?_
                  rotate_left
                  ·intro w'
                   go_simp
                   with_reducible rfl
                  rotate_left
                  ·simp only [Act.put, sA, sB, sC, i64_w, i32_w]
                   rfl
                  refine pU HT_ 3 (some 108) ?_ #[true, true, true, true, false, false, false, false, false, false, false, false, false, false, false] rfl rfl ?_ ?_ ?_ ?_
                  rotate_left
                  ·intro w'
                   go_simp
                   with_reducible rfl
                  rotate_left
                  ·simp only [Act.put, sA, sB, sC, i64_w, i32_w]
                   rfl
                  refine pU HT_ 4 (some 109) ?_ #[true, true, true, true, true, false, false, false, false, false, false, false, false, false, false] rfl rfl ?_ ?_ ?_ ?_
                  rotate_left
                  ·intro w'
                   go_simp
                   with_reducible rfl
                  rotate_left
                  ·simp only [Act.put, sA, sB, sC, i64_w, i32_w]
                   rfl
                  refine pU HT_ 5 (some 110) ?_ #[true, true, true, true, true, true, false, false, false, false, false, false, false, false, false] rfl rfl ?_ ?_ ?_ ?_
                  rotate_left
                  ·intro w'
                   go_simp
                   with_reducible rfl
                  rotate_left
                  ·simp only [Act.put, sA, sB, sC, i64_w, i32_w]
                   rfl
                  refine pU HT_ 6 (some 111) ?_ #[true, true, true, true, true, true, true, false, false, false, false, false, false, false, false] rfl rfl ?_ ?_ ?_ ?_
                  rotate_left
                  ·intro w'
                   go_simp
                   with_reducible rfl
                  rotate_left
                  ·simp only [Act.put, sA, sB, sC, i64_w, i32_w]
                   rfl
                  refine pU HT_ 7 (some 112) ?_ #[true, true, true, true, true, true, true, true, false, false, false, false, false, false, false] rfl rfl ?_ ?_ ?_ ?_
                  rotate_left
                  ·intro w'
                   go_simp
                   with_reducible rfl
                  rotate_left
                  ·simp only [Act.put, sA, sB, sC, i64_w, i32_w]
                   rfl
                  refine pU HT_ 8 (some 113) ?_ #[true, true, true, true, true, true, true, true, true, false, false, false, false, false, false] rfl rfl ?_ ?_ ?_ ?_
                  rotate_left
                  ·intro w'
                   go_simp
                   with_reducible rfl
                  rotate_left
                  ·simp only [Act.put, sA, sB, sC, i64_w, i32_w]
                   rfl
                  refine tU HT_ HW_ hHeld 9 (some 114) ?_ #[true, true, true, true, true, true, true, true, true, true, false, false, false, false, false] rfl rfl ?_ ?_ ?_ ?_
                  rotate_left
                  ·rintro w' ⟨s0, s1, s2, s3, s4, s5⟩
                   go_simp
                   with_reducible rfl
                  rotate_left
                  ·simp only [Act.put, sA, sB, sC, i64_w, i32_w]
                   rfl
                  refine tU HT_ HW_ hHeld 11 (some 116) ?_ #[true, true, true, true, true, true, true, true, true, true, false, true, false, false, false] rfl rfl ?_ ?_ ?_ ?_
                  rotate_left
                  ·rintro w' ⟨s0, s1, s2, s3, s4, s5⟩
                   go_simp
                   with_reducible rfl
                  rotate_left
                  ·simp only [Act.put, sA, sB, sC, i64_w, i32_w]
                   rfl
                  refine one_ (i := 10) (N := some 115) #[true, true, true, true, true, true, true, true, true, true, true, true, false, false, false] rfl rfl (one_of HT_.out (by kernel_rfl)) (by decide) (fun K hK => ?_)
                  refine goes_ Tryd.func17 (by kernel_rfl) rfl #[.agg #[.int .i64 t300, .slice Ao77 t301.length co77, .int .u64 t304]] (by rfl) rfl rfl (by (try simp only [List.map_toArray, List.map_cons, List.map_nil]); first | done | rfl | (simp only [List.length_drop, List.length_take]; rfl)) ?_
                  with_reducible refine (tallboylaw16_From.calls kj55 t300 _ _ t301 t304 t308 t309 t312 _ ?side1 ?side2 A71.out).mono ?_
                  (case side1 => repeat (first | exact (Kd.R_reads' HO303.out).2.2 | (with_reducible refine Kd.C_alloc ?_ _) | (with_reducible refine Kd.C_drewN ?_ _) | (with_reducible refine Kd.C_drew ?_)))
                  (case side2 => exact (Kd.R_reads' HO303.out).2.1)
                  rintro e w80 ⟨v310, rfl, ho0, hb⟩
                  refine ⟨_, rfl, ?_⟩
                  replace HO303 := Aside0.mk (Kd.R_below (by (with_reducible repeat (first | apply Kd.R_alloc | apply Kd.R_drewN | apply Kd.R_drew)); exact HO303.out) hb); have HO311 := Aside0.mk (Kd.R_lower (Kd.R_new' ho0 (Kd.R_lt (by (with_reducible repeat (first | apply Kd.R_alloc | apply Kd.R_drewN | apply Kd.R_drew)); exact z1.out))) (below_size (bH HB.out))); replace z1 := Aside0.mk (Kd.R_elder' (by (with_reducible repeat (first | apply Kd.R_alloc | apply Kd.R_drewN | apply Kd.R_drew)); exact z1.out) (Kd.R_base ho0) hb); replace BK280 := rB BK280 hb; replace BK307 := rB BK307 hb; replace HB := rS HB hb
                  (try clear hb)
                  
                  (try clear hk)
                  
                  (try clear ho0)
                  obtain ⟨Ao81, co81, eo81⟩ := Kd.R_slice HO311.out
                  (first | subst eo81 | (injection eo81 with f1_ f2_ f3_; have f4_ := f1_.symm; have f5_ := f3_.symm; clear f1_ f2_ f3_; subst f4_; subst f5_))
                  refine hK.out _ _ ⟨kC BK307 0, kC BK307 1, kC BK307 2, kC BK280 0, kC BK280 1, kC BK280 2⟩ (fun hHeld => ?_)
                  clear hK K; refine norm_ (a' := ?_) ?_ ?_
                  rotate_left
                  ·show Act.put _ (some 115) _ = _
                   simp only [Act.put, sA, sB, sC, i64_w, i32_w]
                   rfl
                  refine one_ (i := 12) (N := some 117) #[true, true, true, true, true, true, true, true, true, true, true, true, true, false, false] rfl rfl (one_of HT_.out (by kernel_rfl)) (by decide) (fun K hK => ?_)
                  refine goes_ Tryd.func16 (by kernel_rfl) rfl #[.agg #[.int .i64 t308, .slice Ao81 t309.length co81, .int .u64 t312], .agg #[.int .i64 a1_0, .slice Ao57 x7_3.length co57, .int .u64 z0]] (by rfl) rfl rfl (by (try simp only [List.map_toArray, List.map_cons, List.map_nil]); first | done | rfl | (simp only [List.length_drop, List.length_take]; rfl)) ?_
                  with_reducible refine (tallboyref15_Same.calls kj55 t308 _ _ t309 t312 a1_0 _ _ x7_3 z0 t313 _ ?side1 ?side2 ?side3 ?side4 A72.out).mono ?_
                  (case side1 => repeat (first | exact (Kd.R_reads' HO311.out).2.2 | (with_reducible refine Kd.C_alloc ?_ _) | (with_reducible refine Kd.C_drewN ?_ _) | (with_reducible refine Kd.C_drew ?_)))
                  (case side2 => exact (Kd.R_reads' HO311.out).2.1)
                  (case side3 => repeat (first | exact (Kd.R_reads' z1.out).2.2 | (with_reducible refine Kd.C_alloc ?_ _) | (with_reducible refine Kd.C_drewN ?_ _) | (with_reducible refine Kd.C_drew ?_)))
                  (case side4 => exact (Kd.R_reads' z1.out).2.1)
                  rintro e w82 ⟨rfl, hb⟩
                  refine ⟨_, rfl, ?_⟩
                  replace z1 := Aside0.mk (Kd.R_below (by (with_reducible repeat (first | apply Kd.R_alloc | apply Kd.R_drewN | apply Kd.R_drew)); exact z1.out) hb); replace HO303 := Aside0.mk (Kd.R_below (by (with_reducible repeat (first | apply Kd.R_alloc | apply Kd.R_drewN | apply Kd.R_drew)); exact HO303.out) hb); replace HO311 := Aside0.mk (Kd.R_below (by (with_reducible repeat (first | apply Kd.R_alloc | apply Kd.R_drewN | apply Kd.R_drew)); exact HO311.out) hb); replace BK280 := rB BK280 hb; replace BK307 := rB BK307 hb; replace HB := rS HB hb
                  (try clear hb)
                  
                  (try clear hk)
                  
                  refine hK.out _ _ ⟨kC BK307 0, kC BK307 1, kC BK307 2, kC BK280 0, kC BK280 1, kC BK280 2⟩ (fun hHeld => ?_)
                  clear hK K; refine norm_ (a' := ?_) ?_ ?_
                  rotate_left
                  ·show Act.put _ (some 117) _ = _
                   simp only [Act.put, sA, sB, sC, i64_w, i32_w]
                   rfl
                  refine pU HT_ 13 (some 118) ?_ #[true, true, true, true, true, true, true, true, true, true, true, true, true, true, false] rfl rfl ?_ ?_ ?_ ?_
                  rotate_left
                  ·intro w'
                   go_simp
                   with_reducible rfl
                  rotate_left
                  ·simp only [Act.put, sA, sB, sC, i64_w, i32_w]
                   rfl
                  refine pU HT_ 14 (some 6) ?_ #[true, true, true, true, true, true, true, true, true, true, true, true, true, true, true] rfl rfl ?_ ?_ ?_ ?_
                  rotate_left
                  ·intro w'
                   go_simp
                   with_reducible rfl
                  rotate_left
                  ·simp only [Act.put, sA, sB, sC, i64_w, i32_w]
                   rfl
                  refine done_ (done_of HT_.out (by kernel_rfl)) ?_
                  try go_wp2
                  go_ret
                  exact ⟨xR, bH HB.out⟩
                 ·rw [if_neg c70] at H; have c70b0 : (t305 == (t299.size : Int)) = false := beq_eq_false_iff_ne.mpr c70; have c70b1 : (t305 != (t299.size : Int)) = true := bne_iff_ne.mpr c70; exact absurd H (by simp)
                ·rw [if_neg c69] at H; have c69b0 : (t306 == 0) = false := beq_eq_false_iff_ne.mpr c69; have c69b1 : (t306 != 0) = true := bne_iff_ne.mpr c69; exact absurd H (by simp)
               ·rw [if_neg c67] at H; exact absurd H (by simp)
        ·rw [if_neg c34] at H; exact absurd H (by simp)
       ·rw [if_neg c33] at H; have c33b0 : (a1_0 == 1) = false := beq_eq_false_iff_ne.mpr c33; have c33b1 : (a1_0 != 1) = true := bne_iff_ne.mpr c33; obtain ⟨y314, hy314⟩ : ∃ y_ : List (S47), y_ = (([] : List (S47))) := ⟨_, rfl⟩; replace H : (tallboylaw18_ReplyBack.l1 kj28 a0 a2 y314 0 a1_0 z0) = some r := by first | (rw [hy314]; with_reducible exact H) | (have H2_ := (Option.bind_some _ _).symm.trans H; rw [hy314]; with_reducible exact H2_) | (have H2_ := (Option.bind_some _ _).symm.trans H; with_reducible exact H2_) | with_reducible exact H | (rw [hy314]; exact H) | exact H
        have Ny314 := Aside0.mk hy314; clear hy314; have H' := Aside0.mk H; clear H; obtain ⟨hcz83, hfz83⟩ := d3 BK280
        go_wp2_with (first | ((with_reducible refine gate_dst (N := 46) rfl ?_); (try (refine gate_guard (by rfl) ?_; dsimp only)); refine Kd.R_lit k47 _ 47 ?hg (N := 46) ?hd (xs := ([] : List (S47))) (inner := []) (ok := fun _ => True) (okp := fun _ => True) ?hr ?hp (fun _ hk => hk) trivial (Below.refl _ _) (Nat.le_refl _) (by simp) ?_; (case hd => rfl); (case hg => rfl); (case hr => first | (go_simp; done) | (go_simp; rfl)); (case hp => exact (Reps.none _ _)); intro vL w84 ho85 hb hg_ hnew_; clear hg_ hnew_; (first | rw [← Ny314.out] at ho85 | (simp only [Int.reduceToNat] at ho85; rw [← Ny314.out] at ho85)); have HOL := Aside0.mk (Kd.R_lower ho85 (below_size (bH HB.out))); replace BK280 := Aside0.mk (blk_below (g := gb280) (o := .cells #[.int .i64 a1_0, .slice none 0 0, .int .u64 z0] 25 (0, 0)) (bV BK280.out) hb); replace HB := rS HB hb; clear hb ho85; obtain ⟨hcz86, hfz86⟩ := d3 BK280) | ((with_reducible refine gate_builtin (b := .append) (xs := #[.tmp 46, .tmp 48]) rfl ?_); at_builtin; refine Kd.R_append_rows k47 (w0 := w) w.heap.size rfl (.tmp 46) (.tmp 48) 22 47 (.agg #[(.string ⟨#[]⟩), (.int .u32 0), (.string ⟨#[]⟩), (.int .u64 0)]) 48 rfl Tryd.underlying22 info47 rfl (by decide) (by omega) vL y314 ([] : List S47) _ _ _ (fun _ => True) (fun _ => False) rfl rfl ?aO ?aR (fun _ _ h => h) (fun _ h => h.elim) ?aF ?aB ?aS ?aL ?_; (case aR => exact Kd.C_nil k47 _); (case aB => exact (bH HB.out)); (case aF => exact (fun _ _ => trivial)); (case aO => exact (by (with_reducible repeat (first | apply Kd.R_alloc | apply Kd.R_drewN | apply Kd.R_drew)); exact HOL.out)); (case aS => exact (below_size (bH HB.out))); (case aL => rw [Ny314.out]; decide); intro v315 wN hoN hbN hgN hatN; rw [List.append_nil] at hoN; replace BK280 := Aside0.mk (blk_grown (g := gb280) (o := .cells #[.int .i64 a1_0, .slice none 0 0, .int .u64 z0] 25 (0, 0)) (bK BK280.out) hgN (Kd.R_ne HOL.out BK280.out (by decide))); replace HB := Aside0.mk hbN; have HO316 := Aside0.mk hoN; clear HOL; clear hoN hbN hgN hatN))
        go_loopg [8] kj28 (fun kq v8 w' => ∃ (x7_3 : List (S47)) (x8_3 : Int), v8 = .int .i64 x8_3 ∧ Aside0 (tallboylaw18_ReplyBack.l1 kq a0 a2 x7_3 x8_3 a1_0 z0 = some r) ∧ Aside0 (kq ≤ kj28) ∧ Aside0 (Kd.R k47 47 w' w.heap.size (fun _ => True) v315 x7_3) ∧ Aside0 (w'.heap[gb280]? = some (.cells #[.int .i64 a1_0, (.slice none 0 0), .int .u64 z0] 25 (0, 0))) ∧ Aside0 (Below w.heap.size w w'))
        case atStart => exact ⟨(y314), (0), (by first | rfl | (simp; done) | (simp [*]; done)), H', ⟨Nat.le_refl _⟩, ⟨by (with_reducible repeat (first | apply Kd.R_alloc | apply Kd.R_drewN | apply Kd.R_drew)); exact HO316.out⟩, ⟨bK BK280.out⟩, ⟨bH HB.out⟩⟩
        case round =>
         clear H'; (try clear c5); (try clear c10); (try clear c13b0); (try clear c13b1); (try clear c17b0); (try clear c17b1); (try clear c21b0); (try clear c28); (try clear c31); (try clear c31b0); (try clear c31b1); (try clear c33); (try clear c33b0); (try clear c33b1); (try clear c34); (try clear c40b0); (try clear c43); (try clear c43b0); (try clear c45); (try clear c46); (try clear c48); (try clear c49); (try clear c49b0); (try clear c50); (try clear c50b0); (try clear p51); (try clear q51); (try clear c62b0); (try clear c62b1); (try clear c64); (try clear c64b0); (try clear c64b1); (try clear c65); (try clear c65b0); (try clear c65b1); (try clear c66); (try clear c67); (try clear c67b0); (try clear c67b1); (try clear c67b2); (try clear c69); (try clear c69b0); (try clear c69b1); (try clear c70); (try clear c70b0); (try clear c70b1); (try clear hcz11); (try clear hcz14); (try clear hcz16); (try clear hcz18); (try clear hcz20); (try clear hcz22); (try clear hcz24); (try clear hcz25); (try clear hcz27); (try clear hcz30); (try clear hcz32); (try clear hcz35); (try clear hcz38); (try clear hcz58); (try clear hcz76); (try clear hcz83); (try clear hcz86); (try clear hfz11); (try clear hfz14); (try clear hfz16); (try clear hfz18); (try clear hfz20); (try clear hfz22); (try clear hfz24)
         (try clear hfz24); (try clear hfz25); (try clear hfz27); (try clear hfz30); (try clear hfz32); (try clear hfz35); (try clear hfz38); (try clear hfz58); (try clear hfz76); (try clear hfz83); (try clear hfz86); (try clear hx289_0); (try clear hx289_1); (try clear hx289_2); (try clear hx289_3); (try clear hx291_0); (try clear hx291_1); (try clear hx291_2); (try clear hx291_3); (try clear hx51_0); (try clear hx51_1); (try clear hx51_2); (try clear hx51_3); (try clear hx52_3); (try clear p289); (try clear p291); (try clear p51); (try clear q289); (try clear q291); (try clear q51); obtain ⟨x7_3, x8_3, rfl, HA, HK3, HO_7, BK280, HB⟩ := hrel; cases gk with
         | zero => exact absurd HA.out (by simp [tallboylaw18_ReplyBack.l1])
         | succ k3 =>
          have H := HA.out; clear HA; simp only [tallboylaw18_ReplyBack.l1] at H
          by_cases c87 : x8_3 < (x7_3.length : Int)
          ·rw [if_pos c87] at H; have c87b0 : decide (x8_3 < (x7_3.length : Int)) = true := decide_eq_true c87; clear c87; have HC88 := Aside0.mk H; clear H; obtain ⟨Ao89, co89, eo89⟩ := Kd.R_slice HO_7.out; subst eo89
           go_upto_region 13 with (fail)
           go_cut [71] (fun v71 wc => ∃ (kq : Nat) (x71_87 : Bool), v71 = .bool x71_87 ∧ Aside0 (tallboylaw18_ReplyBack.j6 kq a0 a2 x7_3 x8_3 x71_87 a1_0 z0 = some r) ∧ Aside0 (kq ≤ k3) ∧ Aside0 (Kd.R k47 47 wc w.heap.size (fun _ => True) (.slice Ao89 x7_3.length co89) x7_3) ∧ Aside0 (wc.heap[gb280]? = some (.cells #[.int .i64 a1_0, (.slice none 0 0), .int .u64 z0] 25 (0, 0))) ∧ Aside0 (Below w.heap.size w wc))
           case first =>
            have H := HC88.out; clear HC88
            by_cases c90 : 0 ≤ x8_3
            ·rw [if_pos c90] at H; have c90b0 : decide (0 ≤ x8_3) = true := decide_eq_true c90; clear c90
             (first | rw [c90b0] | (simp only [i64_w, i32_w]; rw [c90b0]) | skip)
             replace H := Option.bind_eq_some_iff.mp H; obtain ⟨t318, A910, H⟩ := H; (try dsimp only at H); have A91 := Aside0.mk A910; clear A910
             by_cases c92 : t318 = true
             ·subst c92; rw [if_pos rfl] at H; have H' := Aside0.mk H; clear H; have p317 : 0 ≤ (x8_3 : Int) := of_decide_eq_true (by first | (with_reducible assumption) | assumption); have q317 : x8_3 < (x7_3.length : Int) := of_decide_eq_true (by first | (with_reducible assumption) | assumption)
              obtain ⟨ad317, e317, hx317_0, hx317_1, hx317_2, hx317_3⟩ := at_T47 (Kd.R_reads' HO_7.out).2.2 x8_3 p317 q317; cases e317; replace p317 := eq_true p317; replace q317 := eq_true q317
              go_wp2_with (first | ((with_reducible refine gate_callee (f := 19) rfl ?_); refine goesL_ (some 61) rfl rfl Tryd.func19 (by kernel_rfl) rfl #[.string ((rd_T47 x7_3 x8_3).f0)] rfl (by (try simp only [List.map_toArray, List.map_cons, List.map_nil]); first | done | rfl | (simp only [List.length_drop, List.length_take]; rfl)) ?_; (with_reducible refine (tallboyref04_Key.calls k3 ((rd_T47 x7_3 x8_3).f0) true _ A91.out).mono ?_); rintro e w' ⟨rfl, ⟨nd, rfl⟩⟩; refine ⟨_, rfl, ?_⟩; have p319 : 0 ≤ (x8_3 : Int) := of_decide_eq_true (by first | (with_reducible assumption) | assumption); have q319 : x8_3 < (x7_3.length : Int) := of_decide_eq_true (by first | (with_reducible assumption) | assumption); obtain ⟨ad319, e319, hx319_0, hx319_1, hx319_2, hx319_3⟩ := at_T47 (Kd.R_reads' HO_7.out).2.2 x8_3 p319 q319; obtain rfl : ad317 = ad319 := (by injection e319); replace p319 := eq_true p319; replace q319 := eq_true q319))
              go_meet
              case rel => exact ⟨_, (decide ((((rd_T47 x7_3 x8_3).f2).size : Int) > 2000)), (by first | rfl | (simp; done) | (simp [*]; done)), H', ⟨by have := HJ5.out; have := HJ28.out; have := HK3.out; first | omega | exact Nat.le_refl _⟩, ⟨by (with_reducible repeat (first | apply Kd.R_alloc | apply Kd.R_drewN | apply Kd.R_drew)); exact HO_7.out⟩, ⟨bK BK280.out⟩, ⟨bH HB.out⟩⟩
             ·replace c92 := Bool.eq_false_iff.mpr c92; subst c92; rw [if_neg (show ¬ (false = true) by decide)] at H; have H' := Aside0.mk H; clear H; have p317 : 0 ≤ (x8_3 : Int) := of_decide_eq_true (by first | (with_reducible assumption) | assumption); have q317 : x8_3 < (x7_3.length : Int) := of_decide_eq_true (by first | (with_reducible assumption) | assumption)
              obtain ⟨ad317, e317, hx317_0, hx317_1, hx317_2, hx317_3⟩ := at_T47 (Kd.R_reads' HO_7.out).2.2 x8_3 p317 q317; cases e317; replace p317 := eq_true p317; replace q317 := eq_true q317
              go_wp2_with (first | ((with_reducible refine gate_callee (f := 19) rfl ?_); refine goesL_ (some 61) rfl rfl Tryd.func19 (by kernel_rfl) rfl #[.string ((rd_T47 x7_3 x8_3).f0)] rfl (by (try simp only [List.map_toArray, List.map_cons, List.map_nil]); first | done | rfl | (simp only [List.length_drop, List.length_take]; rfl)) ?_; (with_reducible refine (tallboyref04_Key.calls k3 ((rd_T47 x7_3 x8_3).f0) false _ A91.out).mono ?_); rintro e w' ⟨rfl, ⟨nd, rfl⟩⟩; refine ⟨_, rfl, ?_⟩))
              go_meet
              case rel => exact ⟨_, (true), (by first | rfl | (simp; done) | (simp [*]; done)), H', ⟨by have := HJ5.out; have := HJ28.out; have := HK3.out; first | omega | exact Nat.le_refl _⟩, ⟨by (with_reducible repeat (first | apply Kd.R_alloc | apply Kd.R_drewN | apply Kd.R_drew)); exact HO_7.out⟩, ⟨bK BK280.out⟩, ⟨bH HB.out⟩⟩
            ·rw [if_neg c90] at H; exact absurd H (by simp)
           case rest =>
            clear HC88; (try clear c5); (try clear c10); (try clear c13b0); (try clear c13b1); (try clear c17b0); (try clear c17b1); (try clear c21b0); (try clear c28); (try clear c31); (try clear c31b0); (try clear c31b1); (try clear c33); (try clear c33b0); (try clear c33b1); (try clear c34); (try clear c40b0); (try clear c43); (try clear c43b0); (try clear c45); (try clear c46); (try clear c48); (try clear c49); (try clear c49b0); (try clear c50); (try clear c50b0); (try clear p51); (try clear q51); (try clear c62b0); (try clear c62b1); (try clear c64); (try clear c64b0); (try clear c64b1); (try clear c65); (try clear c65b0); (try clear c65b1); (try clear c66); (try clear c67); (try clear c67b0); (try clear c67b1); (try clear c67b2); (try clear c69); (try clear c69b0); (try clear c69b1); (try clear c70); (try clear c70b0); (try clear c70b1); (try clear c87b0); (try clear c90); (try clear c90b0); (try clear c92); (try clear hcz11); (try clear hcz14); (try clear hcz16); (try clear hcz18); (try clear hcz20); (try clear hcz22); (try clear hcz24); (try clear hcz25); (try clear hcz27); (try clear hcz30); (try clear hcz32); (try clear hcz35); (try clear hcz38); (try clear hcz58); (try clear hcz76); (try clear hcz83); (try clear hcz86); (try clear hfz11); (try clear hfz14); (try clear hfz16); (try clear hfz18)
            (try clear hfz18); (try clear hfz20); (try clear hfz22); (try clear hfz24); (try clear hfz25); (try clear hfz27); (try clear hfz30); (try clear hfz32); (try clear hfz35); (try clear hfz38); (try clear hfz58); (try clear hfz76); (try clear hfz83); (try clear hfz86); (try clear hx289_0); (try clear hx289_1); (try clear hx289_2); (try clear hx289_3); (try clear hx291_0); (try clear hx291_1); (try clear hx291_2); (try clear hx291_3); (try clear hx317_0); (try clear hx317_1); (try clear hx317_2); (try clear hx317_3); (try clear hx319_0); (try clear hx319_1); (try clear hx319_2); (try clear hx319_3); (try clear hx51_0); (try clear hx51_1); (try clear hx51_2); (try clear hx51_3); (try clear hx52_3); (try clear p289); (try clear p291); (try clear p317); (try clear p319); (try clear p51); (try clear q289); (try clear q291); (try clear q317); (try clear q319); (try clear q51); obtain ⟨kq, x71_87, rfl, HA, HJ87, HO_7, BK280, HB⟩ := hcut; cases kq with
            | zero => exact absurd HA.out (by simp [tallboylaw18_ReplyBack.j6])
            | succ kj87 =>
             have H := HA.out; clear HA; simp only [tallboylaw18_ReplyBack.j6] at H
             by_cases c93 : x71_87 = true
             ·subst c93; rw [if_pos rfl] at H; obtain rfl := Option.some.inj H; go_wp2; go_ret
              exact ⟨xR, bH HB.out⟩
             ·replace c93 := Bool.eq_false_iff.mpr c93; subst c93; rw [if_neg (show ¬ (false = true) by decide)] at H; replace H := Option.bind_eq_some_iff.mp H; obtain ⟨t320, A940, H⟩ := H; (try dsimp only at H); have A94 := Aside0.mk A940; clear A940
              by_cases c95 : t320 = true
              ·subst c95; rw [if_pos rfl] at H; have H' := Aside0.mk H; clear H
               go_wp2_with (first | ((with_reducible refine gate_callee (f := 20) rfl ?_); refine goesL_ (some 73) rfl rfl Tryd.func20 (by kernel_rfl) rfl #[.int .i64 a0] rfl (by (try simp only [List.map_toArray, List.map_cons, List.map_nil]); first | done | rfl | (simp only [List.length_drop, List.length_take]; rfl)) ?_; (with_reducible refine (verb_Shows.calls a0 true _ A94.out).mono ?_); rintro e w' ⟨rfl, ⟨nd, rfl⟩⟩; refine ⟨_, rfl, ?_⟩))
               go_roundg kj87
               case measure => have := HJ5.out; have := HJ28.out; have := HK3.out; have := HJ87.out; omega
               case rel => exact ⟨(x7_3), (wrap64 (x8_3 + 1)), (by first | rfl | (simp; done) | (simp [*]; done)), H', ⟨by have := HJ5.out; have := HJ28.out; have := HK3.out; have := HJ87.out; omega⟩, ⟨by (with_reducible repeat (first | apply Kd.R_alloc | apply Kd.R_drewN | apply Kd.R_drew)); exact HO_7.out⟩, ⟨bK BK280.out⟩, ⟨bH HB.out⟩⟩
              ·replace c95 := Bool.eq_false_iff.mpr c95; subst c95; rw [if_neg (show ¬ (false = true) by decide)] at H
               by_cases c96 : 0 ≤ x8_3
               ·rw [if_pos c96] at H; have c96b0 : decide (0 ≤ x8_3) = true := decide_eq_true c96; clear c96
                by_cases c97 : x8_3 < (x7_3.length : Int)
                ·rw [if_pos c97] at H; have c97b0 : decide (x8_3 < (x7_3.length : Int)) = true := decide_eq_true c97; clear c97; obtain ⟨y321, hy321⟩ : ∃ y_ : List (S47), y_ = (x7_3.set (x8_3 : Int).toNat (⟨(rd_T47 x7_3 x8_3).f0, (rd_T47 x7_3 x8_3).f1, (rd_T47 x7_3 x8_3).f2, 0⟩ : S47)) := ⟨_, rfl⟩; replace H : (tallboylaw18_ReplyBack.l1 kj87 a0 a2 y321 (wrap64 (x8_3 + 1)) a1_0 z0) = some r := by first | (rw [hy321]; with_reducible exact H) | (have H2_ := (Option.bind_some _ _).symm.trans H; rw [hy321]; with_reducible exact H2_) | (have H2_ := (Option.bind_some _ _).symm.trans H; with_reducible exact H2_) | with_reducible exact H | (rw [hy321]; exact H) | exact H
                 have Ny321 := Aside0.mk hy321; clear hy321; have H' := Aside0.mk H; clear H
                 go_wp2_with (first | ((with_reducible refine gate_callee (f := 20) rfl ?_); refine goesL_ (some 73) rfl rfl Tryd.func20 (by kernel_rfl) rfl #[.int .i64 a0] rfl (by (try simp only [List.map_toArray, List.map_cons, List.map_nil]); first | done | rfl | (simp only [List.length_drop, List.length_take]; rfl)) ?_; (with_reducible refine (verb_Shows.calls a0 false _ A94.out).mono ?_); rintro e w' ⟨rfl, ⟨nd, rfl⟩⟩; refine ⟨_, rfl, ?_⟩; (try simp only [World.drewN_drewN]); (try (rw [drewN_self wc]; generalize hq_ : World.drewN wc _ = wc; have n0_ : Aside0 (Kd.R k47 47 wc w.heap.size (fun _ => True) (.slice Ao89 x7_3.length co89) x7_3) := ⟨by rw [← hq_]; exact (by (with_reducible repeat (first | apply Kd.R_alloc | apply Kd.R_drewN | apply Kd.R_drew)); exact HO_7.out)⟩; have n1_ := Aside0.mk (bQ BK280.out hq_); have n2_ := Aside0.mk (bF HB.out hq_); clear HO_7 BK280 HB hq_; have HO_7 := n0_; have BK280 := n1_; have HB := n2_; clear n0_ n1_ n2_)); have p98 : 0 ≤ (x8_3 : Int) := of_decide_eq_true (by first | (with_reducible assumption) | assumption); have q98 : (x8_3 : Int) < ((x7_3.length : Int) : Int) := of_decide_eq_true (by first | (with_reducible assumption) | assumption); obtain ⟨go98, co98, eo98, gb98, gl98, cl98, HG98⟩ := Kd.R_form HO_7.out (by omega); (first | cases eo98 | (injection eo98 with ea_ en_ ec_; (first | subst ea_ | (injection ea_ with ea_; subst ea_)); subst ec_; clear en_)); have GB98 := Aside0.mk gb98; have GG98 := Aside0.mk HG98; clear gb98 gl98 HG98; obtain ⟨ce98, hcl98, hM98, hcc98, hfr98⟩ := Kd.R_elem HO_7.out z47 (x8_3 : Int) p98 q98; obtain rfl := k47_openM hM98; have hx98_0 : wc.cell? ⟨go98, (x8_3 : Int).toNat * 4, none⟩ = some (.string ((rd_T47 x7_3 x8_3).f0)) := hcc98 0 _ rfl; have hx98_1 : wc.cell? ⟨go98, (x8_3 : Int).toNat * 4 + 1, none⟩ = some (.int .u32 ((rd_T47 x7_3 x8_3).f1)) := hcc98 1 _ rfl; have hx98_2 : wc.cell? ⟨go98, (x8_3 : Int).toNat * 4 + 2, none⟩ = some (.string ((rd_T47 x7_3 x8_3).f2)) := hcc98 2 _ rfl; have hx98_3 : wc.cell? ⟨go98, (x8_3 : Int).toNat * 4 + 3, none⟩ = some (.int .u64 ((rd_T47 x7_3 x8_3).f3)) := hcc98 3 _ rfl; have hf98_0 : wc.frozen? ⟨go98, (x8_3 : Int).toNat * 4, none⟩ = false := hfr98 0; have hf98_1 : wc.frozen? ⟨go98, (x8_3 : Int).toNat * 4 + 1, none⟩ = false := hfr98 1; have hf98_2 : wc.frozen? ⟨go98, (x8_3 : Int).toNat * 4 + 2, none⟩ = false := hfr98 2; have hf98_3 : wc.frozen? ⟨go98, (x8_3 : Int).toNat * 4 + 3, none⟩ = false := hfr98 3; clear hcl98 hcc98 hfr98 hM98; replace p98 := eq_true p98; replace q98 := eq_true q98; have HX99 := Aside0.mk (show Kd.R k47 47 wc w.heap.size (fun _ => True) (.slice (some ⟨go98, 0, none⟩) x7_3.length co89) x7_3 from (by (with_reducible repeat (first | apply Kd.R_alloc | apply Kd.R_drewN | apply Kd.R_drew)); exact HO_7.out)); obtain ⟨ce99, hcl99, hM99, hcc99, hfr99⟩ := Kd.R_elem HX99.out z47 (x8_3 : Int) (of_decide_eq_true (by first | (with_reducible assumption) | assumption)) (by have h_ : (x8_3 : Int) < ((x7_3.length : Int) : Int) := of_decide_eq_true (by first | (with_reducible assumption) | assumption); first | exact h_ | (have e_ := (Kd.R_reads' HO_7.out).1; omega) | simpa using h_); obtain rfl := k47_openM hM99; have HP99 := Kd.R_seg HX99.out (x8_3 : Int) (of_decide_eq_true (by first | (with_reducible assumption) | assumption)) (by have h_ : (x8_3 : Int) < ((x7_3.length : Int) : Int) := of_decide_eq_true (by first | (with_reducible assumption) | assumption); first | exact h_ | (have e_ := (Kd.R_reads' HO_7.out).1; omega) | simpa using h_) (seg := [.int .u64 0]) (j := 3) hcl99 hcc99 (show 4 ≤ 4 from by decide) (x' := (⟨(rd_T47 x7_3 x8_3).f0, (rd_T47 x7_3 x8_3).f1, (rd_T47 x7_3 x8_3).f2, 0⟩ : S47)) (k47_mkM _ _ _ (⟨(rd_T47 x7_3 x8_3).f0, (rd_T47 x7_3 x8_3).f1, (rd_T47 x7_3 x8_3).f2, 0⟩ : S47) ) (fun _ hk => hk); have hx99_3 := hcc99 3 _ rfl; (try simp only [show (k47).sz = 4 from rfl, Nat.mul_one, Nat.add_zero] at hx99_3); have hf99_3 := hfr99 3; (try simp only [show (k47).sz = 4 from rfl, Nat.mul_one, Nat.add_zero] at hf99_3); clear hcl99 hcc99 hfr99 hM99) | ((with_reducible refine gate_store (t := 23) (p := 78) rfl ?_); refine store_event (t := 23) (p := 78) (v := ?vo_w100) (w1 := (wc.setCell ⟨go98, (x8_3 : Int).toNat * 4 + 3, none⟩ (.int .u64 0))) ?hg ?ho ?hn ?hr ?_; (case ho => rfl); (case hg => rfl); (case hn => rfl); (case hr => first | (go_simp; done) | (go_simp; rfl)); intro w100 hw; have hg : wc.grownBy w100 (some go98) := (by rw [hw]; exact HP99.2); have hp_ : Kd.R k47 47 w100 w.heap.size (fun _ => True) (.slice (some ⟨go98, 0, none⟩) x7_3.length co89) y321 := (by rw [hw, Ny321.out]; exact HP99.1); clear HP99; replace BK280 := Aside0.mk (blk_grown (g := gb280) (o := .cells #[.int .i64 a1_0, .slice none 0 0, .int .u64 z0] 25 (0, 0)) (bK BK280.out) hg (Kd.R_ne HO_7.out BK280.out (by decide))); replace HO_7 := Aside0.mk (hp_); replace HB := Aside0.mk ((by rw [hw]; exact eS (HB.out) GB98.out : Below w.heap.size w w100)); clear hg hw hp_))
                 go_roundg kj87
                 case measure => have := HJ5.out; have := HJ28.out; have := HK3.out; have := HJ87.out; omega
                 case rel => exact ⟨(y321), (wrap64 (x8_3 + 1)), (by first | rfl | (simp; done) | (simp [*]; done)), H', ⟨by have := HJ5.out; have := HJ28.out; have := HK3.out; have := HJ87.out; omega⟩, ⟨by (with_reducible repeat (first | apply Kd.R_alloc | apply Kd.R_drewN | apply Kd.R_drew)); exact HO_7.out⟩, ⟨bK BK280.out⟩, ⟨bH HB.out⟩⟩
                ·rw [if_neg c97] at H; exact absurd H (by simp)
               ·rw [if_neg c96] at H; exact absurd H (by simp)
          ·rw [if_neg c87] at H; have c87b0 : decide (x8_3 < (x7_3.length : Int)) = false := decide_eq_false c87; clear c87; replace H := Option.bind_eq_some_iff.mp H; obtain ⟨⟨t322, t323, t326⟩, z2, H⟩ := H; (try dsimp only at H); have A101 := Aside0.mk z2; clear z2; replace H := Option.bind_eq_some_iff.mp H; obtain ⟨t327, z3, H⟩ := H; (try dsimp only at H); have A102 := Aside0.mk z3; clear z3; have HC103 := Aside0.mk H; clear H; obtain ⟨Ao104, co104, eo104⟩ := Kd.R_slice HO_7.out; subst eo104; obtain ⟨hcz105, hfz105⟩ := d3 BK280
           go_upto_region 19 with (first | ((with_reducible refine gate_callee (f := 10) rfl ?_); refine goesL_ (some 83) rfl rfl Tryd.func10 (by kernel_rfl) rfl #[.agg #[.int .i64 a1_0, .slice Ao104 x7_3.length co104, .int .u64 z0]] rfl (by (try simp only [List.map_toArray, List.map_cons, List.map_nil]); first | done | rfl | (simp only [List.length_drop, List.length_take]; rfl)) ?_; (with_reducible refine (tallboylaw18_To.calls k3 a1_0 _ _ x7_3 z0 t322 t323 t326 _ ?side1 ?side2 A101.out).mono ?_); (case side1 => refine (Kd.R_reads' (e := 47) (base := w.heap.size) (ok := fun k_ => True) (n := x7_3.length) (c := co104) ?_).2.2; exact (by (with_reducible repeat (first | apply Kd.R_alloc | apply Kd.R_drewN | apply Kd.R_drew)); exact (Kd.R_mono (Kd.R_far (p := ⟨gb280, 1, none⟩) (Kd.R_types HO_7.out BK280.out (by decide)) (fun _ hk => hk.2) (.slice Ao104 x7_3.length co104)) (fun _ h_ => h_.1)))); (case side2 => exact (Kd.R_reads' HO_7.out).2.1); rintro e w106 ⟨v324, rfl, ho0, hb⟩; refine ⟨_, rfl, ?_⟩; replace HO_7 := Aside0.mk (Kd.R_below (by (with_reducible repeat (first | apply Kd.R_alloc | apply Kd.R_drewN | apply Kd.R_drew)); exact (Kd.R_mono (Kd.R_far (p := ⟨gb280, 1, none⟩) (Kd.R_types HO_7.out BK280.out (by decide)) (fun _ hk => hk.2) (.slice Ao104 x7_3.length co104)) (fun _ h_ => h_.1))) hb); have HO325 := Aside0.mk (Kd.R_lower ho0 (below_size (bH HB.out))); replace BK280 := Aside0.mk (blk_below (g := gb280) (o := .cells #[.int .i64 a1_0, .slice Ao104 x7_3.length co104, .int .u64 z0] 25 (0, 0)) (bV BK280.out) hb); replace HB := rS HB hb; (try clear hb); (try clear hk); (try clear ho0); obtain ⟨Ao107, co107, eo107⟩ := Kd.R_slice HO325.out; subst eo107) | ((with_reducible refine gate_callee (f := 9) rfl ?_); refine goesL_ (some 84) rfl rfl Tryd.func9 (by kernel_rfl) rfl #[.int .i64 a0, .agg #[.int .i64 t322, .slice Ao107 t323.length co107, .int .u64 t326]] rfl (by (try simp only [List.map_toArray, List.map_cons, List.map_nil]); first | done | rfl | (simp only [List.length_drop, List.length_take]; rfl)) ?_; (with_reducible refine (reply_Text.calls a0 t322 _ _ t323 t326 t327 _ ?side1 ?side2 A102.out (by first | exact (LdS.t (LdU.s HL.out)) | exact LdT.on (LdS.t (LdU.s HL.out)) (bH HB.out))).mono ?_); (case side1 => repeat (first | exact (Kd.R_reads' HO325.out).2.2 | (with_reducible refine Kd.C_alloc ?_ _) | (with_reducible refine Kd.C_drewN ?_ _) | (with_reducible refine Kd.C_drew ?_))); (case side2 => exact (Kd.R_reads' HO325.out).2.1); rintro e w108 ⟨rfl, hb⟩; refine ⟨_, rfl, ?_⟩; replace HO_7 := Aside0.mk (Kd.R_below (by (with_reducible repeat (first | apply Kd.R_alloc | apply Kd.R_drewN | apply Kd.R_drew)); exact HO_7.out) hb); replace HO325 := Aside0.mk (Kd.R_below (by (with_reducible repeat (first | apply Kd.R_alloc | apply Kd.R_drewN | apply Kd.R_drew)); exact HO325.out) hb); replace BK280 := rB BK280 hb; replace HB := rS HB hb; (try clear hb); (try clear hk); ))
           (try simp only [Act.put, sA, sB, sC])
           go_cut [95] (fun v95 wc => ∃ (kq : Nat) (x95_102 : Bool), v95 = .bool x95_102 ∧ Aside0 (tallboylaw18_ReplyBack.j7 kq a0 a2 t327 x95_102 a1_0 x7_3 z0 = some r) ∧ Aside0 (kq ≤ k3) ∧ Aside0 (Kd.R k47 47 wc w.heap.size (fun _ => True) (.slice Ao104 x7_3.length co104) x7_3) ∧ Aside0 (wc.heap[gb280]? = some (.cells #[.int .i64 a1_0, (.slice Ao104 x7_3.length co104), .int .u64 z0] 25 (0, 0))) ∧ Aside0 (Below w.heap.size w wc))
           case first =>
            have H := HC103.out; clear HC103
            by_cases c109 : (t327.size : Int) < 3
            ·rw [if_pos c109] at H; have c109b0 : decide ((t327.size : Int) < 3) = true := decide_eq_true c109; have c109b1 : decide (t327.size < 3) = true := decide_eq_true (by omega); clear c109
             (first | rw [c109b0] | (simp only [i64_w, i32_w]; rw [c109b0]) | skip)
             have H' := Aside0.mk H; clear H; go_wp2
             go_meet
             case rel => exact ⟨_, (true), (by first | rfl | (simp; done) | (simp [*]; done)), H', ⟨by have := HJ5.out; have := HJ28.out; have := HK3.out; first | omega | exact Nat.le_refl _⟩, ⟨by (with_reducible repeat (first | apply Kd.R_alloc | apply Kd.R_drewN | apply Kd.R_drew)); exact HO_7.out⟩, ⟨bK BK280.out⟩, ⟨bH HB.out⟩⟩
            ·rw [if_neg c109] at H; have c109b0 : decide ((t327.size : Int) < 3) = false := decide_eq_false c109; have c109b1 : decide (t327.size < 3) = false := decide_eq_false (by omega); clear c109
             (first | rw [c109b0] | (simp only [i64_w, i32_w]; rw [c109b0]) | skip)
             obtain ⟨ji110, hji110⟩ : ∃ j_ : Int, (wrap64 ((t327.size : Int) - 2)) = j_ := ⟨_, rfl⟩; replace H : (if 0 ≤ (ji110) then (if (ji110) ≤ (t327.size : Int) then (tallboylaw18_ReplyBack.j7 k3 a0 a2 t327 ((t327.extract ((ji110) : Int).toNat t327.size).toList != ([13, 10] : List UInt8)) a1_0 x7_3 z0) else (none)) else (none)) = some r := by first | (rw [hji110] at H; exact H) | (simp only [hji110] at H ⊢; exact H)
             have hji110w : (IntKind.i64.wrap ((t327.size : Int) - 2)) = ji110 := (i64_w _).trans hji110
             by_cases c111 : 0 ≤ (ji110)
             ·rw [if_pos c111] at H; have c111b0 := eq_true c111; have c111b1 : decide (0 ≤ (ji110)) = true := decide_eq_true c111; clear c111
              by_cases c112 : (ji110) ≤ (t327.size : Int)
              ·rw [if_pos c112] at H; have c112b0 := eq_true c112; have c112b1 : decide ((ji110) ≤ (t327.size : Int)) = true := decide_eq_true c112; clear c112; have H' := Aside0.mk H; clear H; go_wp2
               go_meet
               case rel => exact ⟨_, (((t327.extract ((ji110) : Int).toNat t327.size).toList != ([13, 10] : List UInt8))), (by first | rfl | (simp; done) | (simp only [← hji110] <;> (first | rfl | simp)) | (simp [*]; done)), H', ⟨by have := HJ5.out; have := HJ28.out; have := HK3.out; first | omega | exact Nat.le_refl _⟩, ⟨by (with_reducible repeat (first | apply Kd.R_alloc | apply Kd.R_drewN | apply Kd.R_drew)); exact HO_7.out⟩, ⟨bK BK280.out⟩, ⟨bH HB.out⟩⟩
              ·rw [if_neg c112] at H; exact absurd H (by simp)
             ·rw [if_neg c111] at H; exact absurd H (by simp)
           case rest =>
            clear HC103; (try clear c5); (try clear c10); (try clear c13b0); (try clear c13b1); (try clear c17b0); (try clear c17b1); (try clear c21b0); (try clear c28); (try clear c31); (try clear c31b0); (try clear c31b1); (try clear c33); (try clear c33b0); (try clear c33b1); (try clear c34); (try clear c40b0); (try clear c43); (try clear c43b0); (try clear c45); (try clear c46); (try clear c48); (try clear c49); (try clear c49b0); (try clear c50); (try clear c50b0); (try clear p51); (try clear q51); (try clear c62b0); (try clear c62b1); (try clear c64); (try clear c64b0); (try clear c64b1); (try clear c65); (try clear c65b0); (try clear c65b1); (try clear c66); (try clear c67); (try clear c67b0); (try clear c67b1); (try clear c67b2); (try clear c69); (try clear c69b0); (try clear c69b1); (try clear c70); (try clear c70b0); (try clear c70b1); (try clear c87b0); (try clear c90); (try clear c90b0); (try clear c92); (try clear c93); (try clear c95); (try clear c96); (try clear c96b0); (try clear c97); (try clear c97b0); (try clear p98); (try clear q98); (try clear c109b0); (try clear c109b1); (try clear c111); (try clear c111b0); (try clear c111b1); (try clear c112); (try clear c112b0); (try clear c112b1); (try clear hcz105); (try clear hcz11); (try clear hcz14); (try clear hcz16); (try clear hcz18); (try clear hcz20); (try clear hcz22); (try clear hcz24); (try clear hcz25); (try clear hcz27); (try clear hcz30); (try clear hcz32)
            (try clear hcz35); (try clear hcz38); (try clear hcz58); (try clear hcz76); (try clear hcz83); (try clear hcz86); (try clear hfz105); (try clear hfz11); (try clear hfz14); (try clear hfz16); (try clear hfz18); (try clear hfz20); (try clear hfz22); (try clear hfz24); (try clear hfz25); (try clear hfz27); (try clear hfz30); (try clear hfz32); (try clear hfz35); (try clear hfz38); (try clear hfz58); (try clear hfz76); (try clear hfz83); (try clear hfz86); (try clear hx289_0); (try clear hx289_1); (try clear hx289_2); (try clear hx289_3); (try clear hx291_0); (try clear hx291_1); (try clear hx291_2); (try clear hx291_3); (try clear hx317_0); (try clear hx317_1); (try clear hx317_2); (try clear hx317_3); (try clear hx319_0); (try clear hx319_1); (try clear hx319_2); (try clear hx319_3); (try clear hx51_0); (try clear hx51_1); (try clear hx51_2); (try clear hx51_3); (try clear hx52_3); (try clear hx98_0); (try clear hx98_1); (try clear hx98_2); (try clear hx98_3); (try clear hx99_3); (try clear p289); (try clear p291); (try clear p317); (try clear p319); (try clear p51); (try clear p98); (try clear q289); (try clear q291); (try clear q317); (try clear q319); (try clear q51); (try clear q98); obtain ⟨kq, x95_102, rfl, HA, HJ102, z1, BK280, HB⟩ := hcut; cases kq with
            | zero => exact absurd HA.out (by simp [tallboylaw18_ReplyBack.j7])
            | succ kj102 =>
             have H := HA.out; clear HA; simp only [tallboylaw18_ReplyBack.j7] at H
             by_cases c113 : x95_102 = true
             ·subst c113; rw [if_pos rfl] at H; exact absurd H (by simp)
             ·replace c113 := Bool.eq_false_iff.mpr c113; subst c113; rw [if_neg (show ¬ (false = true) by decide)] at H
              by_cases c114 : t327.size + a2.size ≤ 9223372036854775807
              ·rw [if_pos c114] at H; have c114b0 := eq_true c114; have c114b1 : decide (t327.size + a2.size ≤ 9223372036854775807) = true := decide_eq_true c114
               try have c114b2 : (9223372036854775807 < t327.size + a2.size) = False := eq_false (Nat.not_lt.2 c114)
               replace H := Option.bind_eq_some_iff.mp H; obtain ⟨⟨t328, t329, t332, t333, t334⟩, z4, H⟩ := H; (try dsimp only at H); have A115 := Aside0.mk z4; clear z4
               by_cases c116 : t334 = 0
               ·rw [if_pos c116] at H; have c116b0 : (t334 == 0) = true := beq_iff_eq.mpr c116; have c116b1 : (t334 != 0) = false := bne_eq_false_iff_eq.mpr c116; clear c116
                by_cases c117 : t333 = (t327.size : Int)
                ·rw [if_pos c117] at H; have c117b0 : (t333 == (t327.size : Int)) = true := beq_iff_eq.mpr c117; have c117b1 : (t333 != (t327.size : Int)) = false := bne_eq_false_iff_eq.mpr c117; clear c117; replace H := Option.bind_eq_some_iff.mp H; obtain ⟨⟨t336, t337, t340⟩, z5, H⟩ := H; (try dsimp only at H); have A118 := Aside0.mk z5; clear z5; replace H := Option.bind_eq_some_iff.mp H; obtain ⟨t341, z6, H⟩ := H; (try dsimp only at H); have A119 := Aside0.mk z6; clear z6; obtain rfl := Option.some.inj H
                 try go_wp2_with (first | ((with_reducible refine gate_callee (f := 14) rfl ?_); refine goesL_ (some 101) rfl rfl Tryd.func14 (by kernel_rfl) rfl #[.int .i64 a0, .string (t327 ++ a2)] rfl (by (try simp only [List.map_toArray, List.map_cons, List.map_nil]); first | done | rfl | (simp only [List.length_drop, List.length_take]; rfl)) ?_; (with_reducible refine (reply_Read.calls kj102 a0 (t327 ++ a2) t328 t329 t332 t333 t334 _ A115.out (by first | exact HL.out | exact LdU.on HL.out (bH HB.out))).mono ?_); rintro e w120 ⟨v330, rfl, ho0, hb⟩; refine ⟨_, rfl, ?_⟩; replace z1 := Aside0.mk (Kd.R_below (by (with_reducible repeat (first | apply Kd.R_alloc | apply Kd.R_drewN | apply Kd.R_drew)); exact z1.out) hb); have HO331 := Aside0.mk (Kd.R_lower ho0 (below_size (bH HB.out))); replace BK280 := rB BK280 hb; replace HB := rS HB hb; (try clear hb); (try clear hk); (try clear ho0)) | ((with_reducible refine gate_dst (N := 10) rfl ?_); (try (refine gate_guard (by rfl) ?_; dsimp only)); refine bE 10 #[.int .i64 0, .slice none 0 0, .int .u64 0] 30 rfl rfl ?_; intro gb335 hg w121 hbox hb; replace z1 := Aside0.mk (Kd.R_below (by (with_reducible repeat (first | apply Kd.R_alloc | apply Kd.R_drewN | apply Kd.R_drew)); exact z1.out) hb); replace HO331 := Aside0.mk (Kd.R_below (by (with_reducible repeat (first | apply Kd.R_alloc | apply Kd.R_drewN | apply Kd.R_drew)); exact HO331.out) hb); have BK335 := rM hbox; have GW335 := rG HB hg; replace HB := rS HB hb; have GE335 := GW335; have NB280_335 := rN BK280 hg; replace BK280 := rB BK280 hb; have NB335_280 := rY NB280_335; clear hb hbox hg; have hnb122 := rP NB335_280 NB280_335; obtain ⟨hcz123, hfz123⟩ := d3 BK335; obtain ⟨Ao124, co124, eo124⟩ := Kd.R_slice HO331.out; subst eo124))
                 have n0_ : Aside0 (Kd.R k47 47 (((w121.setCell ⟨gb335, 0, none⟩ (.int .i64 t328)).setCell ⟨gb335, 1, none⟩ (.slice Ao124 t329.length co124)).setCell ⟨gb335, 2, none⟩ (.int .u64 t332)) w.heap.size (fun _ => True) (.slice Ao104 x7_3.length co104) x7_3) := ⟨by (with_reducible repeat (first | apply Kd.R_alloc | apply Kd.R_drewN | apply Kd.R_drew)); exact Kd.R_mono (Kd.R_far (p := ⟨gb335, 2, none⟩) (Kd.R_far (p := ⟨gb335, 1, none⟩) (Kd.R_far (p := ⟨gb335, 0, none⟩) (Kd.R_types z1.out BK335.out (by decide)) (fun _ hk => hk.2) (.int .i64 t328)) (fun _ hk => hk.2) (.slice Ao124 t329.length co124)) (fun _ hk => hk.2) (.int .u64 t332)) (fun _ hk => trivial)⟩; have n1_ : Aside0 (Kd.R k60 60 (((w121.setCell ⟨gb335, 0, none⟩ (.int .i64 t328)).setCell ⟨gb335, 1, none⟩ (.slice Ao124 t329.length co124)).setCell ⟨gb335, 2, none⟩ (.int .u64 t332)) w.heap.size (fun _ => True) (.slice Ao124 t329.length co124) t329) := ⟨by (with_reducible repeat (first | apply Kd.R_alloc | apply Kd.R_drewN | apply Kd.R_drew)); exact Kd.R_mono (Kd.R_far (p := ⟨gb335, 2, none⟩) (Kd.R_far (p := ⟨gb335, 1, none⟩) (Kd.R_far (p := ⟨gb335, 0, none⟩) (Kd.R_types HO331.out BK335.out (by decide)) (fun _ hk => hk.2) (.int .i64 t328)) (fun _ hk => hk.2) (.slice Ao124 t329.length co124)) (fun _ hk => hk.2) (.int .u64 t332)) (fun _ hk => trivial)⟩; have n2_ : Aside0 ((((w121.setCell ⟨gb335, 0, none⟩ (.int .i64 t328)).setCell ⟨gb335, 1, none⟩ (.slice Ao124 t329.length co124)).setCell ⟨gb335, 2, none⟩ (.int .u64 t332)).heap[gb280]? = some (.cells #[.int .i64 a1_0, .slice Ao104 x7_3.length co104, .int .u64 z0] 25 (0, 0))) := ⟨bK BK280.out⟩
                 have n3_ : Aside0 ((((w121.setCell ⟨gb335, 0, none⟩ (.int .i64 t328)).setCell ⟨gb335, 1, none⟩ (.slice Ao124 t329.length co124)).setCell ⟨gb335, 2, none⟩ (.int .u64 t332)).heap[gb335]? = some (.cells #[.int .i64 t328, .slice Ao124 t329.length co124, .int .u64 t332] 30 (0, 0))) := ⟨bV BK335.out⟩; have n4_ : Aside0 (Below w.heap.size w (((w121.setCell ⟨gb335, 0, none⟩ (.int .i64 t328)).setCell ⟨gb335, 1, none⟩ (.slice Ao124 t329.length co124)).setCell ⟨gb335, 2, none⟩ (.int .u64 t332))) := ⟨bH HB.out⟩
                 (try clear z1)
                 (try clear HO331)
                 (try clear BK280)
                 (try clear BK335)
                 (try clear HB)
                 generalize (((w121.setCell ⟨gb335, 0, none⟩ (.int .i64 t328)).setCell ⟨gb335, 1, none⟩ (.slice Ao124 t329.length co124)).setCell ⟨gb335, 2, none⟩ (.int .u64 t332)) = w125 at n0_ n1_ n2_ n3_ n4_ ⊢; have z1 := n0_; have HO331 := n1_; have BK280 := n2_; have BK335 := n3_; have HB := n4_; clear n0_ n1_ n2_ n3_ n4_; replace z1 := Aside0.mk (Kd.R_drew z1.out); replace HO331 := Aside0.mk (Kd.R_drew HO331.out); replace BK280 := Aside0.mk (bD BK280.out); replace BK335 := Aside0.mk (bD BK335.out); replace HB := Aside0.mk (eD HB.out); refine start_ (n := 15) (S := fun w' => w'.cell? ⟨gb335, 0, none⟩ = some (.int .i64 t328) ∧ w'.cell? ⟨gb335, 1, none⟩ = some (.slice Ao124 t329.length co124) ∧ w'.cell? ⟨gb335, 2, none⟩ = some (.int .u64 t332) ∧ w'.cell? ⟨gb280, 0, none⟩ = some (.int .i64 a1_0) ∧ w'.cell? ⟨gb280, 1, none⟩ = some (.slice Ao104 x7_3.length co104) ∧ w'.cell? ⟨gb280, 2, none⟩ = some (.int .u64 z0)) (ds := []) #[false, false, false, false, false, false, false, false, false, false, false, false, false, false, false] (by kernel_rfl) rfl rfl ⟨kC BK335 0, kC BK335 1, kC BK335 2, kC BK280 0, kC BK280 1, kC BK280 2⟩ (fun hHeld => ?_); refine with_tabW tallboylaw18_ReplyBack.tab22 tallboylaw18_ReplyBack.bits22 (fun HT_ HW_ => ?_)
                 generalize w125.drew = w126 at z1 HO331 BK280 BK335 HB hHeld ⊢; refine pU HT_ 0 (some 105) ?_ #[true, false, false, false, false, false, false, false, false, false, false, false, false, false, false] rfl rfl ?_ ?_ ?_ ?_
                 rotate_left
                 ·intro w'
                  go_simp
                  with_reducible rfl
                 rotate_left
                 ·simp only [Act.put, sA, sB, sC, i64_w, i32_w]
                  rfl
                 refine pU HT_ 1 (some 106) ?_ #[true, true, false, false, false, false, false, false, false, false, false, false, false, false, false] rfl rfl ?_ ?_ ?_ ?_
                 rotate_left
                 ·intro w'
                  go_simp
                  with_reducible rfl
                 rotate_left
                 ·simp only [Act.put, sA, sB, sC, i64_w, i32_w]
                  rfl
                 refine pU HT_ 2 (some 107) ?_ #[true, true, true, false, false, false, false, false, false, false, false, false, false, false, false] rfl rfl ?_ ?_ ?_ ?_
                 rotate_left
                 ·intro w'
                  go_simp
                  with_reducible rfl
                 rotate_left
                 ·simp only [Act.put, sA, sB, sC, i64_w, i32_w]
                  rfl
                 refine pU HT_ 3 (some 108) ?_ #[true, true, true, true, false, false, false, false, false, false, false, false, false, false, false] rfl rfl ?_ ?_ ?_ ?_
                 rotate_left
                 ·intro w'
                  go_simp
                  with_reducible rfl
                 rotate_left
                 ·simp only [Act.put, sA, sB, sC, i64_w, i32_w]
                  rfl
                 refine pU HT_ 4 (some 109) ?_ #[true, true, true, true, true, false, false, false, false, false, false, false, false, false, false] rfl rfl ?_ ?_ ?_ ?_
                 rotate_left
                 ·intro w'
                  go_simp
                  with_reducible rfl
                 rotate_left
                 ·simp only [Act.put, sA, sB, sC, i64_w, i32_w]
                  rfl
                 refine pU HT_ 5 (some 110) ?_ #[true, true, true, true, true, true, false, false, false, false, false, false, false, false, false] rfl rfl ?_ ?_ ?_ ?_
                 rotate_left
                 ·intro w'
                  go_simp
                  with_reducible rfl
                 rotate_left
                 ·simp only [Act.put, sA, sB, sC, i64_w, i32_w]
                  rfl
                 refine pU HT_ 6 (some 111) ?_ #[true, true, true, true, true, true, true, false, false, false, false, false, false, false, false] rfl rfl ?_ ?_ ?_ ?_
                 rotate_left
                 ·intro w'
                  go_simp
                  with_reducible rfl
                 rotate_left
                 ·simp only [Act.put, sA, sB, sC, i64_w, i32_w]
                  rfl
                 refine pU HT_ 7 (some 112) ?_ #[true, true, true, true, true, true, true, true, false, false, false, false, false, false, false] rfl rfl ?_ ?_ ?_ ?_
                 rotate_left
                 ·intro w'
                  go_simp
                  with_reducible rfl
                 rotate_left
                 ·simp only [Act.put, sA, sB, sC, i64_w, i32_w]
                  rfl
                 refine pU HT_ 8 (some 113) ?_ #[true, true, true, true, true, true, true, true, true, false, false, false, false, false, false] rfl rfl ?_ ?_ ?_ ?_
                 rotate_left
                 ·intro w'
                  go_simp
                  with_reducible rfl
                 rotate_left
                 ·simp only [Act.put, sA, sB, sC, i64_w, i32_w]
                  rfl
                 refine tU HT_ HW_ hHeld 9 (some 114) ?_ #[true, true, true, true, true, true, true, true, true, true, false, false, false, false, false] rfl rfl ?_ ?_ ?_ ?_
                 rotate_left
                 ·rintro w' ⟨s0, s1, s2, s3, s4, s5⟩
                  go_simp
                  with_reducible rfl
                 rotate_left
                 ·simp only [Act.put, sA, sB, sC, i64_w, i32_w]
                  rfl
                 refine tU HT_ HW_ hHeld 11 (some 116) ?_ #[true, true, true, true, true, true, true, true, true, true, false, true, false, false, false] rfl rfl ?_ ?_ ?_ ?_
                 rotate_left
                 ·rintro w' ⟨s0, s1, s2, s3, s4, s5⟩
                  go_simp
                  with_reducible rfl
                 rotate_left
                 ·simp only [Act.put, sA, sB, sC, i64_w, i32_w]
                  rfl
                 refine one_ (i := 10) (N := some 115) #[true, true, true, true, true, true, true, true, true, true, true, true, false, false, false] rfl rfl (one_of HT_.out (by kernel_rfl)) (by decide) (fun K hK => ?_)
                 refine goes_ Tryd.func17 (by kernel_rfl) rfl #[.agg #[.int .i64 t328, .slice Ao124 t329.length co124, .int .u64 t332]] (by rfl) rfl rfl (by (try simp only [List.map_toArray, List.map_cons, List.map_nil]); first | done | rfl | (simp only [List.length_drop, List.length_take]; rfl)) ?_
                 with_reducible refine (tallboylaw16_From.calls kj102 t328 _ _ t329 t332 t336 t337 t340 _ ?side1 ?side2 A118.out).mono ?_
                 (case side1 => repeat (first | exact (Kd.R_reads' HO331.out).2.2 | (with_reducible refine Kd.C_alloc ?_ _) | (with_reducible refine Kd.C_drewN ?_ _) | (with_reducible refine Kd.C_drew ?_)))
                 (case side2 => exact (Kd.R_reads' HO331.out).2.1)
                 rintro e w127 ⟨v338, rfl, ho0, hb⟩
                 refine ⟨_, rfl, ?_⟩
                 replace HO331 := Aside0.mk (Kd.R_below (by (with_reducible repeat (first | apply Kd.R_alloc | apply Kd.R_drewN | apply Kd.R_drew)); exact HO331.out) hb); have HO339 := Aside0.mk (Kd.R_lower (Kd.R_new' ho0 (Kd.R_lt (by (with_reducible repeat (first | apply Kd.R_alloc | apply Kd.R_drewN | apply Kd.R_drew)); exact z1.out))) (below_size (bH HB.out))); replace z1 := Aside0.mk (Kd.R_elder' (by (with_reducible repeat (first | apply Kd.R_alloc | apply Kd.R_drewN | apply Kd.R_drew)); exact z1.out) (Kd.R_base ho0) hb); replace BK280 := rB BK280 hb; replace BK335 := rB BK335 hb; replace HB := rS HB hb
                 (try clear hb)
                 
                 (try clear hk)
                 
                 (try clear ho0)
                 obtain ⟨Ao128, co128, eo128⟩ := Kd.R_slice HO339.out
                 (first | subst eo128 | (injection eo128 with f1_ f2_ f3_; have f4_ := f1_.symm; have f5_ := f3_.symm; clear f1_ f2_ f3_; subst f4_; subst f5_))
                 refine hK.out _ _ ⟨kC BK335 0, kC BK335 1, kC BK335 2, kC BK280 0, kC BK280 1, kC BK280 2⟩ (fun hHeld => ?_)
                 clear hK K; refine norm_ (a' := ?_) ?_ ?_
                 rotate_left
                 ·show Act.put _ (some 115) _ = _
                  simp only [Act.put, sA, sB, sC, i64_w, i32_w]
                  rfl
                 refine one_ (i := 12) (N := some 117) #[true, true, true, true, true, true, true, true, true, true, true, true, true, false, false] rfl rfl (one_of HT_.out (by kernel_rfl)) (by decide) (fun K hK => ?_)
                 refine goes_ Tryd.func16 (by kernel_rfl) rfl #[.agg #[.int .i64 t336, .slice Ao128 t337.length co128, .int .u64 t340], .agg #[.int .i64 a1_0, .slice Ao104 x7_3.length co104, .int .u64 z0]] (by rfl) rfl rfl (by (try simp only [List.map_toArray, List.map_cons, List.map_nil]); first | done | rfl | (simp only [List.length_drop, List.length_take]; rfl)) ?_
                 with_reducible refine (tallboyref15_Same.calls kj102 t336 _ _ t337 t340 a1_0 _ _ x7_3 z0 t341 _ ?side1 ?side2 ?side3 ?side4 A119.out).mono ?_
                 (case side1 => repeat (first | exact (Kd.R_reads' HO339.out).2.2 | (with_reducible refine Kd.C_alloc ?_ _) | (with_reducible refine Kd.C_drewN ?_ _) | (with_reducible refine Kd.C_drew ?_)))
                 (case side2 => exact (Kd.R_reads' HO339.out).2.1)
                 (case side3 => repeat (first | exact (Kd.R_reads' z1.out).2.2 | (with_reducible refine Kd.C_alloc ?_ _) | (with_reducible refine Kd.C_drewN ?_ _) | (with_reducible refine Kd.C_drew ?_)))
                 (case side4 => exact (Kd.R_reads' z1.out).2.1)
                 rintro e w129 ⟨rfl, hb⟩
                 refine ⟨_, rfl, ?_⟩
                 replace z1 := Aside0.mk (Kd.R_below (by (with_reducible repeat (first | apply Kd.R_alloc | apply Kd.R_drewN | apply Kd.R_drew)); exact z1.out) hb); replace HO331 := Aside0.mk (Kd.R_below (by (with_reducible repeat (first | apply Kd.R_alloc | apply Kd.R_drewN | apply Kd.R_drew)); exact HO331.out) hb); replace HO339 := Aside0.mk (Kd.R_below (by (with_reducible repeat (first | apply Kd.R_alloc | apply Kd.R_drewN | apply Kd.R_drew)); exact HO339.out) hb); replace BK280 := rB BK280 hb; replace BK335 := rB BK335 hb; replace HB := rS HB hb
                 (try clear hb)
                 
                 (try clear hk)
                 
                 refine hK.out _ _ ⟨kC BK335 0, kC BK335 1, kC BK335 2, kC BK280 0, kC BK280 1, kC BK280 2⟩ (fun hHeld => ?_)
                 clear hK K; refine norm_ (a' := ?_) ?_ ?_
                 rotate_left
                 ·show Act.put _ (some 117) _ = _
                  simp only [Act.put, sA, sB, sC, i64_w, i32_w]
                  rfl
                 refine pU HT_ 13 (some 118) ?_ #[true, true, true, true, true, true, true, true, true, true, true, true, true, true, false] rfl rfl ?_ ?_ ?_ ?_
                 rotate_left
                 ·intro w'
                  go_simp
                  with_reducible rfl
                 rotate_left
                 ·simp only [Act.put, sA, sB, sC, i64_w, i32_w]
                  rfl
                 refine pU HT_ 14 (some 6) ?_ #[true, true, true, true, true, true, true, true, true, true, true, true, true, true, true] rfl rfl ?_ ?_ ?_ ?_
                 rotate_left
                 ·intro w'
                  go_simp
                  with_reducible rfl
                 rotate_left
                 ·simp only [Act.put, sA, sB, sC, i64_w, i32_w]
                  rfl
                 refine done_ (done_of HT_.out (by kernel_rfl)) ?_
                 try go_wp2
                 go_ret
                 exact ⟨xR, bH HB.out⟩
                ·rw [if_neg c117] at H; have c117b0 : (t333 == (t327.size : Int)) = false := beq_eq_false_iff_ne.mpr c117; have c117b1 : (t333 != (t327.size : Int)) = true := bne_iff_ne.mpr c117; exact absurd H (by simp)
               ·rw [if_neg c116] at H; have c116b0 : (t334 == 0) = false := beq_eq_false_iff_ne.mpr c116; have c116b1 : (t334 != 0) = true := bne_iff_ne.mpr c116; exact absurd H (by simp)
              ·rw [if_neg c114] at H; exact absurd H (by simp)
 ·replace c5 := Bool.eq_false_iff.mpr c5; subst c5; rw [if_neg (show ¬ (false = true) by decide)] at H; exact absurd H (by simp)

end Go.Proofs.YtdgpagocccabdaaDoor.P
