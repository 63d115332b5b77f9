/- Lean functions for the Go functions that the laws of this seat use, and the proofs that the Go code computes them; conditions: the readings that each theorem names. Written by a program. -/
import Derived.Test.YtdepkgikdmlgiaaPx0
import Derived.Test.YtdepkgikdmlgiaaPx1
import Derived.Test.YtdepkgikdmlgiaaPx3
import Derived.Test.YtdepkgikdmlgiaaPx4
import Derived.Test.YtdepkgikdmlgiaaPx5
import Derived.Test.YtdepkgikdmlgiaaPx7
import Derived.Test.YtdepkgikdmlgiaaPx8
import Derived.Test.YtdepkgikdmlgiaaPx11
import Derived.Test.YtdepkgikdmlgiaaPx42
import Derived.Test.YtdepkgikdmlgiaaShort
namespace Go.Proofs.Ytdepkgikdmlgiaa.P
open Go.RowKit Go.Proofs.YtdepkgikdmlgiaaW.PrintWords Go.Proofs.YtdepkgikdmlgiaaW.PrintLast Go.Proofs.YtdepkgikdmlgiaaW.PrintMore
set_option linter.unusedVariables false
set_option linter.unusedSimpArgs false

attribute [local go_sem high] eqA26
/-! ### tallboylaw29_FrameBack: function 7 -/
def tallboylaw29_FrameBack.j0 : Nat → ByteArray → Int → Bool → Bool → Int → Int → Int → Int → ByteArray → ByteArray → ByteArray → Option (Bool)
 | 0, _, _, _, _, _, _, _, _, _, _, _ => none
 | k + 1, x1, x2, x24, z3, z4, z5, z6, z7, z0, z1, z2 => if x24 = true then (some true) else ((tallboylaw29_To.f z3 z4 z5 z6 z7 z0 z1 z2).bind fun bt627 => ((frame_Pack.f bt627.1 bt627.2.1 bt627.2.2.1 bt627.2.2.2.1 bt627.2.2.2.2.1 bt627.2.2.2.2.2.1 bt627.2.2.2.2.2.2.1 bt627.2.2.2.2.2.2.2).bind fun bt635 => (if bt635.2 = 0 then (if bt635.1.size + x1.size ≤ 9223372036854775807 then ((frame_Unpack.f k (bt635.1 ++ x1)).bind fun bt637 => (if (IntKind.u64.wrap ((bt635.1.size : Int))) = 0 then (none) else (if 0 ≤ (wrap64 (Int.tmod (IntKind.u64.wrap (x2)) (IntKind.u64.wrap ((bt635.1.size : Int))))) then (if (wrap64 (Int.tmod (IntKind.u64.wrap (x2)) (IntKind.u64.wrap ((bt635.1.size : Int))))) ≤ (bt635.1.size : Int) then ((frame_Unpack.f k (bt635.1.extract 0 ((wrap64 (Int.tmod (IntKind.u64.wrap (x2)) (IntKind.u64.wrap ((bt635.1.size : Int))))) : Int).toNat)).bind fun bt648 => (if bt637.2.2.2.2.2.2.2.2.2 = 0 then ((tallboylaw29_From.f bt637.1 bt637.2.1 bt637.2.2.1 bt637.2.2.2.1 bt637.2.2.2.2.1 bt637.2.2.2.2.2.1 bt637.2.2.2.2.2.2.1 bt637.2.2.2.2.2.2.2.1).bind fun bt659 => (if (bt659.1 == z3 && (bt659.2.1 == z4 && (bt659.2.2.1 == z5 && (bt659.2.2.2.1 == z6 && (bt659.2.2.2.2.1 == z7 && (bt659.2.2.2.2.2.1.toList == z0.toList && (bt659.2.2.2.2.2.2.1.toList == z1.toList && (bt659.2.2.2.2.2.2.2.toList == z2.toList)))))))) = true then (if bt637.2.2.2.2.2.2.2.2.1 = (bt635.1.size : Int) then (if (bt635.1.size : Int) = (wrap64 ((wrap64 ((wrap64 (24 + (z0.size : Int))) + (z1.size : Int))) + (z2.size : Int))) then (some (bt648.2.2.2.2.2.2.2.2.2 == 3)) else (none)) else (none)) else (none))) else (none))) else (none)) else (none)))) else (none)) else (if bt635.2 = 7 then (some (bt635.1.toList == ([] : List UInt8))) else (none)))))
def tallboylaw29_FrameBack.f (k : Nat) (a0_0 : Bool) (a0_1 : Int) (a0_2 : Int) (a0_3 : Int) (a0_4 : Int) (a0_5 : ByteArray) (a0_6 : ByteArray) (a0_7 : ByteArray) (a1 : ByteArray) (a2 : Int) : Option (Bool) := (tallboylaw29_works.f k).bind fun t625 => (if t625 = true then ((tallboylaw29_Great.f a0_0 a0_1 a0_2 a0_3 a0_4 a0_5 a0_6 a0_7).bind fun t626 => (if t626 = true then (tallboylaw29_FrameBack.j0 k a1 a2 true a0_0 a0_1 a0_2 a0_3 a0_4 a0_5 a0_6 a0_7) else (tallboylaw29_FrameBack.j0 k a1 a2 (decide ((a1.size : Int) > 1000)) a0_0 a0_1 a0_2 a0_3 a0_4 a0_5 a0_6 a0_7))) else (none))
theorem tallboylaw29_FrameBack.mono_l : ∀ k, (∀ y0 y1 y2 y3 y4 y5 y6 y7 y8 y9 y10, LeO (tallboylaw29_FrameBack.j0 k y0 y1 y2 y3 y4 y5 y6 y7 y8 y9 y10) (tallboylaw29_FrameBack.j0 (k + 1) y0 y1 y2 y3 y4 y5 y6 y7 y8 y9 y10))
 | 0 => fun _ _ _ _ _ _ _ _ _ _ _ r h => by simp [tallboylaw29_FrameBack.j0] at h
 | k + 1 => by
  have ih0 := tallboylaw29_FrameBack.mono_l k
  ·intro y0 y1 y2 y3 y4 y5 y6 y7 y8 y9 y10
   unfold tallboylaw29_FrameBack.j0
   repeat' first | (with_reducible first | apply ih0 | apply frame_Unpack.mono | apply tallboylaw29_works.mono | exact LeO.refl _ | exact LeO.none _ | refine LeO.ite ?_ ?_ | refine LeO.bind ?_ (fun _ => ?_)) | apply ih0 | apply frame_Unpack.mono | apply tallboylaw29_works.mono | exact LeO.none _ | refine LeO.ite ?_ ?_ | refine LeO.bind ?_ (fun _ => ?_)
theorem tallboylaw29_FrameBack.mono : ∀ a0 a1 a2 a3 a4 a5 a6 a7 a8 a9 k, LeO (tallboylaw29_FrameBack.f k a0 a1 a2 a3 a4 a5 a6 a7 a8 a9) (tallboylaw29_FrameBack.f (k + 1) a0 a1 a2 a3 a4 a5 a6 a7 a8 a9) := by
 intro a0 a1 a2 a3 a4 a5 a6 a7 a8 a9 k
 have ih0 := tallboylaw29_FrameBack.mono_l k; unfold tallboylaw29_FrameBack.f
 repeat' first | (with_reducible first | apply ih0 | apply frame_Unpack.mono | apply tallboylaw29_works.mono | exact LeO.refl _ | exact LeO.none _ | refine LeO.ite ?_ ?_ | refine LeO.bind ?_ (fun _ => ?_)) | apply ih0 | apply frame_Unpack.mono | apply tallboylaw29_works.mono | exact LeO.none _ | refine LeO.ite ?_ ?_ | refine LeO.bind ?_ (fun _ => ?_)
def tallboylaw29_FrameBack.T11 : Bool × List (List Nat × List Nat) := (true, [([], []), ([0], [0]), ([1], [1]), ([2], [2]), ([3, 2, 2], [2, 3]), ([2], [2]), ([4, 5, 2], [2, 4, 5]), ([2, 6], [2, 6]), ([7, 4], [7]), ([8], [8]), ([8], [8]), ([10, 8], [8, 10]), ([9, 11, 8], [8, 9, 11]), ([8, 12], [8, 12]), ([13, 8], [13]), ([14], [14]), ([15, 14], [14, 15]), ([14], [14]), ([17, 14], [14, 17]), ([18, 14], [14, 18]), ([19, 14], [14, 19]), ([14], [14]), ([21, 14], [14, 21]), ([22, 14], [14, 22]), ([20, 23, 14], [14, 20, 23]), ([14], [14]), ([25, 14], [14, 25]), ([26, 14], [14, 26]), ([24, 27, 14], [14, 24, 27]), ([16, 28, 14], [14, 16, 28]), ([14, 29], [14, 29]), ([30, 14], [30]), ([31], [31]), ([32, 31], [31, 32]), ([31, 33], [31, 33]), ([34, 31, 0, 1, 2, 3, 4, 5, 6, 7, 8, 9, 10, 11, 12, 13, 14, 15, 16, 17, 18, 19, 20, 21, 22, 23, 24, 25, 26, 27, 28, 29, 30, 31, 32, 33, 34], [34])])
def tallboylaw29_FrameBack.B11 : List Nat := [0, 1, 3, 7, 15, 7, 63, 127, 255, 511, 511, 1535, 4095, 8191, 16383, 32767, 65535, 32767, 163839, 425983, 950271, 32767, 2129919, 6324223, 16678911, 32767, 33587199, 100696063, 268337151, 536870911, 1073741823, 2147483647, 4294967295, 8589934591, 17179869183, 34359738367]
theorem tallboylaw29_FrameBack.tab11 : rtab .any (opsOf Try.f7 11) = tallboylaw29_FrameBack.T11 := by kernel_rfl
theorem tallboylaw29_FrameBack.bits11 : waitsOk tallboylaw29_FrameBack.T11.2 tallboylaw29_FrameBack.B11 = true := by kernel_rfl
theorem tallboylaw29_FrameBack.usz {n m : Nat} (h : (9223372036854775807 < n + m) = False) : IntKind.u64.wrap (n : Int) = (n : Int) := by
  have h := of_eq_false h
  rw [IntKind.wrap_u64]
  omega
set_option maxHeartbeats 8000000 in
set_option maxRecDepth 100000 in
theorem tallboylaw29_FrameBack.calls (k : Nat) (a0_0 : Bool) (a0_1 : Int) (a0_2 : Int) (a0_3 : Int) (a0_4 : Int) (a0_5 : ByteArray) (a0_6 : ByteArray) (a0_7 : ByteArray) (a1 : ByteArray) (a2 : Int) (r : Bool) (w : World) (h : tallboylaw29_FrameBack.f k a0_0 a0_1 a0_2 a0_3 a0_4 a0_5 a0_6 a0_7 a1 a2 = some r) :
  Calls Try.prog 7 #[.agg #[.bool a0_0, .int .u8 a0_1, .int .u16 a0_2, .int .u32 a0_3, .int .u64 a0_4, .string a0_5, .string a0_6, .string a0_7], .string a1, .int .i64 a2] w fun e w' => e = .returned (.bool r) ∧ Below w.heap.size w w' := by
 have hu26 := Try.underlying26; have hu31 := Try.underlying31; have HB := Aside0.mk (Below.refl w.heap.size w); have H : ((tallboylaw29_works.f k).bind fun t625 => (if t625 = true then ((tallboylaw29_Great.f a0_0 a0_1 a0_2 a0_3 a0_4 a0_5 a0_6 a0_7).bind fun t626 => (if t626 = true then (tallboylaw29_FrameBack.j0 k a1 a2 true a0_0 a0_1 a0_2 a0_3 a0_4 a0_5 a0_6 a0_7) else (tallboylaw29_FrameBack.j0 k a1 a2 (decide ((a1.size : Int) > 1000)) a0_0 a0_1 a0_2 a0_3 a0_4 a0_5 a0_6 a0_7))) else (none))) = some r := h; clear h; replace H := Option.bind_eq_some_iff.mp H; obtain ⟨t625, A40, H⟩ := H; (try dsimp only at H); have A4 := Aside0.mk A40; clear A40
 by_cases c5 : t625 = true
 ·subst c5; rw [if_pos rfl] at H; have HC6 := Aside0.mk H; clear H; go_enter Try.func7, Try.ntmps7
  go_upto_region 3 with (first | ((with_reducible refine gate_dst (N := 3) rfl ?_); (try (refine gate_guard (by rfl) ?_; dsimp only)); refine bE 3 #[.bool a0_0, .int .u8 a0_1, .int .u16 a0_2, .int .u32 a0_3, .int .u64 a0_4, .string a0_5, .string a0_6, .string a0_7] 26 rfl rfl ?_; intro gb624 hg w7 hbox hb; have BK624 := rM hbox; have GW624 := rG HB hg; replace HB := rS HB hb; have GE624 := GW624; clear hb hbox hg) | ((with_reducible refine gate_callee (f := 36) rfl ?_); refine gL (some 16) rfl rfl Try.func36 #[] rfl ?_; (with_reducible refine (tallboylaw29_works.calls k  true _ A4.out).mono ?_); rintro e w8 ⟨rfl, hb⟩; refine ⟨_, rfl, ?_⟩; replace BK624 := rB BK624 hb; replace HB := rS HB hb; (try clear hb); ))
  (try simp only [Act.put, sA, sB, sC])
  go_cut [24] (fun v24 wc => ∃ (kq : Nat) (x24_5 : Bool), v24 = .bool x24_5 ∧ Aside0 (tallboylaw29_FrameBack.j0 kq a1 a2 x24_5 a0_0 a0_1 a0_2 a0_3 a0_4 a0_5 a0_6 a0_7 = some r) ∧ Aside0 (kq ≤ k) ∧ Aside0 (wc.heap[gb624]? = some (.cells #[.bool a0_0, .int .u8 a0_1, .int .u16 a0_2, .int .u32 a0_3, .int .u64 a0_4, .string a0_5, .string a0_6, .string a0_7] 26 (0, 0))) ∧ Aside0 (Below w.heap.size w wc))
  case first =>
   have H := HC6.out; clear HC6; replace H := Option.bind_eq_some_iff.mp H; obtain ⟨t626, A90, H⟩ := H; (try dsimp only at H); have A9 := Aside0.mk A90; clear A90
   by_cases c10 : t626 = true
   ·subst c10; rw [if_pos rfl] at H; have H' := Aside0.mk H; clear H; obtain ⟨hcz11, hfz11⟩ := d8 BK624
    go_wp2_with (first | ((with_reducible refine gate_callee (f := 11) rfl ?_); refine gL (some 19) rfl rfl Try.func11 #[.agg #[.bool a0_0, .int .u8 a0_1, .int .u16 a0_2, .int .u32 a0_3, .int .u64 a0_4, .string a0_5, .string a0_6, .string a0_7]] rfl ?_; (with_reducible refine (tallboylaw29_Great.calls a0_0 a0_1 a0_2 a0_3 a0_4 a0_5 a0_6 a0_7 true _ A9.out).mono ?_); rintro e w12 ⟨rfl, hb⟩; refine ⟨_, rfl, ?_⟩; replace BK624 := rB BK624 hb; replace HB := rS HB hb; (try clear hb); ))
    go_meet
    case rel => exact ⟨_, (true), (by first | rfl | (simp; done) | (simp [*]; done)), H', ⟨by first | omega | exact Nat.le_refl _⟩, ⟨bK BK624.out⟩, ⟨bH HB.out⟩⟩
   ·replace c10 := Bool.eq_false_iff.mpr c10; subst c10; rw [if_neg (show ¬ (false = true) by decide)] at H; have H' := Aside0.mk H; clear H; obtain ⟨hcz13, hfz13⟩ := d8 BK624
    go_wp2_with (first | ((with_reducible refine gate_callee (f := 11) rfl ?_); refine gL (some 19) rfl rfl Try.func11 #[.agg #[.bool a0_0, .int .u8 a0_1, .int .u16 a0_2, .int .u32 a0_3, .int .u64 a0_4, .string a0_5, .string a0_6, .string a0_7]] rfl ?_; (with_reducible refine (tallboylaw29_Great.calls a0_0 a0_1 a0_2 a0_3 a0_4 a0_5 a0_6 a0_7 false _ A9.out).mono ?_); rintro e w14 ⟨rfl, hb⟩; refine ⟨_, rfl, ?_⟩; replace BK624 := rB BK624 hb; replace HB := rS HB hb; (try clear hb); ))
    go_meet
    case rel => exact ⟨_, (decide ((a1.size : Int) > 1000)), (by first | rfl | (simp; done) | (simp [*]; done)), H', ⟨by first | omega | exact Nat.le_refl _⟩, ⟨bK BK624.out⟩, ⟨bH HB.out⟩⟩
  case rest =>
   clear HC6; (try clear c5); (try clear c10); (try clear hcz11); (try clear hcz13); (try clear hfz11); (try clear hfz13); obtain ⟨kq, x24_5, rfl, HA, HJ5, BK624, HB⟩ := hcut; cases kq with
   | zero => exact absurd HA.out (by simp [tallboylaw29_FrameBack.j0])
   | succ kj5 =>
    have H := HA.out; clear HA; simp only [tallboylaw29_FrameBack.j0] at H
    by_cases c15 : x24_5 = true
    ·subst c15; rw [if_pos rfl] at H; obtain rfl := Option.some.inj H; go_wp2; go_ret
     exact ⟨xR, bH HB.out⟩
    ·replace c15 := Bool.eq_false_iff.mpr c15; subst c15; rw [if_neg (show ¬ (false = true) by decide)] at H; replace H := Option.bind_eq_some_iff.mp H; obtain ⟨⟨t627, t628, t629, t630, t631, t632, t633, t634⟩, A160, H⟩ := H; (try dsimp only at H); have A16 := Aside0.mk A160; clear A160; replace H := Option.bind_eq_some_iff.mp H; obtain ⟨⟨t635, t636⟩, A170, H⟩ := H
     (try dsimp only at H); have A17 := Aside0.mk A170; clear A170
     by_cases c18 : t636 = 0
     ·rw [if_pos c18] at H; have c18b0 : (t636 == 0) = true := beq_iff_eq.mpr c18; have c18b1 : (t636 != 0) = false := bne_eq_false_iff_eq.mpr c18; clear c18
      by_cases c19 : t635.size + a1.size ≤ 9223372036854775807
      ·rw [if_pos c19] at H; have c19b0 := eq_true c19; have c19b1 : decide (t635.size + a1.size ≤ 9223372036854775807) = true := decide_eq_true c19
       try have c19b2 : (9223372036854775807 < t635.size + a1.size) = False := eq_false (Nat.not_lt.2 c19)
       replace H := Option.bind_eq_some_iff.mp H; obtain ⟨⟨t637, t638, t639, t640, t641, t642, t643, t644, t645, t646⟩, A200, H⟩ := H; (try dsimp only at H); have A20 := Aside0.mk A200; clear A200
       by_cases c21 : (IntKind.u64.wrap ((t635.size : Int))) = 0
       ·rw [if_pos c21] at H; exact absurd H (by simp)
       ·rw [if_neg c21] at H; have c21e : (t635 = ByteArray.empty) = False := eq_false (fun h => c21 (by rw [h] <;> rfl)); have c21b0 : ((IntKind.u64.wrap ((t635.size : Int))) == 0) = false := beq_eq_false_iff_ne.mpr c21; have c21b1 : ((IntKind.u64.wrap ((t635.size : Int))) != 0) = true := bne_iff_ne.mpr c21; obtain ⟨ji22, hji22⟩ : ∃ j_ : Int, (wrap64 (Int.tmod (IntKind.u64.wrap (a2)) (IntKind.u64.wrap ((t635.size : Int))))) = j_ := ⟨_, rfl⟩; have hji22n : (wrap64 (Int.tmod (IntKind.u64.wrap (a2)) ((t635.size : Int)))) = ji22 := (by rw [← hji22, tallboylaw29_FrameBack.usz c19b2]); have hji22m : (IntKind.i64.wrap (Int.tmod (IntKind.u64.wrap (a2)) ((t635.size : Int)))) = ji22 := (i64_w _).trans hji22n; replace H : (if 0 ≤ (ji22) then (if (ji22) ≤ (t635.size : Int) then ((frame_Unpack.f kj5 (t635.extract 0 ((ji22) : Int).toNat)).bind fun bt648 => (if t646 = 0 then ((tallboylaw29_From.f t637 t638 t639 t640 t641 t642 t643 t644).bind fun bt659 => (if (bt659.1 == a0_0 && (bt659.2.1 == a0_1 && (bt659.2.2.1 == a0_2 && (bt659.2.2.2.1 == a0_3 && (bt659.2.2.2.2.1 == a0_4 && (bt659.2.2.2.2.2.1.toList == a0_5.toList && (bt659.2.2.2.2.2.2.1.toList == a0_6.toList && (bt659.2.2.2.2.2.2.2.toList == a0_7.toList)))))))) = true then (if t645 = (t635.size : Int) then (if (t635.size : Int) = (wrap64 ((wrap64 ((wrap64 (24 + (a0_5.size : Int))) + (a0_6.size : Int))) + (a0_7.size : Int))) then (some (bt648.2.2.2.2.2.2.2.2.2 == 3)) else (none)) else (none)) else (none))) else (none))) else (none)) else (none)) = some r := by first | (rw [hji22] at H; exact H) | (simp only [hji22] at H ⊢; exact H)
        (try rw [hji22] at A16)
        (try rw [hji22] at A17)
        (try rw [hji22] at A20)
        have hji22w : (IntKind.i64.wrap (Int.tmod (IntKind.u64.wrap (a2)) (IntKind.u64.wrap ((t635.size : Int))))) = ji22 := (i64_w _).trans hji22
        by_cases c23 : 0 ≤ (ji22)
        ·rw [if_pos c23] at H; have c23b0 := eq_true c23; have c23b1 : decide (0 ≤ (ji22)) = true := decide_eq_true c23; clear c23
         by_cases c24 : (ji22) ≤ (t635.size : Int)
         ·rw [if_pos c24] at H; have c24b0 := eq_true c24; have c24b1 : decide ((ji22) ≤ (t635.size : Int)) = true := decide_eq_true c24; clear c24; replace H := Option.bind_eq_some_iff.mp H; obtain ⟨⟨t648, t649, t650, t651, t652, t653, t654, t655, t656, t657⟩, A250, H⟩ := H; (try dsimp only at H); have A25 := Aside0.mk A250; clear A250
          by_cases c26 : t646 = 0
          ·rw [if_pos c26] at H; have c26b0 : (t646 == 0) = true := beq_iff_eq.mpr c26; have c26b1 : (t646 != 0) = false := bne_eq_false_iff_eq.mpr c26; clear c26; replace H := Option.bind_eq_some_iff.mp H; obtain ⟨⟨t659, t660, t661, t662, t663, t664, t665, t666⟩, A270, H⟩ := H; (try dsimp only at H); have A27 := Aside0.mk A270; clear A270
           by_cases c28 : (t659 == a0_0 && (t660 == a0_1 && (t661 == a0_2 && (t662 == a0_3 && (t663 == a0_4 && (t664.toList == a0_5.toList && (t665.toList == a0_6.toList && (t666.toList == a0_7.toList)))))))) = true
           ·rw [if_pos c28] at H; have c28b0 : (t659 == a0_0 && (t660 == a0_1 && (t661 == a0_2 && (t662 == a0_3 && (t663 == a0_4 && (t664.toList == a0_5.toList && (t665.toList == a0_6.toList && (t666.toList == a0_7.toList)))))))) = true := c28
            (try (have c28b1 : decide (t659 = a0_0 && (t660 == a0_1 && (t661 == a0_2 && (t662 == a0_3 && (t663 == a0_4 && (t664.toList == a0_5.toList && (t665.toList == a0_6.toList && (t666.toList == a0_7.toList)))))))) = true := by simpa using c28))
            (try (have c28b2 : (t659 == a0_0 && (t660 == a0_1 && (t661 == a0_2 && (t662 == a0_3 && (t663 == a0_4 && (t664.toList == a0_5.toList && (t665.toList == a0_6.toList && (t666.toList == a0_7.toList)))))))) = true := by simpa using c28))
            clear c28
            by_cases c29 : t645 = (t635.size : Int)
            ·rw [if_pos c29] at H; have c29b0 : (t645 == (t635.size : Int)) = true := beq_iff_eq.mpr c29; have c29b1 : (t645 != (t635.size : Int)) = false := bne_eq_false_iff_eq.mpr c29; clear c29
             by_cases c30 : (t635.size : Int) = (wrap64 ((wrap64 ((wrap64 (24 + (a0_5.size : Int))) + (a0_6.size : Int))) + (a0_7.size : Int)))
             ·rw [if_pos c30] at H; have c30b0 : ((t635.size : Int) == (wrap64 ((wrap64 ((wrap64 (24 + (a0_5.size : Int))) + (a0_6.size : Int))) + (a0_7.size : Int)))) = true := beq_iff_eq.mpr c30; have c30b1 : ((t635.size : Int) != (wrap64 ((wrap64 ((wrap64 (24 + (a0_5.size : Int))) + (a0_6.size : Int))) + (a0_7.size : Int)))) = false := bne_eq_false_iff_eq.mpr c30; clear c30; obtain rfl := Option.some.inj H; obtain ⟨hcz31, hfz31⟩ := d8 BK624
              try go_wp2_with (first | ((with_reducible refine gate_callee (f := 13) rfl ?_); refine gL (some 27) rfl rfl Try.func13 #[.agg #[.bool a0_0, .int .u8 a0_1, .int .u16 a0_2, .int .u32 a0_3, .int .u64 a0_4, .string a0_5, .string a0_6, .string a0_7]] rfl ?_; (with_reducible refine (tallboylaw29_To.calls a0_0 a0_1 a0_2 a0_3 a0_4 a0_5 a0_6 a0_7 t627 t628 t629 t630 t631 t632 t633 t634 _ A16.out).mono ?_); rintro e w32 ⟨rfl, hb⟩; refine ⟨_, rfl, ?_⟩; replace BK624 := rB BK624 hb; replace HB := rS HB hb; (try clear hb); ) | ((with_reducible refine gate_callee (f := 12) rfl ?_); refine gL (some 28) rfl rfl Try.func12 #[.agg #[.bool t627, .int .u8 t628, .int .u16 t629, .int .u32 t630, .int .u64 t631, .string t632, .string t633, .string t634]] rfl ?_; (with_reducible refine (frame_Pack.calls t627 t628 t629 t630 t631 t632 t633 t634 t635 t636 _ A17.out).mono ?_); rintro e w33 ⟨rfl, hb⟩; refine ⟨_, rfl, ?_⟩; replace BK624 := rB BK624 hb; replace HB := rS HB hb; (try clear hb); ) | ((with_reducible refine gate_callee (f := 15) rfl ?_); refine gL (some 43) rfl rfl Try.func15 #[.string (t635 ++ a1)] rfl ?_; (with_reducible refine (frame_Unpack.calls kj5 (t635 ++ a1) t637 t638 t639 t640 t641 t642 t643 t644 t645 t646 _ A20.out).mono ?_); rintro e w34 ⟨rfl, hb⟩; refine ⟨_, rfl, ?_⟩; replace BK624 := rB BK624 hb; replace HB := rS HB hb; (try clear hb); ) | ((with_reducible refine gate_dst (N := 9) rfl ?_); (try (refine gate_guard (by rfl) ?_; dsimp only)); refine bE 9 #[.bool false, .int .u8 0, .int .u16 0, .int .u32 0, .int .u64 0, .string (⟨#[]⟩ : ByteArray), .string (⟨#[]⟩ : ByteArray), .string (⟨#[]⟩ : ByteArray)] 31 rfl rfl ?_; intro gb647 hg w35 hbox hb; have BK647 := rM hbox; have GW647 := rG HB hg; replace HB := rS HB hb; have GE647 := GW647; have NB624_647 := rN BK624 hg; replace BK624 := rB BK624 hb; have NB647_624 := rY NB624_647; clear hb hbox hg; have hnb36 := rP NB647_624 NB624_647; obtain ⟨hcz37, hfz37⟩ := d8 BK647) | ((with_reducible refine gate_callee (f := 15) rfl ?_); refine goesL_ (some 58) rfl rfl Try.func15 (by kernel_rfl) rfl #[.string (t635.extract 0 ((ji22) : Int).toNat)] rfl (by (try simp only [List.map_toArray, List.map_cons, List.map_nil]); first | done | (simp only [hji22]; rfl) | rfl | (simp only [List.length_drop, List.length_take]; rfl)) ?_; (with_reducible refine (frame_Unpack.calls kj5 (t635.extract 0 ((ji22) : Int).toNat) t648 t649 t650 t651 t652 t653 t654 t655 t656 t657 _ A25.out).mono ?_); rintro e w38 ⟨rfl, hb⟩; refine ⟨_, rfl, ?_⟩; replace BK624 := rB BK624 hb; replace BK647 := Aside0.mk (blk_below (g := gb647) (o := .cells #[.bool t637, .int .u8 t638, .int .u16 t639, .int .u32 t640, .int .u64 t641, .string t642, .string t643, .string t644] 31 (0, 0)) (bV BK647.out) hb); replace HB := rS HB hb; (try clear hb); ) | ((with_reducible refine gate_dst (N := 13) rfl ?_); (try (refine gate_guard (by rfl) ?_; dsimp only)); refine bE 13 #[.bool false, .int .u8 0, .int .u16 0, .int .u32 0, .int .u64 0, .string (⟨#[]⟩ : ByteArray), .string (⟨#[]⟩ : ByteArray), .string (⟨#[]⟩ : ByteArray)] 31 rfl rfl ?_; intro gb658 hg w39 hbox hb; have BK658 := rM hbox; have GW658 := rG HB hg; replace HB := rS HB hb; have GE658 := GW658; have NB624_658 := rN BK624 hg; replace BK624 := rB BK624 hb; have NB658_624 := rY NB624_658; have NB647_658 := rN BK647 hg; replace BK647 := rB BK647 hb; have NB658_647 := rY NB647_658; clear hb hbox hg; have hnb40 := rP NB658_624 NB624_658; have hnb41 := rP NB658_647 NB647_658; obtain ⟨hcz42, hfz42⟩ := d8 BK658))
              have n0_ : Aside0 (((((((((w39.setCell ⟨gb658, 0, none⟩ (.bool t648)).setCell ⟨gb658, 1, none⟩ (.int .u8 t649)).setCell ⟨gb658, 2, none⟩ (.int .u16 t650)).setCell ⟨gb658, 3, none⟩ (.int .u32 t651)).setCell ⟨gb658, 4, none⟩ (.int .u64 t652)).setCell ⟨gb658, 5, none⟩ (.string t653)).setCell ⟨gb658, 6, none⟩ (.string t654)).setCell ⟨gb658, 7, none⟩ (.string t655)).heap[gb624]? = some (.cells #[.bool a0_0, .int .u8 a0_1, .int .u16 a0_2, .int .u32 a0_3, .int .u64 a0_4, .string a0_5, .string a0_6, .string a0_7] 26 (0, 0))) := ⟨bK BK624.out⟩
              have n1_ : Aside0 (((((((((w39.setCell ⟨gb658, 0, none⟩ (.bool t648)).setCell ⟨gb658, 1, none⟩ (.int .u8 t649)).setCell ⟨gb658, 2, none⟩ (.int .u16 t650)).setCell ⟨gb658, 3, none⟩ (.int .u32 t651)).setCell ⟨gb658, 4, none⟩ (.int .u64 t652)).setCell ⟨gb658, 5, none⟩ (.string t653)).setCell ⟨gb658, 6, none⟩ (.string t654)).setCell ⟨gb658, 7, none⟩ (.string t655)).heap[gb647]? = some (.cells #[.bool t637, .int .u8 t638, .int .u16 t639, .int .u32 t640, .int .u64 t641, .string t642, .string t643, .string t644] 31 (0, 0))) := ⟨bK BK647.out⟩
              have n2_ : Aside0 (((((((((w39.setCell ⟨gb658, 0, none⟩ (.bool t648)).setCell ⟨gb658, 1, none⟩ (.int .u8 t649)).setCell ⟨gb658, 2, none⟩ (.int .u16 t650)).setCell ⟨gb658, 3, none⟩ (.int .u32 t651)).setCell ⟨gb658, 4, none⟩ (.int .u64 t652)).setCell ⟨gb658, 5, none⟩ (.string t653)).setCell ⟨gb658, 6, none⟩ (.string t654)).setCell ⟨gb658, 7, none⟩ (.string t655)).heap[gb658]? = some (.cells #[.bool t648, .int .u8 t649, .int .u16 t650, .int .u32 t651, .int .u64 t652, .string t653, .string t654, .string t655] 31 (0, 0))) := ⟨bV BK658.out⟩
              have n3_ : Aside0 (Below w.heap.size w ((((((((w39.setCell ⟨gb658, 0, none⟩ (.bool t648)).setCell ⟨gb658, 1, none⟩ (.int .u8 t649)).setCell ⟨gb658, 2, none⟩ (.int .u16 t650)).setCell ⟨gb658, 3, none⟩ (.int .u32 t651)).setCell ⟨gb658, 4, none⟩ (.int .u64 t652)).setCell ⟨gb658, 5, none⟩ (.string t653)).setCell ⟨gb658, 6, none⟩ (.string t654)).setCell ⟨gb658, 7, none⟩ (.string t655))) := ⟨bH HB.out⟩
              (try clear BK624)
              (try clear BK647)
              (try clear BK658)
              (try clear HB)
              generalize ((((((((w39.setCell ⟨gb658, 0, none⟩ (.bool t648)).setCell ⟨gb658, 1, none⟩ (.int .u8 t649)).setCell ⟨gb658, 2, none⟩ (.int .u16 t650)).setCell ⟨gb658, 3, none⟩ (.int .u32 t651)).setCell ⟨gb658, 4, none⟩ (.int .u64 t652)).setCell ⟨gb658, 5, none⟩ (.string t653)).setCell ⟨gb658, 6, none⟩ (.string t654)).setCell ⟨gb658, 7, none⟩ (.string t655)) = w43 at n0_ n1_ n2_ n3_ ⊢; have BK624 := n0_; have BK647 := n1_; have BK658 := n2_; have HB := n3_; clear n0_ n1_ n2_ n3_; replace BK624 := Aside0.mk (bD BK624.out); replace BK647 := Aside0.mk (bD BK647.out); replace BK658 := Aside0.mk (bD BK658.out); replace HB := Aside0.mk (eD HB.out); refine start_ (n := 36) (S := fun w' => w'.cell? ⟨gb647, 0, none⟩ = some (.bool t637) ∧ w'.cell? ⟨gb647, 1, none⟩ = some (.int .u8 t638) ∧ w'.cell? ⟨gb647, 2, none⟩ = some (.int .u16 t639) ∧ w'.cell? ⟨gb647, 3, none⟩ = some (.int .u32 t640) ∧ w'.cell? ⟨gb647, 4, none⟩ = some (.int .u64 t641) ∧ w'.cell? ⟨gb647, 5, none⟩ = some (.string t642) ∧ w'.cell? ⟨gb647, 6, none⟩ = some (.string t643) ∧ w'.cell? ⟨gb647, 7, none⟩ = some (.string t644) ∧ w'.cell? ⟨gb624, 0, none⟩ = some (.bool a0_0) ∧ w'.cell? ⟨gb624, 1, none⟩ = some (.int .u8 a0_1) ∧ w'.cell? ⟨gb624, 2, none⟩ = some (.int .u16 a0_2) ∧ w'.cell? ⟨gb624, 3, none⟩ = some (.int .u32 a0_3) ∧ w'.cell? ⟨gb624, 4, none⟩ = some (.int .u64 a0_4) ∧ w'.cell? ⟨gb624, 5, none⟩ = some (.string a0_5) ∧ w'.cell? ⟨gb624, 6, none⟩ = some (.string a0_6) ∧ w'.cell? ⟨gb624, 7, none⟩ = some (.string a0_7)) (ds := []) #[false, false, false, false, false, false, false, false, false, false, false, false, false, false, false, false, false, false, false, false, false, false, false, false, false, false, false, false, false, false, false, false, false, false, false, false] (by kernel_rfl) rfl rfl ⟨kC BK647 0, kC BK647 1, kC BK647 2, kC BK647 3, kC BK647 4, kC BK647 5, kC BK647 6, kC BK647 7, kC BK624 0, kC BK624 1, kC BK624 2, kC BK624 3, kC BK624 4, kC BK624 5, kC BK624 6, kC BK624 7⟩ (fun hHeld => ?_); refine with_tabW tallboylaw29_FrameBack.tab11 tallboylaw29_FrameBack.bits11 (fun HT_ HW_ => ?_)
              generalize w43.drew = w44 at BK624 BK647 BK658 HB hHeld ⊢; refine pU HT_ 0 (some 62) ?_ #[true, false, false, false, false, false, false, false, false, false, false, false, false, false, false, false, false, false, false, false, false, false, false, false, false, false, false, false, false, false, false, false, false, false, false, false] rfl rfl ?_ ?_ ?_ ?_
              rotate_left
              ·intro w'
               go_simp
               with_reducible rfl
              rotate_left
              ·simp only [Act.put, sA, sB, sC, i64_w, i32_w]
               rfl
              refine pU HT_ 1 (some 63) ?_ #[true, true, false, false, false, false, false, false, false, false, false, false, false, false, false, false, false, false, false, false, false, false, false, false, false, false, false, false, false, false, false, false, false, false, false, false] rfl rfl ?_ ?_ ?_ ?_
              rotate_left
              ·intro w'
               go_simp
               with_reducible rfl
              rotate_left
              ·simp only [Act.put, sA, sB, sC, i64_w, i32_w]
               rfl
              refine pU HT_ 2 (some 64) ?_ #[true, true, true, false, false, false, false, false, false, false, false, false, false, false, false, false, false, false, false, false, false, false, false, false, false, false, false, false, false, false, false, false, false, false, false, false] rfl rfl ?_ ?_ ?_ ?_
              rotate_left
              ·intro w'
               go_simp
               with_reducible rfl
              rotate_left
              ·simp only [Act.put, sA, sB, sC, i64_w, i32_w]
               rfl
              refine tU HT_ HW_ hHeld 3 (some 65) ?_ #[true, true, true, true, false, false, false, false, false, false, false, false, false, false, false, false, false, false, false, false, false, false, false, false, false, false, false, false, false, false, false, false, false, false, false, false] rfl rfl ?_ ?_ ?_ ?_
              rotate_left
              ·rintro w' ⟨s0, s1, s2, s3, s4, s5, s6, s7, s8, s9, s10, s11, s12, s13, s14, s15⟩
               go_simp
               with_reducible rfl
              rotate_left
              ·simp only [Act.put, sA, sB, sC, i64_w, i32_w]
               rfl
              refine tU HT_ HW_ hHeld 5 (some 67) ?_ #[true, true, true, true, false, true, false, false, false, false, false, false, false, false, false, false, false, false, false, false, false, false, false, false, false, false, false, false, false, false, false, false, false, false, false, false] rfl rfl ?_ ?_ ?_ ?_
              rotate_left
              ·rintro w' ⟨s0, s1, s2, s3, s4, s5, s6, s7, s8, s9, s10, s11, s12, s13, s14, s15⟩
               go_simp
               with_reducible rfl
              rotate_left
              ·simp only [Act.put, sA, sB, sC, i64_w, i32_w]
               rfl
              refine one_ (i := 4) (N := some 66) #[true, true, true, true, true, true, false, false, false, false, false, false, false, false, false, false, false, false, false, false, false, false, false, false, false, false, false, false, false, false, false, false, false, false, false, false] rfl rfl (one_of HT_.out (by kernel_rfl)) (by decide) (fun K hK => ?_)
              refine goes_ Try.func17 (by kernel_rfl) rfl #[.agg #[.bool t637, .int .u8 t638, .int .u16 t639, .int .u32 t640, .int .u64 t641, .string t642, .string t643, .string t644]] (by rfl) rfl rfl (by (try simp only [List.map_toArray, List.map_cons, List.map_nil]); first | done | rfl | (simp only [List.length_drop, List.length_take]; rfl)) ?_
              with_reducible refine (tallboylaw29_From.calls t637 t638 t639 t640 t641 t642 t643 t644 t659 t660 t661 t662 t663 t664 t665 t666 _ A27.out).mono ?_
              rintro e w45 ⟨rfl, hb⟩
              refine ⟨_, rfl, ?_⟩
              replace BK624 := rB BK624 hb; replace BK647 := rB BK647 hb; replace BK658 := rB BK658 hb; replace HB := rS HB hb
              (try clear hb)
              
              
              
              refine hK.out _ _ ⟨kC BK647 0, kC BK647 1, kC BK647 2, kC BK647 3, kC BK647 4, kC BK647 5, kC BK647 6, kC BK647 7, kC BK624 0, kC BK624 1, kC BK624 2, kC BK624 3, kC BK624 4, kC BK624 5, kC BK624 6, kC BK624 7⟩ (fun hHeld => ?_)
              clear hK K; refine norm_ (a' := ?_) ?_ ?_
              rotate_left
              ·show Act.put _ (some 66) _ = _
               simp only [Act.put, sA, sB, sC, i64_w, i32_w]
               rfl
              refine pU HT_ 6 (some 68) ?_ #[true, true, true, true, true, true, true, false, false, false, false, false, false, false, false, false, false, false, false, false, false, false, false, false, false, false, false, false, false, false, false, false, false, false, false, false] rfl rfl ?_ ?_ ?_ ?_
              rotate_left
              ·intro w'
               go_simp
               with_reducible rfl
              rotate_left
              ·simp only [Act.put, sA, sB, sC, i64_w, i32_w]
               rfl
              refine pU HT_ 7 (some 69) ?_ #[true, true, true, true, true, true, true, true, false, false, false, false, false, false, false, false, false, false, false, false, false, false, false, false, false, false, false, false, false, false, false, false, false, false, false, false] rfl rfl ?_ ?_ ?_ ?_
              rotate_left
              ·intro w'
               go_simp
               with_reducible rfl
              rotate_left
              ·simp only [Act.put, sA, sB, sC, i64_w, i32_w]
               rfl
              refine pU HT_ 8 (some 70) ?_ #[true, true, true, true, true, true, true, true, true, false, false, false, false, false, false, false, false, false, false, false, false, false, false, false, false, false, false, false, false, false, false, false, false, false, false, false] rfl rfl ?_ ?_ ?_ ?_
              rotate_left
              ·intro w'
               go_simp
               with_reducible rfl
              rotate_left
              ·simp only [Act.put, sA, sB, sC, i64_w, i32_w]
               rfl
              refine pU HT_ 9 (some 71) ?_ #[true, true, true, true, true, true, true, true, true, true, false, false, false, false, false, false, false, false, false, false, false, false, false, false, false, false, false, false, false, false, false, false, false, false, false, false] rfl rfl ?_ ?_ ?_ ?_
              rotate_left
              ·intro w'
               go_simp
               with_reducible rfl
              rotate_left
              ·simp only [Act.put, sA, sB, sC, i64_w, i32_w]
               rfl
              refine pU HT_ 10 (some 72) ?_ #[true, true, true, true, true, true, true, true, true, true, true, false, false, false, false, false, false, false, false, false, false, false, false, false, false, false, false, false, false, false, false, false, false, false, false, false] rfl rfl ?_ ?_ ?_ ?_
              rotate_left
              ·intro w'
               go_simp
               with_reducible rfl
              rotate_left
              ·simp only [Act.put, sA, sB, sC, i64_w, i32_w]
               rfl
              refine pU HT_ 11 (some 73) ?_ #[true, true, true, true, true, true, true, true, true, true, true, true, false, false, false, false, false, false, false, false, false, false, false, false, false, false, false, false, false, false, false, false, false, false, false, false] rfl rfl ?_ ?_ ?_ ?_
              rotate_left
              ·intro w'
               go_simp
               with_reducible rfl
              rotate_left
              ·simp only [Act.put, sA, sB, sC, i64_w, i32_w]
               rfl
              refine pU HT_ 12 (some 74) ?_ #[true, true, true, true, true, true, true, true, true, true, true, true, true, false, false, false, false, false, false, false, false, false, false, false, false, false, false, false, false, false, false, false, false, false, false, false] rfl rfl ?_ ?_ ?_ ?_
              rotate_left
              ·intro w'
               go_simp
               with_reducible rfl
              rotate_left
              ·simp only [Act.put, sA, sB, sC, i64_w, i32_w]
               rfl
              refine pU HT_ 13 (some 75) ?_ #[true, true, true, true, true, true, true, true, true, true, true, true, true, true, false, false, false, false, false, false, false, false, false, false, false, false, false, false, false, false, false, false, false, false, false, false] rfl rfl ?_ ?_ ?_ ?_
              rotate_left
              ·intro w'
               go_simp
               with_reducible rfl
              rotate_left
              ·simp only [Act.put, sA, sB, sC, i64_w, i32_w]
               rfl
              refine pU HT_ 14 (some 76) ?_ #[true, true, true, true, true, true, true, true, true, true, true, true, true, true, true, false, false, false, false, false, false, false, false, false, false, false, false, false, false, false, false, false, false, false, false, false] rfl rfl ?_ ?_ ?_ ?_
              rotate_left
              ·intro w'
               go_simp
               with_reducible rfl
              rotate_left
              ·simp only [Act.put, sA, sB, sC, i64_w, i32_w]
               rfl
              refine pU HT_ 15 (some 77) ?_ #[true, true, true, true, true, true, true, true, true, true, true, true, true, true, true, true, false, false, false, false, false, false, false, false, false, false, false, false, false, false, false, false, false, false, false, false] rfl rfl ?_ ?_ ?_ ?_
              rotate_left
              ·intro w'
               go_simp
               with_reducible rfl
              rotate_left
              ·simp only [Act.put, sA, sB, sC, i64_w, i32_w]
               rfl
              refine pU HT_ 16 (some 78) ?_ #[true, true, true, true, true, true, true, true, true, true, true, true, true, true, true, true, true, false, false, false, false, false, false, false, false, false, false, false, false, false, false, false, false, false, false, false] rfl rfl ?_ ?_ ?_ ?_
              rotate_left
              ·intro w'
               go_simp
               with_reducible rfl
              rotate_left
              ·simp only [Act.put, sA, sB, sC, i64_w, i32_w]
               rfl
              refine pU HT_ 17 (some 79) ?_ #[true, true, true, true, true, true, true, true, true, true, true, true, true, true, true, true, true, true, false, false, false, false, false, false, false, false, false, false, false, false, false, false, false, false, false, false] rfl rfl ?_ ?_ ?_ ?_
              rotate_left
              ·intro w'
               go_simp
               with_reducible rfl
              rotate_left
              ·simp only [Act.put, sA, sB, sC, i64_w, i32_w]
               rfl
              refine pU HT_ 21 (some 83) ?_ #[true, true, true, true, true, true, true, true, true, true, true, true, true, true, true, true, true, true, false, false, false, true, false, false, false, false, false, false, false, false, false, false, false, false, false, false] rfl rfl ?_ ?_ ?_ ?_
              rotate_left
              ·intro w'
               go_simp
               with_reducible rfl
              rotate_left
              ·simp only [Act.put, sA, sB, sC, i64_w, i32_w]
               rfl
              refine pU HT_ 25 (some 87) ?_ #[true, true, true, true, true, true, true, true, true, true, true, true, true, true, true, true, true, true, false, false, false, true, false, false, false, true, false, false, false, false, false, false, false, false, false, false] rfl rfl ?_ ?_ ?_ ?_
              rotate_left
              ·intro w'
               go_simp
               with_reducible rfl
              rotate_left
              ·simp only [Act.put, sA, sB, sC, i64_w, i32_w]
               rfl
              refine tU HT_ HW_ hHeld 18 (some 80) ?_ #[true, true, true, true, true, true, true, true, true, true, true, true, true, true, true, true, true, true, true, false, false, true, false, false, false, true, false, false, false, false, false, false, false, false, false, false] rfl rfl ?_ ?_ ?_ ?_
              rotate_left
              ·rintro w' ⟨s0, s1, s2, s3, s4, s5, s6, s7, s8, s9, s10, s11, s12, s13, s14, s15⟩
               go_simp
               with_reducible rfl
              rotate_left
              ·simp only [Act.put, sA, sB, sC, i64_w, i32_w]
               rfl
              refine pU HT_ 19 (some 81) ?_ #[true, true, true, true, true, true, true, true, true, true, true, true, true, true, true, true, true, true, true, true, false, true, false, false, false, true, false, false, false, false, false, false, false, false, false, false] rfl rfl ?_ ?_ ?_ ?_
              rotate_left
              ·intro w'
               go_simp
               with_reducible rfl
              rotate_left
              ·simp only [Act.put, sA, sB, sC, i64_w, i32_w]
               rfl
              refine pU HT_ 20 (some 82) ?_ #[true, true, true, true, true, true, true, true, true, true, true, true, true, true, true, true, true, true, true, true, true, true, false, false, false, true, false, false, false, false, false, false, false, false, false, false] rfl rfl ?_ ?_ ?_ ?_
              rotate_left
              ·intro w'
               go_simp
               with_reducible rfl
              rotate_left
              ·simp only [Act.put, sA, sB, sC, i64_w, i32_w]
               rfl
              refine tU HT_ HW_ hHeld 22 (some 84) ?_ #[true, true, true, true, true, true, true, true, true, true, true, true, true, true, true, true, true, true, true, true, true, true, true, false, false, true, false, false, false, false, false, false, false, false, false, false] rfl rfl ?_ ?_ ?_ ?_
              rotate_left
              ·rintro w' ⟨s0, s1, s2, s3, s4, s5, s6, s7, s8, s9, s10, s11, s12, s13, s14, s15⟩
               go_simp
               with_reducible rfl
              rotate_left
              ·simp only [Act.put, sA, sB, sC, i64_w, i32_w]
               rfl
              refine pU HT_ 23 (some 85) ?_ #[true, true, true, true, true, true, true, true, true, true, true, true, true, true, true, true, true, true, true, true, true, true, true, true, false, true, false, false, false, false, false, false, false, false, false, false] rfl rfl ?_ ?_ ?_ ?_
              rotate_left
              ·intro w'
               go_simp
               with_reducible rfl
              rotate_left
              ·simp only [Act.put, sA, sB, sC, i64_w, i32_w]
               rfl
              refine pU HT_ 24 (some 86) ?_ #[true, true, true, true, true, true, true, true, true, true, true, true, true, true, true, true, true, true, true, true, true, true, true, true, true, true, false, false, false, false, false, false, false, false, false, false] rfl rfl ?_ ?_ ?_ ?_
              rotate_left
              ·intro w'
               go_simp
               with_reducible rfl
              rotate_left
              ·simp only [Act.put, sA, sB, sC, i64_w, i32_w]
               rfl
              refine tU HT_ HW_ hHeld 26 (some 88) ?_ #[true, true, true, true, true, true, true, true, true, true, true, true, true, true, true, true, true, true, true, true, true, true, true, true, true, true, true, false, false, false, false, false, false, false, false, false] rfl rfl ?_ ?_ ?_ ?_
              rotate_left
              ·rintro w' ⟨s0, s1, s2, s3, s4, s5, s6, s7, s8, s9, s10, s11, s12, s13, s14, s15⟩
               go_simp
               with_reducible rfl
              rotate_left
              ·simp only [Act.put, sA, sB, sC, i64_w, i32_w]
               rfl
              refine pU HT_ 27 (some 89) ?_ #[true, true, true, true, true, true, true, true, true, true, true, true, true, true, true, true, true, true, true, true, true, true, true, true, true, true, true, true, false, false, false, false, false, false, false, false] rfl rfl ?_ ?_ ?_ ?_
              rotate_left
              ·intro w'
               go_simp
               with_reducible rfl
              rotate_left
              ·simp only [Act.put, sA, sB, sC, i64_w, i32_w]
               rfl
              refine pU HT_ 28 (some 90) ?_ #[true, true, true, true, true, true, true, true, true, true, true, true, true, true, true, true, true, true, true, true, true, true, true, true, true, true, true, true, true, false, false, false, false, false, false, false] rfl rfl ?_ ?_ ?_ ?_
              rotate_left
              ·intro w'
               go_simp
               with_reducible rfl
              rotate_left
              ·simp only [Act.put, sA, sB, sC, i64_w, i32_w]
               rfl
              refine pU HT_ 29 (some 91) ?_ #[true, true, true, true, true, true, true, true, true, true, true, true, true, true, true, true, true, true, true, true, true, true, true, true, true, true, true, true, true, true, false, false, false, false, false, false] rfl rfl ?_ ?_ ?_ ?_
              rotate_left
              ·intro w'
               go_simp
               with_reducible rfl
              rotate_left
              ·simp only [Act.put, sA, sB, sC, i64_w, i32_w]
               rfl
              refine pU HT_ 30 (some 92) ?_ #[true, true, true, true, true, true, true, true, true, true, true, true, true, true, true, true, true, true, true, true, true, true, true, true, true, true, true, true, true, true, true, false, false, false, false, false] rfl rfl ?_ ?_ ?_ ?_
              rotate_left
              ·intro w'
               go_simp
               with_reducible rfl
              rotate_left
              ·simp only [Act.put, sA, sB, sC, i64_w, i32_w]
               rfl
              refine pU HT_ 31 (some 93) ?_ #[true, true, true, true, true, true, true, true, true, true, true, true, true, true, true, true, true, true, true, true, true, true, true, true, true, true, true, true, true, true, true, true, false, false, false, false] rfl rfl ?_ ?_ ?_ ?_
              rotate_left
              ·intro w'
               go_simp
               with_reducible rfl
              rotate_left
              ·simp only [Act.put, sA, sB, sC, i64_w, i32_w]
               rfl
              refine pU HT_ 32 (some 94) ?_ #[true, true, true, true, true, true, true, true, true, true, true, true, true, true, true, true, true, true, true, true, true, true, true, true, true, true, true, true, true, true, true, true, true, false, false, false] rfl rfl ?_ ?_ ?_ ?_
              rotate_left
              ·intro w'
               go_simp
               with_reducible rfl
              rotate_left
              ·simp only [Act.put, sA, sB, sC, i64_w, i32_w]
               rfl
              refine pU HT_ 33 (some 95) ?_ #[true, true, true, true, true, true, true, true, true, true, true, true, true, true, true, true, true, true, true, true, true, true, true, true, true, true, true, true, true, true, true, true, true, true, false, false] rfl rfl ?_ ?_ ?_ ?_
              rotate_left
              ·intro w'
               go_simp
               with_reducible rfl
              rotate_left
              ·simp only [Act.put, sA, sB, sC, i64_w, i32_w]
               rfl
              refine pU HT_ 34 (some 96) ?_ #[true, true, true, true, true, true, true, true, true, true, true, true, true, true, true, true, true, true, true, true, true, true, true, true, true, true, true, true, true, true, true, true, true, true, true, false] rfl rfl ?_ ?_ ?_ ?_
              rotate_left
              ·intro w'
               go_simp
               with_reducible rfl
              rotate_left
              ·simp only [Act.put, sA, sB, sC, i64_w, i32_w]
               rfl
              refine pU HT_ 35 (some 6) ?_ #[true, true, true, true, true, true, true, true, true, true, true, true, true, true, true, true, true, true, true, true, true, true, true, true, true, true, true, true, true, true, true, true, true, true, true, true] rfl rfl ?_ ?_ ?_ ?_
              rotate_left
              ·intro w'
               go_simp
               with_reducible rfl
              rotate_left
              ·simp only [Act.put, sA, sB, sC, i64_w, i32_w]
               rfl
              refine done_ (done_of HT_.out (by kernel_rfl)) ?_
              try go_wp2
              go_ret
              exact ⟨by first | rfl | (simp [errW_none, errW_some] <;> rfl) | (simp only [← hji22]; first | rfl | (simp [errW_none, errW_some] <;> rfl)) | (simp [*, errW_none, errW_some] <;> rfl), bH HB.out⟩
             ·rw [if_neg c30] at H; have c30b0 : ((t635.size : Int) == (wrap64 ((wrap64 ((wrap64 (24 + (a0_5.size : Int))) + (a0_6.size : Int))) + (a0_7.size : Int)))) = false := beq_eq_false_iff_ne.mpr c30; have c30b1 : ((t635.size : Int) != (wrap64 ((wrap64 ((wrap64 (24 + (a0_5.size : Int))) + (a0_6.size : Int))) + (a0_7.size : Int)))) = true := bne_iff_ne.mpr c30; exact absurd H (by simp)
            ·rw [if_neg c29] at H; have c29b0 : (t645 == (t635.size : Int)) = false := beq_eq_false_iff_ne.mpr c29; have c29b1 : (t645 != (t635.size : Int)) = true := bne_iff_ne.mpr c29; exact absurd H (by simp)
           ·rw [if_neg c28] at H; have c28b0 : (t659 == a0_0 && (t660 == a0_1 && (t661 == a0_2 && (t662 == a0_3 && (t663 == a0_4 && (t664.toList == a0_5.toList && (t665.toList == a0_6.toList && (t666.toList == a0_7.toList)))))))) = false := by simpa using c28
            (try (have c28b1 : decide (t659 = a0_0 && (t660 == a0_1 && (t661 == a0_2 && (t662 == a0_3 && (t663 == a0_4 && (t664.toList == a0_5.toList && (t665.toList == a0_6.toList && (t666.toList == a0_7.toList)))))))) = false := by simpa using c28))
            (try (have c28b2 : (t659 == a0_0 && (t660 == a0_1 && (t661 == a0_2 && (t662 == a0_3 && (t663 == a0_4 && (t664.toList == a0_5.toList && (t665.toList == a0_6.toList && (t666.toList == a0_7.toList)))))))) = false := by simpa using c28))
            (try (have c28b3 : ¬ (t659 = a0_0 && (t660 == a0_1 && (t661 == a0_2 && (t662 == a0_3 && (t663 == a0_4 && (t664.toList == a0_5.toList && (t665.toList == a0_6.toList && (t666.toList == a0_7.toList)))))))) := by simpa using c28))
            clear c28; exact absurd H (by simp)
          ·rw [if_neg c26] at H; have c26b0 : (t646 == 0) = false := beq_eq_false_iff_ne.mpr c26; have c26b1 : (t646 != 0) = true := bne_iff_ne.mpr c26; exact absurd H (by simp)
         ·rw [if_neg c24] at H; exact absurd H (by simp)
        ·rw [if_neg c23] at H; exact absurd H (by simp)
      ·rw [if_neg c19] at H; exact absurd H (by simp)
     ·rw [if_neg c18] at H; have c18b0 : (t636 == 0) = false := beq_eq_false_iff_ne.mpr c18; have c18b1 : (t636 != 0) = true := bne_iff_ne.mpr c18
      by_cases c46 : t636 = 7
      ·rw [if_pos c46] at H; have c46b0 : (t636 == 7) = true := beq_iff_eq.mpr c46; have c46b1 : (t636 != 7) = false := bne_eq_false_iff_eq.mpr c46; clear c46; obtain rfl := Option.some.inj H; obtain ⟨hcz47, hfz47⟩ := d8 BK624
       go_wp2_with (first | ((with_reducible refine gate_callee (f := 13) rfl ?_); refine gL (some 27) rfl rfl Try.func13 #[.agg #[.bool a0_0, .int .u8 a0_1, .int .u16 a0_2, .int .u32 a0_3, .int .u64 a0_4, .string a0_5, .string a0_6, .string a0_7]] rfl ?_; (with_reducible refine (tallboylaw29_To.calls a0_0 a0_1 a0_2 a0_3 a0_4 a0_5 a0_6 a0_7 t627 t628 t629 t630 t631 t632 t633 t634 _ A16.out).mono ?_); rintro e w48 ⟨rfl, hb⟩; refine ⟨_, rfl, ?_⟩; replace BK624 := rB BK624 hb; replace HB := rS HB hb; (try clear hb); ) | ((with_reducible refine gate_callee (f := 12) rfl ?_); refine gL (some 28) rfl rfl Try.func12 #[.agg #[.bool t627, .int .u8 t628, .int .u16 t629, .int .u32 t630, .int .u64 t631, .string t632, .string t633, .string t634]] rfl ?_; (with_reducible refine (frame_Pack.calls t627 t628 t629 t630 t631 t632 t633 t634 t635 t636 _ A17.out).mono ?_); rintro e w49 ⟨rfl, hb⟩; refine ⟨_, rfl, ?_⟩; replace BK624 := rB BK624 hb; replace HB := rS HB hb; (try clear hb); ))
       go_ret
       exact ⟨xR, bH HB.out⟩
      ·rw [if_neg c46] at H; exact absurd H (by simp)
 ·replace c5 := Bool.eq_false_iff.mpr c5; subst c5; rw [if_neg (show ¬ (false = true) by decide)] at H; exact absurd H (by simp)

end Go.Proofs.Ytdepkgikdmlgiaa.P
