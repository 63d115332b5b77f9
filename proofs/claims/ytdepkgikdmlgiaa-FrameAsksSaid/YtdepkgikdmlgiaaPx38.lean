/- Lean functions for the Go functions that the laws of this seat use, and the proofs that the Go code computes them; conditions: the readings that each theorem names. Written by a program. -/
import Derived.Test.YtdepkgikdmlgiaaPx0
import Derived.Test.YtdepkgikdmlgiaaPx5
import Derived.Test.YtdepkgikdmlgiaaPx17
import Derived.Test.YtdepkgikdmlgiaaPx30
import Derived.Test.YtdepkgikdmlgiaaPx31
import Derived.Test.YtdepkgikdmlgiaaPx32
import Derived.Test.YtdepkgikdmlgiaaPx37
import Derived.Test.YtdepkgikdmlgiaaShort
namespace Go.Proofs.Ytdepkgikdmlgiaa.P
open Go.RowKit Go.Proofs.YtdepkgikdmlgiaaW.PrintWords Go.Proofs.YtdepkgikdmlgiaaW.PrintLast Go.Proofs.YtdepkgikdmlgiaaW.PrintMore
set_option linter.unusedVariables false
set_option linter.unusedSimpArgs false

/-! ### tallboyref29_Request: function 34 -/
theorem tallboyref29_Request.uU (n : Int) : IntKind.u64.wrap (IntKind.u32.wrap n) = n % 4294967296 := by
  rw [uW, IntKind.wrap_u64]
  omega
set_option maxHeartbeats 8000000 in
set_option maxRecDepth 100000 in
theorem tallboyref29_Request.calls (k : Nat) (a0_0 : Int) (A0_1 : Option Addr) (c0_1 : Nat) (l0_1 : List ByteArray) (a0_2 : Int) (a0_3 : Int) (a0_4 : ByteArray) (a0_5 : Int) (a0_6 : Int) (a0_7 : Bool) (a1 : Int) (r1 : Bool) (r2 : Int) (r3 : Int) (r4 : Int) (r5 : Int) (r6 : ByteArray) (r7 : ByteArray) (r8 : ByteArray) (r9 : Int) (w : World) (hr0_1 : Kd.C Kd.string w A0_1 l0_1.length l0_1) (hc0_1 : l0_1.length ≤ c0_1) (h : tallboyref29_Request.f k a0_0 l0_1 a0_2 a0_3 a0_4 a0_5 a0_6 a0_7 a1 = some (r1, r2, r3, r4, r5, r6, r7, r8, r9)) :
  Calls Try.prog 34 #[.agg #[.int .i64 a0_0, .slice A0_1 l0_1.length c0_1, .int .u32 a0_2, .int .i64 a0_3, .string a0_4, .int .u64 a0_5, .int .u64 a0_6, .bool a0_7], .int .u32 a1] w fun e w' => e = .returned (.tuple #[.agg #[.bool r1, .int .u8 r2, .int .u16 r3, .int .u32 r4, .int .u64 r5, .string r6, .string r7, .string r8], .int .i64 r9]) ∧ Below w.heap.size w w' := by
 have hu70 := Try.underlying70; have hu26 := Try.underlying26; have HR0_1 := Aside0.mk hr0_1; have HC0_1 := Aside0.mk hc0_1; clear hr0_1 hc0_1; have HB := Aside0.mk (Below.refl w.heap.size w); have H : ((tallboyref15_Check.f k a0_0 l0_1 a0_2 a0_3 a0_4 a0_5 a0_6 a0_7).bind fun t451 => (if t451 = 0 then (if a0_0 = 15 then (tallboyref29_Request.j0 k a1 0 a0_0 l0_1 a0_2 a0_3 a0_4 a0_5 a0_6 a0_7) else (tallboyref29_Request.j0 k a1 1 a0_0 l0_1 a0_2 a0_3 a0_4 a0_5 a0_6 a0_7)) else (some (false, 0, 0, 0, 0, (⟨#[]⟩ : ByteArray), (⟨#[]⟩ : ByteArray), (⟨#[]⟩ : ByteArray), t451)))) = some (r1, r2, r3, r4, r5, r6, r7, r8, r9) := h; clear h; replace H := Option.bind_eq_some_iff.mp H; obtain ⟨t451, A30, H⟩ := H; (try dsimp only at H); have A3 := Aside0.mk A30; clear A30
 by_cases c4 : t451 = 0
 ·rw [if_pos c4] at H; have c4b0 : (t451 == 0) = true := beq_iff_eq.mpr c4; have c4b1 : (t451 != 0) = false := bne_eq_false_iff_eq.mpr c4; clear c4; have HC5 := Aside0.mk H; clear H; go_enter Try.func34, Try.ntmps34
  go_upto_if 22 with (first | ((with_reducible refine gate_dst (N := 2) rfl ?_); refine bE 2 #[.int .i64 a0_0, .slice A0_1 l0_1.length c0_1, .int .u32 a0_2, .int .i64 a0_3, .string a0_4, .int .u64 a0_5, .int .u64 a0_6, .bool a0_7] 70 rfl rfl ?_; intro gb449 hg w6 hbox hb; have BK449 := rM hbox; have GW449 := rG HB hg; replace HB := rS HB hb; have GE449 := GW449; clear hb hbox hg) | ((with_reducible refine gate_dst (N := 4) rfl ?_); refine bE 4 #[.bool false, .int .u8 0, .int .u16 0, .int .u32 0, .int .u64 0, .string (⟨#[]⟩ : ByteArray), .string (⟨#[]⟩ : ByteArray), .string (⟨#[]⟩ : ByteArray)] 26 rfl rfl ?_; intro gb450 hg w7 hbox hb; have BK450 := rM hbox; have GW450 := rG HB hg; replace HB := rS HB hb; have GE450 := GW450; have NB449_450 := rN BK449 hg; replace BK449 := rB BK449 hb; have NB450_449 := rY NB449_450; clear hb hbox hg; have hnb8 := rP NB449_450 NB450_449; obtain ⟨hcz9, hfz9⟩ := d8 BK449) | ((with_reducible refine gate_callee (f := 53) rfl ?_); refine goesL_ (some 15) rfl rfl Try.func53 (by kernel_rfl) rfl #[.agg #[.int .i64 a0_0, .slice A0_1 l0_1.length c0_1, .int .u32 a0_2, .int .i64 a0_3, .string a0_4, .int .u64 a0_5, .int .u64 a0_6, .bool a0_7]] rfl (by (try simp only [List.map_toArray, List.map_cons, List.map_nil]); first | done | rfl | (rw [← tallboyref29_Request.uU]; rfl) | (simp only [List.length_drop, List.length_take]; rfl)) ?_; (with_reducible refine (tallboyref15_Check.calls k a0_0 _ _ l0_1 a0_2 a0_3 a0_4 a0_5 a0_6 a0_7 t451 _ ?side1 ?side2 A3.out).mono ?_); (case side1 => repeat (first | exact (Kd.C_below HR0_1.out HB.out) | (with_reducible refine Kd.C_alloc ?_ _) | (with_reducible refine Kd.C_drewN ?_ _) | (with_reducible refine Kd.C_drew ?_))); (case side2 => exact HC0_1.out); rintro e w10 ⟨rfl, hb⟩; refine ⟨_, rfl, ?_⟩; replace BK449 := rB BK449 hb; replace BK450 := rB BK450 hb; replace HB := rS HB hb; (try clear hb); obtain ⟨hcz11, hfz11⟩ := d8 BK449))
  (try simp only [Act.put, sA, sB, sC])
  go_cut [7] (fun v7 wc => ∃ (kq : Nat) (x7_4 : Int), v7 = .int .i64 x7_4 ∧ Aside0 (tallboyref29_Request.j0 kq a1 x7_4 a0_0 l0_1 a0_2 a0_3 a0_4 a0_5 a0_6 a0_7 = some (r1, r2, r3, r4, r5, r6, r7, r8, r9)) ∧ Aside0 (kq ≤ k) ∧ Aside0 (wc.heap[gb449]? = some (.cells #[.int .i64 a0_0, (.slice A0_1 l0_1.length c0_1), .int .u32 a0_2, .int .i64 a0_3, .string a0_4, .int .u64 a0_5, .int .u64 a0_6, .bool a0_7] 70 (0, 0))) ∧ Aside0 (wc.heap[gb450]? = some (.cells #[.bool false, .int .u8 0, .int .u16 0, .int .u32 0, .int .u64 0, .string (⟨#[]⟩ : ByteArray), .string (⟨#[]⟩ : ByteArray), .string (⟨#[]⟩ : ByteArray)] 26 (0, 0))) ∧ Aside0 (Below w.heap.size w wc))
  case first =>
   have H := HC5.out; clear HC5
   by_cases c12 : a0_0 = 15
   ·rw [if_pos c12] at H; have c12b0 : (a0_0 == 15) = true := beq_iff_eq.mpr c12; have c12b1 : (a0_0 != 15) = false := bne_eq_false_iff_eq.mpr c12; clear c12
    (first | rw [c12b0] | (simp only [i64_w, i32_w]; rw [c12b0]) | skip)
    have H' := Aside0.mk H; clear H; go_wp2
    go_meet
    case rel => exact ⟨_, (0), (by first | rfl | (simp; done) | (simp [*]; done)), H', ⟨by first | omega | exact Nat.le_refl _⟩, ⟨bK BK449.out⟩, ⟨bK BK450.out⟩, ⟨bH HB.out⟩⟩
   ·rw [if_neg c12] at H; have c12b0 : (a0_0 == 15) = false := beq_eq_false_iff_ne.mpr c12; have c12b1 : (a0_0 != 15) = true := bne_iff_ne.mpr c12
    (first | rw [c12b0] | (simp only [i64_w, i32_w]; rw [c12b0]) | skip)
    have H' := Aside0.mk H; clear H; go_wp2
    go_meet
    case rel => exact ⟨_, (1), (by first | rfl | (simp; done) | (simp [*]; done)), H', ⟨by first | omega | exact Nat.le_refl _⟩, ⟨bK BK449.out⟩, ⟨bK BK450.out⟩, ⟨bH HB.out⟩⟩
  case rest =>
   clear HC5; (try clear c4); (try clear c4b0); (try clear c4b1); (try clear c12); (try clear c12b0); (try clear c12b1); (try clear hcz11); (try clear hcz9); (try clear hfz11); (try clear hfz9); obtain ⟨kq, x7_4, rfl, HA, HJ4, BK449, BK450, HB⟩ := hcut; cases kq with
   | zero => exact absurd HA.out (by simp [tallboyref29_Request.j0])
   | succ kj4 =>
    have H := HA.out; clear HA; simp only [tallboyref29_Request.j0] at H; have HC13 := Aside0.mk H; clear H
    go_upto_region 7 with (fail)
    go_cut [8] (fun v8 wc => ∃ (kq : Nat) (x8_12 : Bool), v8 = .bool x8_12 ∧ Aside0 (tallboyref29_Request.j1 kq a1 x7_4 x8_12 a0_0 l0_1 a0_2 a0_3 a0_4 a0_5 a0_6 a0_7 = some (r1, r2, r3, r4, r5, r6, r7, r8, r9)) ∧ Aside0 (kq ≤ kj4) ∧ Aside0 (wc.heap[gb449]? = some (.cells #[.int .i64 a0_0, (.slice A0_1 l0_1.length c0_1), .int .u32 a0_2, .int .i64 a0_3, .string a0_4, .int .u64 a0_5, .int .u64 a0_6, .bool a0_7] 70 (0, 0))) ∧ Aside0 (wc.heap[gb450]? = some (.cells #[.bool false, .int .u8 0, .int .u16 0, .int .u32 0, .int .u64 0, .string (⟨#[]⟩ : ByteArray), .string (⟨#[]⟩ : ByteArray), .string (⟨#[]⟩ : ByteArray)] 26 (0, 0))) ∧ Aside0 (Below w.heap.size w wc))
    case first =>
     have H := HC13.out; clear HC13
     by_cases c14 : (l0_1.length : Int) = x7_4
     ·rw [if_pos c14] at H; have c14b0 : ((l0_1.length : Int) == x7_4) = true := beq_iff_eq.mpr c14; have c14b1 : ((l0_1.length : Int) != x7_4) = false := bne_eq_false_iff_eq.mpr c14; clear c14
      (first | rw [c14b0] | (simp only [i64_w, i32_w]; rw [c14b0]) | skip)
      by_cases c15 : a0_0 = 4
      ·rw [if_pos c15] at H; have c15b0 : (a0_0 == 4) = true := beq_iff_eq.mpr c15; have c15b1 : (a0_0 != 4) = false := bne_eq_false_iff_eq.mpr c15; clear c15; have H' := Aside0.mk H; clear H; have hnb16 := rP NB449_450 NB450_449; obtain ⟨hcz17, hfz17⟩ := d8 BK449; go_wp2
       go_meet
       case rel => exact ⟨_, (true), (by first | rfl | (simp; done) | (simp [*]; done)), H', ⟨by have := HJ4.out; first | omega | exact Nat.le_refl _⟩, ⟨bK BK449.out⟩, ⟨bK BK450.out⟩, ⟨bH HB.out⟩⟩
      ·rw [if_neg c15] at H; have c15b0 : (a0_0 == 4) = false := beq_eq_false_iff_ne.mpr c15; have c15b1 : (a0_0 != 4) = true := bne_iff_ne.mpr c15
       by_cases c18 : a0_3 < (-2147483648)
       ·rw [if_pos c18] at H; have c18b0 : decide (a0_3 < (-2147483648)) = true := decide_eq_true c18; clear c18; have H' := Aside0.mk H; clear H; have hnb19 := rP NB449_450 NB450_449; obtain ⟨hcz20, hfz20⟩ := d8 BK449; go_wp2
        go_meet
        case rel => exact ⟨_, (true), (by first | rfl | (simp; done) | (simp [*]; done)), H', ⟨by have := HJ4.out; first | omega | exact Nat.le_refl _⟩, ⟨bK BK449.out⟩, ⟨bK BK450.out⟩, ⟨bH HB.out⟩⟩
       ·rw [if_neg c18] at H; have c18b0 : decide (a0_3 < (-2147483648)) = false := decide_eq_false c18; clear c18
        by_cases c21 : a0_3 > 2147483647
        ·rw [if_pos c21] at H; have c21b0 : decide (2147483647 < a0_3) = true := decide_eq_true c21; clear c21; have H' := Aside0.mk H; clear H; have hnb22 := rP NB449_450 NB450_449; obtain ⟨hcz23, hfz23⟩ := d8 BK449; go_wp2
         go_meet
         case rel => exact ⟨_, (true), (by first | rfl | (simp; done) | (simp [*]; done)), H', ⟨by have := HJ4.out; first | omega | exact Nat.le_refl _⟩, ⟨bK BK449.out⟩, ⟨bK BK450.out⟩, ⟨bH HB.out⟩⟩
        ·rw [if_neg c21] at H; have c21b0 : decide (2147483647 < a0_3) = false := decide_eq_false c21; clear c21
         by_cases c24 : a0_0 = 10
         ·rw [if_pos c24] at H; have c24b0 : (a0_0 == 10) = true := beq_iff_eq.mpr c24; have c24b1 : (a0_0 != 10) = false := bne_eq_false_iff_eq.mpr c24; clear c24
          by_cases c25 : a0_5 = 0
          ·rw [if_pos c25] at H; have c25b0 : (a0_5 == 0) = true := beq_iff_eq.mpr c25; have c25b1 : (a0_5 != 0) = false := bne_eq_false_iff_eq.mpr c25; clear c25; have H' := Aside0.mk H; clear H; have hnb26 := rP NB449_450 NB450_449; obtain ⟨hcz27, hfz27⟩ := d8 BK449; go_wp2
           go_meet
           case rel => exact ⟨_, (true), (by first | rfl | (simp; done) | (simp [*]; done)), H', ⟨by have := HJ4.out; first | omega | exact Nat.le_refl _⟩, ⟨bK BK449.out⟩, ⟨bK BK450.out⟩, ⟨bH HB.out⟩⟩
          ·rw [if_neg c25] at H; have c25b0 : (a0_5 == 0) = false := beq_eq_false_iff_ne.mpr c25; have c25b1 : (a0_5 != 0) = true := bne_iff_ne.mpr c25
           by_cases c28 : a0_7 = true
           ·subst c28; rw [if_pos rfl] at H
            by_cases c29 : a0_0 = 14
            ·rw [if_pos c29] at H; have c29b0 : (a0_0 == 14) = true := beq_iff_eq.mpr c29; have c29b1 : (a0_0 != 14) = false := bne_eq_false_iff_eq.mpr c29; clear c29; have H' := Aside0.mk H; clear H; have hnb30 := rP NB449_450 NB450_449; obtain ⟨hcz31, hfz31⟩ := d8 BK449; go_wp2
             go_meet
             case rel => exact ⟨_, (true), (by first | rfl | (simp; done) | (simp [*]; done)), H', ⟨by have := HJ4.out; first | omega | exact Nat.le_refl _⟩, ⟨bK BK449.out⟩, ⟨bK BK450.out⟩, ⟨bH HB.out⟩⟩
            ·rw [if_neg c29] at H; have c29b0 : (a0_0 == 14) = false := beq_eq_false_iff_ne.mpr c29; have c29b1 : (a0_0 != 14) = true := bne_iff_ne.mpr c29; have H' := Aside0.mk H; clear H; have hnb32 := rP NB449_450 NB450_449; obtain ⟨hcz33, hfz33⟩ := d8 BK449; go_wp2
             go_meet
             case rel => exact ⟨_, ((a0_0 == 10)), (by first | rfl | (simp; done) | (simp [*]; done)), H', ⟨by have := HJ4.out; first | omega | exact Nat.le_refl _⟩, ⟨bK BK449.out⟩, ⟨bK BK450.out⟩, ⟨bH HB.out⟩⟩
           ·replace c28 := Bool.eq_false_iff.mpr c28; subst c28; rw [if_neg (show ¬ (false = true) by decide)] at H; have H' := Aside0.mk H; clear H; have hnb34 := rP NB449_450 NB450_449; obtain ⟨hcz35, hfz35⟩ := d8 BK449; go_wp2
            go_meet
            case rel => exact ⟨_, (false), (by first | rfl | (simp; done) | (simp [*]; done)), H', ⟨by have := HJ4.out; first | omega | exact Nat.le_refl _⟩, ⟨bK BK449.out⟩, ⟨bK BK450.out⟩, ⟨bH HB.out⟩⟩
         ·rw [if_neg c24] at H; have c24b0 : (a0_0 == 10) = false := beq_eq_false_iff_ne.mpr c24; have c24b1 : (a0_0 != 10) = true := bne_iff_ne.mpr c24
          by_cases c36 : a0_7 = true
          ·subst c36; rw [if_pos rfl] at H
           by_cases c37 : a0_0 = 14
           ·rw [if_pos c37] at H; have c37b0 : (a0_0 == 14) = true := beq_iff_eq.mpr c37; have c37b1 : (a0_0 != 14) = false := bne_eq_false_iff_eq.mpr c37; clear c37; have H' := Aside0.mk H; clear H; have hnb38 := rP NB449_450 NB450_449; obtain ⟨hcz39, hfz39⟩ := d8 BK449; go_wp2
            go_meet
            case rel => exact ⟨_, (true), (by first | rfl | (simp; done) | (simp [*]; done)), H', ⟨by have := HJ4.out; first | omega | exact Nat.le_refl _⟩, ⟨bK BK449.out⟩, ⟨bK BK450.out⟩, ⟨bH HB.out⟩⟩
           ·rw [if_neg c37] at H; have c37b0 : (a0_0 == 14) = false := beq_eq_false_iff_ne.mpr c37; have c37b1 : (a0_0 != 14) = true := bne_iff_ne.mpr c37; have H' := Aside0.mk H; clear H; have hnb40 := rP NB449_450 NB450_449; obtain ⟨hcz41, hfz41⟩ := d8 BK449; go_wp2
            go_meet
            case rel => exact ⟨_, ((a0_0 == 10)), (by first | rfl | (simp; done) | (simp [*]; done)), H', ⟨by have := HJ4.out; first | omega | exact Nat.le_refl _⟩, ⟨bK BK449.out⟩, ⟨bK BK450.out⟩, ⟨bH HB.out⟩⟩
          ·replace c36 := Bool.eq_false_iff.mpr c36; subst c36; rw [if_neg (show ¬ (false = true) by decide)] at H; have H' := Aside0.mk H; clear H; have hnb42 := rP NB449_450 NB450_449; obtain ⟨hcz43, hfz43⟩ := d8 BK449; go_wp2
           go_meet
           case rel => exact ⟨_, (false), (by first | rfl | (simp; done) | (simp [*]; done)), H', ⟨by have := HJ4.out; first | omega | exact Nat.le_refl _⟩, ⟨bK BK449.out⟩, ⟨bK BK450.out⟩, ⟨bH HB.out⟩⟩
     ·rw [if_neg c14] at H; have c14b0 : ((l0_1.length : Int) == x7_4) = false := beq_eq_false_iff_ne.mpr c14; have c14b1 : ((l0_1.length : Int) != x7_4) = true := bne_iff_ne.mpr c14
      (first | rw [c14b0] | (simp only [i64_w, i32_w]; rw [c14b0]) | skip)
      have H' := Aside0.mk H; clear H; have hnb44 := rP NB449_450 NB450_449; obtain ⟨hcz45, hfz45⟩ := d8 BK449; go_wp2
      go_meet
      case rel => exact ⟨_, (true), (by first | rfl | (simp; done) | (simp [*]; done)), H', ⟨by have := HJ4.out; first | omega | exact Nat.le_refl _⟩, ⟨bK BK449.out⟩, ⟨bK BK450.out⟩, ⟨bH HB.out⟩⟩
    case rest =>
     clear HC13; (try clear c4); (try clear c4b0); (try clear c4b1); (try clear c12); (try clear c12b0); (try clear c12b1); (try clear c14); (try clear c14b0); (try clear c14b1); (try clear c15); (try clear c15b0); (try clear c15b1); (try clear c18b0); (try clear c21b0); (try clear c24); (try clear c24b0); (try clear c24b1); (try clear c25); (try clear c25b0); (try clear c25b1); (try clear c28); (try clear c29); (try clear c29b0); (try clear c29b1); (try clear c36); (try clear c37); (try clear c37b0); (try clear c37b1); (try clear hcz11); (try clear hcz17); (try clear hcz20); (try clear hcz23); (try clear hcz27); (try clear hcz31); (try clear hcz33); (try clear hcz35); (try clear hcz39); (try clear hcz41); (try clear hcz43); (try clear hcz45); (try clear hcz9)
     (try clear hcz9); (try clear hfz11); (try clear hfz17); (try clear hfz20); (try clear hfz23); (try clear hfz27); (try clear hfz31); (try clear hfz33); (try clear hfz35); (try clear hfz39); (try clear hfz41); (try clear hfz43); (try clear hfz45); (try clear hfz9); obtain ⟨kq, x8_12, rfl, HA, HJ12, BK449, BK450, HB⟩ := hcut; cases kq with
     | zero => exact absurd HA.out (by simp [tallboyref29_Request.j1])
     | succ kj12 =>
      have H := HA.out; clear HA; simp only [tallboyref29_Request.j1] at H
      by_cases c46 : x8_12 = true
      ·subst c46; rw [if_pos rfl] at H; simp only [Option.some.injEq, Prod.mk.injEq] at H; obtain ⟨rfl, rfl, rfl, rfl, rfl, rfl, rfl, rfl, rfl⟩ := H; have hnb47 := rP NB450_449 NB449_450; obtain ⟨hcz48, hfz48⟩ := d8 BK450; go_wp2; refine bodyPost_ret (results_ct rfl _ _ gb450 26 #[.bool false, .int .u8 0, .int .u16 0, .int .u32 0, .int .u64 0, .string (⟨#[]⟩ : ByteArray), .string (⟨#[]⟩ : ByteArray), .string (⟨#[]⟩ : ByteArray)] (0, 0) _ rfl (bV BK450.out) Try.underlying26 rfl (by kernel_rfl)) rfl ?_
       exact ⟨xR, bH HB.out⟩
      ·replace c46 := Bool.eq_false_iff.mpr c46; subst c46; rw [if_neg (show ¬ (false = true) by decide)] at H; have HC49 := Aside0.mk H; clear H; have hnb50 := rP NB449_450 NB450_449; obtain ⟨hcz51, hfz51⟩ := d8 BK449
       go_upto_if 72 with (fail)
       go_cut [9] (fun v9 wc => ∃ (kq : Nat) (x9_48 : Int), v9 = .int .i64 x9_48 ∧ Aside0 (tallboyref29_Request.j2 kq a1 x7_4 x9_48 a0_0 l0_1 a0_2 a0_3 a0_4 a0_5 a0_6 a0_7 = some (r1, r2, r3, r4, r5, r6, r7, r8, r9)) ∧ Aside0 (kq ≤ kj12) ∧ Aside0 (wc.heap[gb449]? = some (.cells #[.int .i64 a0_0, (.slice A0_1 l0_1.length c0_1), .int .u32 a0_2, .int .i64 a0_3, .string a0_4, .int .u64 a0_5, .int .u64 a0_6, .bool a0_7] 70 (0, 0))) ∧ Aside0 (wc.heap[gb450]? = some (.cells #[.bool false, .int .u8 0, .int .u16 0, .int .u32 0, .int .u64 0, .string (⟨#[]⟩ : ByteArray), .string (⟨#[]⟩ : ByteArray), .string (⟨#[]⟩ : ByteArray)] 26 (0, 0))) ∧ Aside0 (Below w.heap.size w wc))
       case first =>
        have H := HC49.out; clear HC49
        by_cases c52 : a0_0 = 10
        ·rw [if_pos c52] at H; have c52b0 : (a0_0 == 10) = true := beq_iff_eq.mpr c52; have c52b1 : (a0_0 != 10) = false := bne_eq_false_iff_eq.mpr c52; clear c52
         (first | rw [c52b0] | (simp only [i64_w, i32_w]; rw [c52b0]) | skip)
         have H' := Aside0.mk H; clear H; go_wp2
         go_meet
         case rel => exact ⟨_, (5), (by first | rfl | (simp; done) | (simp [*]; done)), H', ⟨by have := HJ4.out; have := HJ12.out; first | omega | exact Nat.le_refl _⟩, ⟨bK BK449.out⟩, ⟨bK BK450.out⟩, ⟨bH HB.out⟩⟩
        ·rw [if_neg c52] at H; have c52b0 : (a0_0 == 10) = false := beq_eq_false_iff_ne.mpr c52; have c52b1 : (a0_0 != 10) = true := bne_iff_ne.mpr c52
         (first | rw [c52b0] | (simp only [i64_w, i32_w]; rw [c52b0]) | skip)
         have H' := Aside0.mk H; clear H; go_wp2
         go_meet
         case rel => exact ⟨_, (a0_0), (by first | rfl | (simp; done) | (simp [*]; done)), H', ⟨by have := HJ4.out; have := HJ12.out; first | omega | exact Nat.le_refl _⟩, ⟨bK BK449.out⟩, ⟨bK BK450.out⟩, ⟨bH HB.out⟩⟩
       case rest =>
        clear HC49; (try clear c4); (try clear c4b0); (try clear c4b1); (try clear c12); (try clear c12b0); (try clear c12b1); (try clear c14); (try clear c14b0); (try clear c14b1); (try clear c15); (try clear c15b0); (try clear c15b1); (try clear c18b0); (try clear c21b0); (try clear c24); (try clear c24b0); (try clear c24b1); (try clear c25); (try clear c25b0); (try clear c25b1); (try clear c28); (try clear c29); (try clear c29b0); (try clear c29b1); (try clear c36); (try clear c37); (try clear c37b0); (try clear c37b1); (try clear c46); (try clear c52); (try clear c52b0); (try clear c52b1); (try clear hcz11); (try clear hcz17); (try clear hcz20); (try clear hcz23); (try clear hcz27); (try clear hcz31); (try clear hcz33); (try clear hcz35); (try clear hcz39); (try clear hcz41); (try clear hcz43); (try clear hcz45); (try clear hcz48)
        (try clear hcz48); (try clear hcz51); (try clear hcz9); (try clear hfz11); (try clear hfz17); (try clear hfz20); (try clear hfz23); (try clear hfz27); (try clear hfz31); (try clear hfz33); (try clear hfz35); (try clear hfz39); (try clear hfz41); (try clear hfz43); (try clear hfz45); (try clear hfz48); (try clear hfz51); (try clear hfz9)
        ; obtain ⟨kq, x9_48, rfl, HA, HJ48, BK449, BK450, HB⟩ := hcut; cases kq with
        | zero => exact absurd HA.out (by simp [tallboyref29_Request.j2])
        | succ kj48 =>
         have H := HA.out; clear HA; simp only [tallboyref29_Request.j2] at H; have H' := Aside0.mk H; clear H; have hnb53 := rP NB449_450 NB450_449; obtain ⟨hcz54, hfz54⟩ := d8 BK449
         go_wp2_with (first | ((with_reducible refine gate_dst (N := 10) rfl ?_); refine bE 10 #[.bool false, .int .u8 0, .int .u16 0, .int .u32 0, .int .u64 0, .string (⟨#[]⟩ : ByteArray), .string (⟨#[]⟩ : ByteArray), .string (⟨#[]⟩ : ByteArray)] 26 rfl rfl ?_; intro gb452 hg w55 hbox hb; have BK452 := rM hbox; have GW452 := rG HB hg; replace HB := rS HB hb; have GE452 := GW452; have NB449_452 := rN BK449 hg; replace BK449 := rB BK449 hb; have NB452_449 := rY NB449_452; have NB450_452 := rN BK450 hg; replace BK450 := rB BK450 hb; have NB452_450 := rY NB450_452; clear hb hbox hg; have hnb56 := rP NB452_449 NB449_452; have hnb57 := rP NB452_450 NB450_452; obtain ⟨hcz58, hfz58⟩ := d8 BK452))
         go_loopg [11] kj48 (fun kq v11 w' => ∃ (x11_4 : Int) (z0 : Int), v11 = .int .i64 x11_4 ∧ Aside0 (tallboyref29_Request.l0 kq x7_4 x9_48 x11_4 a0_0 l0_1 a0_2 a0_3 a0_4 a0_5 a0_6 a0_7 false z0 0 a1 a0_5 (⟨#[]⟩ : ByteArray) (⟨#[]⟩ : ByteArray) a0_4 = some (r1, r2, r3, r4, r5, r6, r7, r8, r9)) ∧ Aside0 (kq ≤ kj48) ∧ Aside0 (w'.heap[gb449]? = some (.cells #[.int .i64 a0_0, (.slice A0_1 l0_1.length c0_1), .int .u32 a0_2, .int .i64 a0_3, .string a0_4, .int .u64 a0_5, .int .u64 a0_6, .bool a0_7] 70 (0, 0))) ∧ Aside0 (w'.heap[gb450]? = some (.cells #[.bool false, .int .u8 0, .int .u16 0, .int .u32 0, .int .u64 0, .string (⟨#[]⟩ : ByteArray), .string (⟨#[]⟩ : ByteArray), .string (⟨#[]⟩ : ByteArray)] 26 (0, 0))) ∧ Aside0 (w'.heap[gb452]? = some (.cells #[.bool false, .int .u8 z0, .int .u16 0, .int .u32 a1, .int .u64 a0_5, .string (⟨#[]⟩ : ByteArray), .string (⟨#[]⟩ : ByteArray), .string a0_4] 26 (0, 0))) ∧ Aside0 (Below w.heap.size w w'))
         case atStart => exact ⟨(30), (0), (by first | rfl | (simp; done) | (simp [*]; done)), H', ⟨Nat.le_refl _⟩, ⟨bK BK449.out⟩, ⟨bK BK450.out⟩, ⟨bV BK452.out⟩, ⟨bH HB.out⟩⟩
         case round =>
          clear H'; (try clear c4); (try clear c4b0); (try clear c4b1); (try clear c12); (try clear c12b0); (try clear c12b1); (try clear c14); (try clear c14b0); (try clear c14b1); (try clear c15); (try clear c15b0); (try clear c15b1); (try clear c18b0); (try clear c21b0); (try clear c24); (try clear c24b0); (try clear c24b1); (try clear c25); (try clear c25b0); (try clear c25b1); (try clear c28); (try clear c29); (try clear c29b0); (try clear c29b1); (try clear c36); (try clear c37); (try clear c37b0); (try clear c37b1); (try clear c46); (try clear c52); (try clear c52b0); (try clear c52b1); (try clear hcz11); (try clear hcz17); (try clear hcz20); (try clear hcz23); (try clear hcz27); (try clear hcz31); (try clear hcz33); (try clear hcz35); (try clear hcz39); (try clear hcz41); (try clear hcz43); (try clear hcz45)
          (try clear hcz45); (try clear hcz48); (try clear hcz51); (try clear hcz54); (try clear hcz58); (try clear hcz9); (try clear hfz11); (try clear hfz17); (try clear hfz20); (try clear hfz23); (try clear hfz27); (try clear hfz31); (try clear hfz33); (try clear hfz35); (try clear hfz39); (try clear hfz41); (try clear hfz43); (try clear hfz45); (try clear hfz48)
          (try clear hfz48); (try clear hfz51); (try clear hfz54); (try clear hfz58); (try clear hfz9); obtain ⟨x11_4, z0, rfl, HA, HK4, BK449, BK450, BK452, HB⟩ := hrel; cases gk with
          | zero => exact absurd HA.out (by simp [tallboyref29_Request.l0])
          | succ k4 =>
           have H := HA.out; clear HA; simp only [tallboyref29_Request.l0] at H
           by_cases c59 : x11_4 ≥ 0
           ·rw [if_pos c59] at H; have c59b0 : decide (0 ≤ x11_4) = true := decide_eq_true c59; clear c59; replace H := Option.bind_eq_some_iff.mp H; obtain ⟨⟨t453, t454⟩, A600, H⟩ := H; (try dsimp only at H); have A60 := Aside0.mk A600; clear A600
            by_cases c61 : t453 = x9_48
            ·rw [if_pos c61] at H; have c61b0 : (t453 == x9_48) = true := beq_iff_eq.mpr c61; have c61b1 : (t453 != x9_48) = false := bne_eq_false_iff_eq.mpr c61; clear c61
             by_cases c62 : (t454 == a0_7) = true
             ·rw [if_pos c62] at H; have c62b0 : (t454 == a0_7) = true := c62
              (try (have c62b1 : decide (t454 = a0_7) = true := by simpa using c62))
              (try (have c62b2 : (t454 == a0_7) = true := by simpa using c62))
              clear c62; have H' := Aside0.mk H; clear H
              go_wp2_with (first | ((with_reducible refine gate_callee (f := 47) rfl ?_); refine goesL_ (some 86) rfl rfl Try.func47 (by kernel_rfl) rfl #[.int .u8 ((x11_4) % 256)] rfl (by (try simp only [List.map_toArray, List.map_cons, List.map_nil]); first | done | rfl | (rw [← tallboyref29_Request.uU]; rfl) | (simp only [List.length_drop, List.length_take]; rfl)) ?_; (with_reducible refine (tallboyref29_op.calls k4 ((x11_4) % 256) t453 t454 _ A60.out).mono ?_); rintro e w' ⟨rfl, ⟨nd, rfl⟩⟩; refine ⟨_, rfl, ?_⟩; (try simp only [World.drewN_drewN]); (try (rw [drewN_self wr]; generalize hq_ : World.drewN wr _ = wr; have n0_ := Aside0.mk (bQ BK449.out hq_); have n1_ := Aside0.mk (bQ BK450.out hq_); have n2_ := Aside0.mk (bQ BK452.out hq_); have n3_ := Aside0.mk (bF HB.out hq_); clear BK449 BK450 BK452 HB hq_; have BK449 := n0_; have BK450 := n1_; have BK452 := n2_; have HB := n3_; clear n0_ n1_ n2_ n3_; have hcr449_0 : wr.cell? ⟨gb449, 0, none⟩ = some (.int .i64 a0_0) := (blk_cell BK449.out 0).trans rfl; have hfr449_0 := blk_frozen BK449.out 0; have hcr449_1 : wr.cell? ⟨gb449, 1, none⟩ = some (.slice A0_1 l0_1.length c0_1) := (blk_cell BK449.out 1).trans rfl; have hfr449_1 := blk_frozen BK449.out 1; have hcr449_2 : wr.cell? ⟨gb449, 2, none⟩ = some (.int .u32 a0_2) := (blk_cell BK449.out 2).trans rfl; have hfr449_2 := blk_frozen BK449.out 2; have hcr449_3 : wr.cell? ⟨gb449, 3, none⟩ = some (.int .i64 a0_3) := (blk_cell BK449.out 3).trans rfl; have hfr449_3 := blk_frozen BK449.out 3; have hcr449_4 : wr.cell? ⟨gb449, 4, none⟩ = some (.string a0_4) := (blk_cell BK449.out 4).trans rfl; have hfr449_4 := blk_frozen BK449.out 4; have hcr449_5 : wr.cell? ⟨gb449, 5, none⟩ = some (.int .u64 a0_5) := (blk_cell BK449.out 5).trans rfl; have hfr449_5 := blk_frozen BK449.out 5; have hcr449_6 : wr.cell? ⟨gb449, 6, none⟩ = some (.int .u64 a0_6) := (blk_cell BK449.out 6).trans rfl; have hfr449_6 := blk_frozen BK449.out 6; have hcr449_7 : wr.cell? ⟨gb449, 7, none⟩ = some (.bool a0_7) := (blk_cell BK449.out 7).trans rfl; have hfr449_7 := blk_frozen BK449.out 7)); have hnb63 := rP NB449_450 NB450_449; have hnb64 := rP NB449_452 NB452_449; obtain ⟨hcz65, hfz65⟩ := d8 BK449; have hnb66 := rP NB452_450 NB450_452; obtain ⟨hcz67, hfz67⟩ := d8 BK452))
              go_roundg k4
              case measure => have := HJ4.out; have := HJ12.out; have := HJ48.out; have := HK4.out; omega
              case rel => exact ⟨(wrap64 (x11_4 - 1)), ((x11_4) % 256), (by first | rfl | (simp; done) | (simp [*]; done)), H', ⟨by have := HJ4.out; have := HJ12.out; have := HJ48.out; have := HK4.out; omega⟩, ⟨bK BK449.out⟩, ⟨bK BK450.out⟩, ⟨bV BK452.out⟩, ⟨bH HB.out⟩⟩
             ·rw [if_neg c62] at H; have c62b0 : (t454 == a0_7) = false := by simpa using c62
              (try (have c62b1 : decide (t454 = a0_7) = false := by simpa using c62))
              (try (have c62b2 : (t454 == a0_7) = false := by simpa using c62))
              (try (have c62b3 : ¬ (t454 = a0_7) := by simpa using c62))
              clear c62; have H' := Aside0.mk H; clear H
              go_wp2_with (first | ((with_reducible refine gate_callee (f := 47) rfl ?_); refine goesL_ (some 86) rfl rfl Try.func47 (by kernel_rfl) rfl #[.int .u8 ((x11_4) % 256)] rfl (by (try simp only [List.map_toArray, List.map_cons, List.map_nil]); first | done | rfl | (rw [← tallboyref29_Request.uU]; rfl) | (simp only [List.length_drop, List.length_take]; rfl)) ?_; (with_reducible refine (tallboyref29_op.calls k4 ((x11_4) % 256) t453 t454 _ A60.out).mono ?_); rintro e w' ⟨rfl, ⟨nd, rfl⟩⟩; refine ⟨_, rfl, ?_⟩; have hnb68 := rP NB449_450 NB450_449; have hnb69 := rP NB449_452 NB452_449; obtain ⟨hcz70, hfz70⟩ := d8 BK449))
              go_roundg k4
              case measure => have := HJ4.out; have := HJ12.out; have := HJ48.out; have := HK4.out; omega
              case rel => exact ⟨(wrap64 (x11_4 - 1)), (z0), (by first | rfl | (simp; done) | (simp [*]; done)), H', ⟨by have := HJ4.out; have := HJ12.out; have := HJ48.out; have := HK4.out; omega⟩, ⟨bK BK449.out⟩, ⟨bK BK450.out⟩, ⟨bK BK452.out⟩, ⟨bH HB.out⟩⟩
            ·rw [if_neg c61] at H; have c61b0 : (t453 == x9_48) = false := beq_eq_false_iff_ne.mpr c61; have c61b1 : (t453 != x9_48) = true := bne_iff_ne.mpr c61; have H' := Aside0.mk H; clear H
             go_wp2_with (first | ((with_reducible refine gate_callee (f := 47) rfl ?_); refine goesL_ (some 86) rfl rfl Try.func47 (by kernel_rfl) rfl #[.int .u8 ((x11_4) % 256)] rfl (by (try simp only [List.map_toArray, List.map_cons, List.map_nil]); first | done | rfl | (rw [← tallboyref29_Request.uU]; rfl) | (simp only [List.length_drop, List.length_take]; rfl)) ?_; (with_reducible refine (tallboyref29_op.calls k4 ((x11_4) % 256) t453 t454 _ A60.out).mono ?_); rintro e w' ⟨rfl, ⟨nd, rfl⟩⟩; refine ⟨_, rfl, ?_⟩))
             go_roundg k4
             case measure => have := HJ4.out; have := HJ12.out; have := HJ48.out; have := HK4.out; omega
             case rel => exact ⟨(wrap64 (x11_4 - 1)), (z0), (by first | rfl | (simp; done) | (simp [*]; done)), H', ⟨by have := HJ4.out; have := HJ12.out; have := HJ48.out; have := HK4.out; omega⟩, ⟨bK BK449.out⟩, ⟨bK BK450.out⟩, ⟨bK BK452.out⟩, ⟨bH HB.out⟩⟩
           ·rw [if_neg c59] at H; have c59b0 : decide (0 ≤ x11_4) = false := decide_eq_false c59; clear c59; have HC71 := Aside0.mk H; clear H
            go_upto_if 102 with (fail)
            go_cut [] (fun wc => ∃ (kq : Nat) (z1 : ByteArray), Aside0 (tallboyref29_Request.j4 kq a0_0 l0_1 a0_2 a0_3 a0_4 a0_5 a0_6 a0_7 false z0 0 a1 a0_5 (⟨#[]⟩ : ByteArray) z1 a0_4 = some (r1, r2, r3, r4, r5, r6, r7, r8, r9)) ∧ Aside0 (kq ≤ k4) ∧ Aside0 (wc.heap[gb449]? = some (.cells #[.int .i64 a0_0, (.slice A0_1 l0_1.length c0_1), .int .u32 a0_2, .int .i64 a0_3, .string a0_4, .int .u64 a0_5, .int .u64 a0_6, .bool a0_7] 70 (0, 0))) ∧ Aside0 (wc.heap[gb450]? = some (.cells #[.bool false, .int .u8 0, .int .u16 0, .int .u32 0, .int .u64 0, .string (⟨#[]⟩ : ByteArray), .string (⟨#[]⟩ : ByteArray), .string (⟨#[]⟩ : ByteArray)] 26 (0, 0))) ∧ Aside0 (wc.heap[gb452]? = some (.cells #[.bool false, .int .u8 z0, .int .u16 0, .int .u32 a1, .int .u64 a0_5, .string (⟨#[]⟩ : ByteArray), .string z1, .string a0_4] 26 (0, 0))) ∧ Aside0 (Below w.heap.size w wc))
            case first =>
             have H := HC71.out; clear HC71
             by_cases c72 : x7_4 = 1
             ·rw [if_pos c72] at H; have c72b0 : (x7_4 == 1) = true := beq_iff_eq.mpr c72; have c72b1 : (x7_4 != 1) = false := bne_eq_false_iff_eq.mpr c72; clear c72
              (first | rw [c72b0] | (simp only [i64_w, i32_w]; rw [c72b0]) | skip)
              by_cases c73 : 0 < (l0_1.length : Int)
              ·rw [if_pos c73] at H; have c73b0 : decide (0 < (l0_1.length : Int)) = true := decide_eq_true c73; have c73b1 : decide (0 < l0_1.length) = true := decide_eq_true (by omega); clear c73; have H' := Aside0.mk H; clear H; have hnb74 := rP NB449_450 NB450_449; have hnb75 := rP NB449_452 NB452_449; obtain ⟨hcz76, hfz76⟩ := d8 BK449; have p455 : 0 ≤ (0 : Int) := (by omega); have q455 : 0 < (l0_1.length : Int) := of_decide_eq_true (by first | (with_reducible assumption) | assumption)
               obtain ⟨ad455, e455, hx455_0⟩ := Kd.at_string HR0_1.out 0 p455 q455; cases e455; have qi455 : (0 < l0_1.length) = True := eq_true (by omega)
               (try rw [show ((0 : Int)).toNat = 0 from rfl] at hx455_0)
               (try rw [Addr.add_zero'] at hx455_0)
               replace hx455_0 := (HB.out.cell (World.block_lt_of_cell? w _ hx455_0)).trans hx455_0; replace p455 := eq_true p455; replace q455 := eq_true q455; have hnb77 := rP NB452_450 NB450_452; obtain ⟨hcz78, hfz78⟩ := d8 BK452; go_wp2
               go_meet
               case rel => exact ⟨_, (rdOf ByteArray.empty l0_1 0), H', ⟨by have := HJ4.out; have := HJ12.out; have := HJ48.out; have := HK4.out; first | omega | exact Nat.le_refl _⟩, ⟨bK BK449.out⟩, ⟨bK BK450.out⟩, ⟨bV BK452.out⟩, ⟨bH HB.out⟩⟩
              ·rw [if_neg c73] at H; exact absurd H (by simp)
             ·rw [if_neg c72] at H; have c72b0 : (x7_4 == 1) = false := beq_eq_false_iff_ne.mpr c72; have c72b1 : (x7_4 != 1) = true := bne_iff_ne.mpr c72
              (first | rw [c72b0] | (simp only [i64_w, i32_w]; rw [c72b0]) | skip)
              have H' := Aside0.mk H; clear H; go_wp2
              go_meet
              case rel => exact ⟨_, ((⟨#[]⟩ : ByteArray)), H', ⟨by have := HJ4.out; have := HJ12.out; have := HJ48.out; have := HK4.out; first | omega | exact Nat.le_refl _⟩, ⟨bK BK449.out⟩, ⟨bK BK450.out⟩, ⟨bK BK452.out⟩, ⟨bH HB.out⟩⟩
            case rest =>
             clear HC71; (try clear c4); (try clear c4b0); (try clear c4b1); (try clear c12); (try clear c12b0); (try clear c12b1); (try clear c14); (try clear c14b0); (try clear c14b1); (try clear c15); (try clear c15b0); (try clear c15b1); (try clear c18b0); (try clear c21b0); (try clear c24); (try clear c24b0); (try clear c24b1); (try clear c25); (try clear c25b0); (try clear c25b1); (try clear c28); (try clear c29); (try clear c29b0); (try clear c29b1); (try clear c36); (try clear c37); (try clear c37b0); (try clear c37b1); (try clear c46); (try clear c52); (try clear c52b0); (try clear c52b1); (try clear c59b0); (try clear c61); (try clear c61b0); (try clear c61b1); (try clear c62b0); (try clear c62b1); (try clear c62b2); (try clear c72); (try clear c72b0); (try clear c72b1); (try clear c73); (try clear c73b0); (try clear c73b1); (try clear hcz11); (try clear hcz17); (try clear hcz20); (try clear hcz23); (try clear hcz27); (try clear hcz31); (try clear hcz33); (try clear hcz35); (try clear hcz39)
             (try clear hcz39); (try clear hcz41); (try clear hcz43); (try clear hcz45); (try clear hcz48); (try clear hcz51); (try clear hcz54); (try clear hcz58); (try clear hcz65); (try clear hcz67); (try clear hcz70); (try clear hcz76); (try clear hcz78); (try clear hcz9); (try clear hfz11); (try clear hfz17); (try clear hfz20); (try clear hfz23)
             (try clear hfz23); (try clear hfz27); (try clear hfz31); (try clear hfz33); (try clear hfz35); (try clear hfz39); (try clear hfz41); (try clear hfz43); (try clear hfz45); (try clear hfz48); (try clear hfz51); (try clear hfz54); (try clear hfz58); (try clear hfz65); (try clear hfz67); (try clear hfz70); (try clear hfz76); (try clear hfz78); (try clear hfz9)
             (try clear hfz9); (try clear hx455_0); (try clear p455); (try clear q455); obtain ⟨kq, z1, HA, HJ70, BK449, BK450, BK452, HB⟩ := hcut; cases kq with
             | zero => exact absurd HA.out (by simp [tallboyref29_Request.j4])
             | succ kj70 =>
              have H := HA.out; clear HA; simp only [tallboyref29_Request.j4] at H; replace H := Option.bind_eq_some_iff.mp H; obtain ⟨t456, A790, H⟩ := H; (try dsimp only at H); have A79 := Aside0.mk A790; clear A790
              by_cases c80 : t456 = 8
              ·rw [if_pos c80] at H; have c80b0 : (t456 == 8) = true := beq_iff_eq.mpr c80; have c80b1 : (t456 != 8) = false := bne_eq_false_iff_eq.mpr c80; clear c80; replace H := Option.bind_eq_some_iff.mp H; obtain ⟨t457, A810, H⟩ := H; (try dsimp only at H); have A81 := Aside0.mk A810; clear A810; replace H := Option.bind_eq_some_iff.mp H; obtain ⟨t458, A820, H⟩ := H; (try dsimp only at H); have A82 := Aside0.mk A820; clear A820
               by_cases c83 : t457.size + t458.size ≤ 9223372036854775807
               ·rw [if_pos c83] at H; have c83b0 := eq_true c83; have c83b1 : decide (t457.size + t458.size ≤ 9223372036854775807) = true := decide_eq_true c83
                try have c83b2 : (9223372036854775807 < t457.size + t458.size) = False := eq_false (Nat.not_lt.2 c83)
                simp only [Option.some.injEq, Prod.mk.injEq] at H; obtain ⟨rfl, rfl, rfl, rfl, rfl, rfl, rfl, rfl, rfl⟩ := H; have hnb84 := rP NB449_450 NB450_449; have hnb85 := rP NB449_452 NB452_449; obtain ⟨hcz86, hfz86⟩ := d8 BK449
                try go_wp2_with (first | ((with_reducible refine gate_callee (f := 52) rfl ?_); refine goesL_ (some 110) rfl rfl Try.func52 (by kernel_rfl) rfl #[.int .i64 a0_0] rfl (by (try simp only [List.map_toArray, List.map_cons, List.map_nil]); first | done | rfl | (rw [← tallboyref29_Request.uU]; rfl) | (simp only [List.length_drop, List.length_take]; rfl)) ?_; (with_reducible refine (tallboyref29_extras.calls kj70 a0_0 t456 _ A79.out).mono ?_); rintro e w' ⟨rfl, ⟨nd, rfl⟩⟩; refine ⟨_, rfl, ?_⟩; (try simp only [World.drewN_drewN]); (try (rw [drewN_self wc]; generalize hq_ : World.drewN wc _ = wc; have n0_ := Aside0.mk (bQ BK449.out hq_); have n1_ := Aside0.mk (bQ BK450.out hq_); have n2_ := Aside0.mk (bQ BK452.out hq_); have n3_ := Aside0.mk (bF HB.out hq_); clear BK449 BK450 BK452 HB hq_; have BK449 := n0_; have BK450 := n1_; have BK452 := n2_; have HB := n3_; clear n0_ n1_ n2_ n3_; have hcr449_0 : wc.cell? ⟨gb449, 0, none⟩ = some (.int .i64 a0_0) := (blk_cell BK449.out 0).trans rfl; have hfr449_0 := blk_frozen BK449.out 0; have hcr449_1 : wc.cell? ⟨gb449, 1, none⟩ = some (.slice A0_1 l0_1.length c0_1) := (blk_cell BK449.out 1).trans rfl; have hfr449_1 := blk_frozen BK449.out 1; have hcr449_2 : wc.cell? ⟨gb449, 2, none⟩ = some (.int .u32 a0_2) := (blk_cell BK449.out 2).trans rfl; have hfr449_2 := blk_frozen BK449.out 2; have hcr449_3 : wc.cell? ⟨gb449, 3, none⟩ = some (.int .i64 a0_3) := (blk_cell BK449.out 3).trans rfl; have hfr449_3 := blk_frozen BK449.out 3; have hcr449_4 : wc.cell? ⟨gb449, 4, none⟩ = some (.string a0_4) := (blk_cell BK449.out 4).trans rfl; have hfr449_4 := blk_frozen BK449.out 4; have hcr449_5 : wc.cell? ⟨gb449, 5, none⟩ = some (.int .u64 a0_5) := (blk_cell BK449.out 5).trans rfl; have hfr449_5 := blk_frozen BK449.out 5; have hcr449_6 : wc.cell? ⟨gb449, 6, none⟩ = some (.int .u64 a0_6) := (blk_cell BK449.out 6).trans rfl; have hfr449_6 := blk_frozen BK449.out 6; have hcr449_7 : wc.cell? ⟨gb449, 7, none⟩ = some (.bool a0_7) := (blk_cell BK449.out 7).trans rfl; have hfr449_7 := blk_frozen BK449.out 7))))
                replace BK449 := Aside0.mk (bD BK449.out); replace BK450 := Aside0.mk (bD BK450.out); replace BK452 := Aside0.mk (bD BK452.out); replace HB := Aside0.mk (eD HB.out); refine start_ (n := 13) (S := fun w' => w'.cell? ⟨gb449, 0, none⟩ = some (.int .i64 a0_0) ∧ w'.cell? ⟨gb449, 1, none⟩ = some (.slice A0_1 l0_1.length c0_1) ∧ w'.cell? ⟨gb449, 2, none⟩ = some (.int .u32 a0_2) ∧ w'.cell? ⟨gb449, 3, none⟩ = some (.int .i64 a0_3) ∧ w'.cell? ⟨gb449, 4, none⟩ = some (.string a0_4) ∧ w'.cell? ⟨gb449, 5, none⟩ = some (.int .u64 a0_5) ∧ w'.cell? ⟨gb449, 6, none⟩ = some (.int .u64 a0_6) ∧ w'.cell? ⟨gb449, 7, none⟩ = some (.bool a0_7)) (ds := []) #[false, false, false, false, false, false, false, false, false, false, false, false, false] (by kernel_rfl) rfl rfl ⟨kC BK449 0, kC BK449 1, kC BK449 2, kC BK449 3, kC BK449 4, kC BK449 5, kC BK449 6, kC BK449 7⟩ (fun hHeld => ?_); refine with_tabW tallboyref29_Request.tab24 tallboyref29_Request.bits24 (fun HT_ HW_ => ?_)
                generalize wc.drew = w87 at BK449 BK450 BK452 HB hHeld ⊢; refine pU HT_ 0 (some 113) ?_ #[true, false, false, false, false, false, false, false, false, false, false, false, false] rfl rfl ?_ ?_ ?_ ?_
                rotate_left
                ·intro w'
                 go_simp
                 with_reducible rfl
                rotate_left
                ·simp only [Act.put, sA, sB, sC, i64_w, i32_w]
                 rfl
                refine pU HT_ 4 (some 117) ?_ #[true, false, false, false, true, false, false, false, false, false, false, false, false] rfl rfl ?_ ?_ ?_ ?_
                rotate_left
                ·intro w'
                 go_simp
                 with_reducible rfl
                rotate_left
                ·simp only [Act.put, sA, sB, sC, i64_w, i32_w]
                 rfl
                refine tU HT_ HW_ hHeld 1 (some 114) ?_ #[true, true, false, false, true, false, false, false, false, false, false, false, false] rfl rfl ?_ ?_ ?_ ?_
                rotate_left
                ·rintro w' ⟨s0, s1, s2, s3, s4, s5, s6, s7⟩
                 go_simp
                 with_reducible rfl
                rotate_left
                ·simp only [Act.put, sA, sB, sC, i64_w, i32_w]
                 rfl
                refine pU HT_ 2 (some 115) ?_ #[true, true, true, false, true, false, false, false, false, false, false, false, false] rfl rfl ?_ ?_ ?_ ?_
                rotate_left
                ·intro w'
                 go_simp
                 with_reducible rfl
                rotate_left
                ·simp only [Act.put, sA, sB, sC, i64_w, i32_w]
                 rfl
                refine tU HT_ HW_ hHeld 5 (some 118) ?_ #[true, true, true, false, true, true, false, false, false, false, false, false, false] rfl rfl ?_ ?_ ?_ ?_
                rotate_left
                ·rintro w' ⟨s0, s1, s2, s3, s4, s5, s6, s7⟩
                 go_simp
                 with_reducible rfl
                rotate_left
                ·simp only [Act.put, sA, sB, sC, i64_w, i32_w]
                 rfl
                refine pU HT_ 6 (some 119) ?_ #[true, true, true, false, true, true, true, false, false, false, false, false, false] rfl rfl ?_ ?_ ?_ ?_
                rotate_left
                ·intro w'
                 go_simp
                 with_reducible rfl
                rotate_left
                ·simp only [Act.put, sA, sB, sC, i64_w, i32_w]
                 rfl
                refine pU HT_ 7 (some 120) ?_ #[true, true, true, false, true, true, true, true, false, false, false, false, false] rfl rfl ?_ ?_ ?_ ?_
                rotate_left
                ·intro w'
                 go_simp
                 with_reducible rfl
                rotate_left
                ·simp only [Act.put, sA, sB, sC, i64_w, i32_w]
                 rfl
                refine pU HT_ 8 (some 121) ?_ #[true, true, true, false, true, true, true, true, true, false, false, false, false] rfl rfl ?_ ?_ ?_ ?_
                rotate_left
                ·intro w'
                 go_simp
                 with_reducible rfl
                rotate_left
                ·simp only [Act.put, sA, sB, sC, i64_w, i32_w]
                 rfl
                refine one_ (i := 3) (N := some 116) #[true, true, true, true, true, true, true, true, true, false, false, false, false] rfl rfl (one_of HT_.out (by kernel_rfl)) (by decide) (fun K hK => ?_)
                refine goes_ Try.func40 (by kernel_rfl) rfl #[.int .u64 (IntKind.u64.wrap (a0_2)), .int .i64 4] (by rfl) rfl rfl (by (try simp only [List.map_toArray, List.map_cons, List.map_nil]); first | done | rfl | (rw [← tallboyref29_Request.uU]; rfl) | (simp only [List.length_drop, List.length_take]; rfl)) ?_
                with_reducible refine (tallboyref29_Put.calls kj70 (IntKind.u64.wrap (a0_2)) 4 t457 _ A81.out).mono ?_
                rintro e w88 ⟨rfl, hb⟩
                refine ⟨_, rfl, ?_⟩
                replace BK449 := rB BK449 hb; replace BK450 := rB BK450 hb; replace BK452 := rB BK452 hb; replace HB := rS HB hb
                (try clear hb)
                
                
                
                refine hK.out _ _ ⟨kC BK449 0, kC BK449 1, kC BK449 2, kC BK449 3, kC BK449 4, kC BK449 5, kC BK449 6, kC BK449 7⟩ (fun hHeld => ?_)
                clear hK K; refine norm_ (a' := ?_) ?_ ?_
                rotate_left
                ·show Act.put _ (some 116) _ = _
                 simp only [Act.put, sA, sB, sC, i64_w, i32_w]
                 rfl
                refine one_ (i := 9) (N := some 122) #[true, true, true, true, true, true, true, true, true, true, false, false, false] rfl rfl (one_of HT_.out (by kernel_rfl)) (by decide) (fun K hK => ?_)
                refine goes_ Try.func40 (by kernel_rfl) rfl #[.int .u64 ((wrap32 (a0_3)) % 4294967296), .int .i64 4] (by rfl) rfl rfl (by (try simp only [List.map_toArray, List.map_cons, List.map_nil]); first | done | rfl | (rw [← tallboyref29_Request.uU]; rfl) | (simp only [List.length_drop, List.length_take]; rfl)) ?_
                with_reducible refine (tallboyref29_Put.calls kj70 ((wrap32 (a0_3)) % 4294967296) 4 t458 _ A82.out).mono ?_
                rintro e w89 ⟨rfl, hb⟩
                refine ⟨_, rfl, ?_⟩
                replace BK449 := rB BK449 hb; replace BK450 := rB BK450 hb; replace BK452 := rB BK452 hb; replace HB := rS HB hb
                (try clear hb)
                
                
                
                refine hK.out _ _ ⟨kC BK449 0, kC BK449 1, kC BK449 2, kC BK449 3, kC BK449 4, kC BK449 5, kC BK449 6, kC BK449 7⟩ (fun hHeld => ?_)
                clear hK K; refine norm_ (a' := ?_) ?_ ?_
                rotate_left
                ·show Act.put _ (some 122) _ = _
                 simp only [Act.put, sA, sB, sC, i64_w, i32_w]
                 rfl
                refine pU HT_ 10 (some 123) ?_ #[true, true, true, true, true, true, true, true, true, true, true, false, false] rfl rfl ?_ ?_ ?_ ?_
                rotate_left
                ·intro w'
                 go_simp
                 with_reducible rfl
                rotate_left
                ·simp only [Act.put, sA, sB, sC, i64_w, i32_w]
                 rfl
                refine pU HT_ 11 (some 124) ?_ #[true, true, true, true, true, true, true, true, true, true, true, true, false] rfl rfl ?_ ?_ ?_ ?_
                rotate_left
                ·intro w'
                 go_simp
                 with_reducible rfl
                rotate_left
                ·simp only [Act.put, sA, sB, sC, i64_w, i32_w]
                 rfl
                refine one_ (i := 12) (N := none) #[true, true, true, true, true, true, true, true, true, true, true, true, true] rfl rfl (one_of HT_.out (by kernel_rfl)) (by decide) (fun K hK => ?_)
                have hs90 : w89.cell? ⟨gb452, 5, none⟩ = some (.string (⟨#[]⟩ : ByteArray)) := (blk_cell BK452.out 5).trans rfl; have hfs90 := blk_frozen BK452.out 5; have hns90_0 := NB449_452.out; have hns90_1 := NB450_452.out; have hms90_0 := NB452_449.out; have hms90_1 := NB452_450.out; refine skip_ (w1 := ?_) (by rfl) rfl ?_ ?_
                rotate_left
                ·go_simp
                 rfl
                refine hK.out _ _ ⟨(kF hHeld.1), (kF hHeld.2.1), (kF hHeld.2.2.1), (kF hHeld.2.2.2.1), (kF hHeld.2.2.2.2.1), (kF hHeld.2.2.2.2.2.1), (kF hHeld.2.2.2.2.2.2.1), (kF hHeld.2.2.2.2.2.2.2)⟩ (fun hHeld => ?_)
                clear hK K; refine done_ (done_of HT_.out (by kernel_rfl)) ?_
                have hnb91 := rP NB452_450 NB450_452; obtain ⟨hcz92, hfz92⟩ := d8 BK452; obtain ⟨hcz93, hfz93⟩ := d8 BK450
                try go_wp2
                refine bodyPost_ret (results_ct rfl _ _ gb450 26 #[.bool false, .int .u8 z0, .int .u16 0, .int .u32 a1, .int .u64 a0_5, .string (t457 ++ t458), .string z1, .string a0_4] (0, 0) _ rfl (bV BK450.out) Try.underlying26 rfl (by kernel_rfl)) rfl ?_
                exact ⟨xR, bH HB.out⟩
               ·rw [if_neg c83] at H; exact absurd H (by simp)
              ·rw [if_neg c80] at H; have c80b0 : (t456 == 8) = false := beq_eq_false_iff_ne.mpr c80; have c80b1 : (t456 != 8) = true := bne_iff_ne.mpr c80
               by_cases c94 : t456 = 4
               ·rw [if_pos c94] at H; have c94b0 : (t456 == 4) = true := beq_iff_eq.mpr c94; have c94b1 : (t456 != 4) = false := bne_eq_false_iff_eq.mpr c94; clear c94; replace H := Option.bind_eq_some_iff.mp H; obtain ⟨t459, A950, H⟩ := H; (try dsimp only at H); have A95 := Aside0.mk A950; clear A950; simp only [Option.some.injEq, Prod.mk.injEq] at H; obtain ⟨rfl, rfl, rfl, rfl, rfl, rfl, rfl, rfl, rfl⟩ := H; have hnb96 := rP NB449_450 NB450_449; have hnb97 := rP NB449_452 NB452_449; obtain ⟨hcz98, hfz98⟩ := d8 BK449
                go_wp2_with (first | ((with_reducible refine gate_callee (f := 52) rfl ?_); refine goesL_ (some 110) rfl rfl Try.func52 (by kernel_rfl) rfl #[.int .i64 a0_0] rfl (by (try simp only [List.map_toArray, List.map_cons, List.map_nil]); first | done | rfl | (rw [← tallboyref29_Request.uU]; rfl) | (simp only [List.length_drop, List.length_take]; rfl)) ?_; (with_reducible refine (tallboyref29_extras.calls kj70 a0_0 t456 _ A79.out).mono ?_); rintro e w' ⟨rfl, ⟨nd, rfl⟩⟩; refine ⟨_, rfl, ?_⟩; (try simp only [World.drewN_drewN]); (try (rw [drewN_self wc]; generalize hq_ : World.drewN wc _ = wc; have n0_ := Aside0.mk (bQ BK449.out hq_); have n1_ := Aside0.mk (bQ BK450.out hq_); have n2_ := Aside0.mk (bQ BK452.out hq_); have n3_ := Aside0.mk (bF HB.out hq_); clear BK449 BK450 BK452 HB hq_; have BK449 := n0_; have BK450 := n1_; have BK452 := n2_; have HB := n3_; clear n0_ n1_ n2_ n3_; have hcr449_0 : wc.cell? ⟨gb449, 0, none⟩ = some (.int .i64 a0_0) := (blk_cell BK449.out 0).trans rfl; have hfr449_0 := blk_frozen BK449.out 0; have hcr449_1 : wc.cell? ⟨gb449, 1, none⟩ = some (.slice A0_1 l0_1.length c0_1) := (blk_cell BK449.out 1).trans rfl; have hfr449_1 := blk_frozen BK449.out 1; have hcr449_2 : wc.cell? ⟨gb449, 2, none⟩ = some (.int .u32 a0_2) := (blk_cell BK449.out 2).trans rfl; have hfr449_2 := blk_frozen BK449.out 2; have hcr449_3 : wc.cell? ⟨gb449, 3, none⟩ = some (.int .i64 a0_3) := (blk_cell BK449.out 3).trans rfl; have hfr449_3 := blk_frozen BK449.out 3; have hcr449_4 : wc.cell? ⟨gb449, 4, none⟩ = some (.string a0_4) := (blk_cell BK449.out 4).trans rfl; have hfr449_4 := blk_frozen BK449.out 4; have hcr449_5 : wc.cell? ⟨gb449, 5, none⟩ = some (.int .u64 a0_5) := (blk_cell BK449.out 5).trans rfl; have hfr449_5 := blk_frozen BK449.out 5; have hcr449_6 : wc.cell? ⟨gb449, 6, none⟩ = some (.int .u64 a0_6) := (blk_cell BK449.out 6).trans rfl; have hfr449_6 := blk_frozen BK449.out 6; have hcr449_7 : wc.cell? ⟨gb449, 7, none⟩ = some (.bool a0_7) := (blk_cell BK449.out 7).trans rfl; have hfr449_7 := blk_frozen BK449.out 7))) | ((with_reducible refine gate_callee (f := 40) rfl ?_); refine goesL_ (some 132) rfl rfl Try.func40 (by kernel_rfl) rfl #[.int .u64 ((wrap32 (a0_3)) % 4294967296), .int .i64 4] rfl (by (try simp only [List.map_toArray, List.map_cons, List.map_nil]); first | done | rfl | (rw [← tallboyref29_Request.uU]; rfl) | (simp only [List.length_drop, List.length_take]; rfl)) ?_; (with_reducible refine (tallboyref29_Put.calls kj70 ((wrap32 (a0_3)) % 4294967296) 4 t459 _ A95.out).mono ?_); rintro e w99 ⟨rfl, hb⟩; refine ⟨_, rfl, ?_⟩; replace BK449 := rB BK449 hb; replace BK450 := rB BK450 hb; replace BK452 := rB BK452 hb; replace HB := rS HB hb; (try clear hb); have hnb100 := rP NB452_450 NB450_452; obtain ⟨hcz101, hfz101⟩ := d8 BK452; obtain ⟨hcz102, hfz102⟩ := d8 BK450))
                refine bodyPost_ret (results_ct rfl _ _ gb450 26 #[.bool false, .int .u8 z0, .int .u16 0, .int .u32 a1, .int .u64 a0_5, .string t459, .string z1, .string a0_4] (0, 0) _ rfl (bV BK450.out) Try.underlying26 rfl (by kernel_rfl)) rfl ?_
                exact ⟨xR, bH HB.out⟩
               ·rw [if_neg c94] at H; have c94b0 : (t456 == 4) = false := beq_eq_false_iff_ne.mpr c94; have c94b1 : (t456 != 4) = true := bne_iff_ne.mpr c94
                by_cases c103 : t456 = 20
                ·rw [if_pos c103] at H; have c103b0 : (t456 == 20) = true := beq_iff_eq.mpr c103; have c103b1 : (t456 != 20) = false := bne_eq_false_iff_eq.mpr c103; clear c103; replace H := Option.bind_eq_some_iff.mp H; obtain ⟨t460, z2, H⟩ := H; (try dsimp only at H); have A104 := Aside0.mk z2; clear z2; replace H := Option.bind_eq_some_iff.mp H; obtain ⟨t461, z3, H⟩ := H; (try dsimp only at H); have A105 := Aside0.mk z3; clear z3
                 by_cases c106 : t460.size + t461.size ≤ 9223372036854775807
                 ·rw [if_pos c106] at H; have c106b0 := eq_true c106; have c106b1 : decide (t460.size + t461.size ≤ 9223372036854775807) = true := decide_eq_true c106
                  try have c106b2 : (9223372036854775807 < t460.size + t461.size) = False := eq_false (Nat.not_lt.2 c106)
                  replace H := Option.bind_eq_some_iff.mp H; obtain ⟨t462, z4, H⟩ := H; (try dsimp only at H); have A107 := Aside0.mk z4; clear z4
                  by_cases c108 : (t460 ++ t461).size + t462.size ≤ 9223372036854775807
                  ·rw [if_pos c108] at H; have c108b0 := eq_true c108; have c108b1 : decide ((t460 ++ t461).size + t462.size ≤ 9223372036854775807) = true := decide_eq_true c108
                   try have c108b2 : (9223372036854775807 < (t460 ++ t461).size + t462.size) = False := eq_false (Nat.not_lt.2 c108)
                   try (have c108b3 := c108b2; simp only [ByteArray.size_append] at c108b3)
                   simp only [Option.some.injEq, Prod.mk.injEq] at H; obtain ⟨rfl, rfl, rfl, rfl, rfl, rfl, rfl, rfl, rfl⟩ := H; have hnb109 := rP NB449_450 NB450_449; have hnb110 := rP NB449_452 NB452_449; obtain ⟨hcz111, hfz111⟩ := d8 BK449
                   go_wp2_with (first | ((with_reducible refine gate_callee (f := 52) rfl ?_); refine goesL_ (some 110) rfl rfl Try.func52 (by kernel_rfl) rfl #[.int .i64 a0_0] rfl (by (try simp only [List.map_toArray, List.map_cons, List.map_nil]); first | done | rfl | (rw [← tallboyref29_Request.uU]; rfl) | (simp only [List.length_drop, List.length_take]; rfl)) ?_; (with_reducible refine (tallboyref29_extras.calls kj70 a0_0 t456 _ A79.out).mono ?_); rintro e w' ⟨rfl, ⟨nd, rfl⟩⟩; refine ⟨_, rfl, ?_⟩; (try simp only [World.drewN_drewN]); (try (rw [drewN_self wc]; generalize hq_ : World.drewN wc _ = wc; have n0_ := Aside0.mk (bQ BK449.out hq_); have n1_ := Aside0.mk (bQ BK450.out hq_); have n2_ := Aside0.mk (bQ BK452.out hq_); have n3_ := Aside0.mk (bF HB.out hq_); clear BK449 BK450 BK452 HB hq_; have BK449 := n0_; have BK450 := n1_; have BK452 := n2_; have HB := n3_; clear n0_ n1_ n2_ n3_; have hcr449_0 : wc.cell? ⟨gb449, 0, none⟩ = some (.int .i64 a0_0) := (blk_cell BK449.out 0).trans rfl; have hfr449_0 := blk_frozen BK449.out 0; have hcr449_1 : wc.cell? ⟨gb449, 1, none⟩ = some (.slice A0_1 l0_1.length c0_1) := (blk_cell BK449.out 1).trans rfl; have hfr449_1 := blk_frozen BK449.out 1; have hcr449_2 : wc.cell? ⟨gb449, 2, none⟩ = some (.int .u32 a0_2) := (blk_cell BK449.out 2).trans rfl; have hfr449_2 := blk_frozen BK449.out 2; have hcr449_3 : wc.cell? ⟨gb449, 3, none⟩ = some (.int .i64 a0_3) := (blk_cell BK449.out 3).trans rfl; have hfr449_3 := blk_frozen BK449.out 3; have hcr449_4 : wc.cell? ⟨gb449, 4, none⟩ = some (.string a0_4) := (blk_cell BK449.out 4).trans rfl; have hfr449_4 := blk_frozen BK449.out 4; have hcr449_5 : wc.cell? ⟨gb449, 5, none⟩ = some (.int .u64 a0_5) := (blk_cell BK449.out 5).trans rfl; have hfr449_5 := blk_frozen BK449.out 5; have hcr449_6 : wc.cell? ⟨gb449, 6, none⟩ = some (.int .u64 a0_6) := (blk_cell BK449.out 6).trans rfl; have hfr449_6 := blk_frozen BK449.out 6; have hcr449_7 : wc.cell? ⟨gb449, 7, none⟩ = some (.bool a0_7) := (blk_cell BK449.out 7).trans rfl; have hfr449_7 := blk_frozen BK449.out 7))) | ((with_reducible refine gate_callee (f := 40) rfl ?_); refine goesL_ (some 138) rfl rfl Try.func40 (by kernel_rfl) rfl #[.int .u64 a0_6, .int .i64 8] rfl (by (try simp only [List.map_toArray, List.map_cons, List.map_nil]); first | done | rfl | (rw [← tallboyref29_Request.uU]; rfl) | (simp only [List.length_drop, List.length_take]; rfl)) ?_; (with_reducible refine (tallboyref29_Put.calls kj70 a0_6 8 t460 _ A104.out).mono ?_); rintro e w112 ⟨rfl, hb⟩; refine ⟨_, rfl, ?_⟩; replace BK449 := rB BK449 hb; replace BK450 := rB BK450 hb; replace BK452 := rB BK452 hb; replace HB := rS HB hb; (try clear hb); ) | ((with_reducible refine gate_callee (f := 40) rfl ?_); refine goesL_ (some 139) rfl rfl Try.func40 (by kernel_rfl) rfl #[.int .u64 0, .int .i64 8] rfl (by (try simp only [List.map_toArray, List.map_cons, List.map_nil]); first | done | rfl | (rw [← tallboyref29_Request.uU]; rfl) | (simp only [List.length_drop, List.length_take]; rfl)) ?_; (with_reducible refine (tallboyref29_Put.calls kj70 0 8 t461 _ A105.out).mono ?_); rintro e w113 ⟨rfl, hb⟩; refine ⟨_, rfl, ?_⟩; replace BK449 := rB BK449 hb; replace BK450 := rB BK450 hb; replace BK452 := rB BK452 hb; replace HB := rS HB hb; (try clear hb); ) | ((with_reducible refine gate_callee (f := 40) rfl ?_); refine goesL_ (some 141) rfl rfl Try.func40 (by kernel_rfl) rfl #[.int .u64 4294967295, .int .i64 4] rfl (by (try simp only [List.map_toArray, List.map_cons, List.map_nil]); first | done | rfl | (rw [← tallboyref29_Request.uU]; rfl) | (simp only [List.length_drop, List.length_take]; rfl)) ?_; (with_reducible refine (tallboyref29_Put.calls kj70 4294967295 4 t462 _ A107.out).mono ?_); rintro e w114 ⟨rfl, hb⟩; refine ⟨_, rfl, ?_⟩; replace BK449 := rB BK449 hb; replace BK450 := rB BK450 hb; replace BK452 := rB BK452 hb; replace HB := rS HB hb; (try clear hb); have hnb115 := rP NB452_450 NB450_452; obtain ⟨hcz116, hfz116⟩ := d8 BK452; obtain ⟨hcz117, hfz117⟩ := d8 BK450))
                   refine bodyPost_ret (results_ct rfl _ _ gb450 26 #[.bool false, .int .u8 z0, .int .u16 0, .int .u32 a1, .int .u64 a0_5, .string ((t460 ++ t461) ++ t462), .string z1, .string a0_4] (0, 0) _ rfl (bV BK450.out) Try.underlying26 rfl (by kernel_rfl)) rfl ?_
                   exact ⟨xR, bH HB.out⟩
                  ·rw [if_neg c108] at H; exact absurd H (by simp)
                 ·rw [if_neg c106] at H; exact absurd H (by simp)
                ·rw [if_neg c103] at H; have c103b0 : (t456 == 20) = false := beq_eq_false_iff_ne.mpr c103; have c103b1 : (t456 != 20) = true := bne_iff_ne.mpr c103; simp only [Option.some.injEq, Prod.mk.injEq] at H; obtain ⟨rfl, rfl, rfl, rfl, rfl, rfl, rfl, rfl, rfl⟩ := H; have hnb118 := rP NB449_450 NB450_449; have hnb119 := rP NB449_452 NB452_449; obtain ⟨hcz120, hfz120⟩ := d8 BK449
                 go_wp2_with (first | ((with_reducible refine gate_callee (f := 52) rfl ?_); refine goesL_ (some 110) rfl rfl Try.func52 (by kernel_rfl) rfl #[.int .i64 a0_0] rfl (by (try simp only [List.map_toArray, List.map_cons, List.map_nil]); first | done | rfl | (rw [← tallboyref29_Request.uU]; rfl) | (simp only [List.length_drop, List.length_take]; rfl)) ?_; (with_reducible refine (tallboyref29_extras.calls kj70 a0_0 t456 _ A79.out).mono ?_); rintro e w' ⟨rfl, ⟨nd, rfl⟩⟩; refine ⟨_, rfl, ?_⟩; (try simp only [World.drewN_drewN]); (try (rw [drewN_self wc]; generalize hq_ : World.drewN wc _ = wc; have n0_ := Aside0.mk (bQ BK449.out hq_); have n1_ := Aside0.mk (bQ BK450.out hq_); have n2_ := Aside0.mk (bQ BK452.out hq_); have n3_ := Aside0.mk (bF HB.out hq_); clear BK449 BK450 BK452 HB hq_; have BK449 := n0_; have BK450 := n1_; have BK452 := n2_; have HB := n3_; clear n0_ n1_ n2_ n3_; have hcr449_0 : wc.cell? ⟨gb449, 0, none⟩ = some (.int .i64 a0_0) := (blk_cell BK449.out 0).trans rfl; have hfr449_0 := blk_frozen BK449.out 0; have hcr449_1 : wc.cell? ⟨gb449, 1, none⟩ = some (.slice A0_1 l0_1.length c0_1) := (blk_cell BK449.out 1).trans rfl; have hfr449_1 := blk_frozen BK449.out 1; have hcr449_2 : wc.cell? ⟨gb449, 2, none⟩ = some (.int .u32 a0_2) := (blk_cell BK449.out 2).trans rfl; have hfr449_2 := blk_frozen BK449.out 2; have hcr449_3 : wc.cell? ⟨gb449, 3, none⟩ = some (.int .i64 a0_3) := (blk_cell BK449.out 3).trans rfl; have hfr449_3 := blk_frozen BK449.out 3; have hcr449_4 : wc.cell? ⟨gb449, 4, none⟩ = some (.string a0_4) := (blk_cell BK449.out 4).trans rfl; have hfr449_4 := blk_frozen BK449.out 4; have hcr449_5 : wc.cell? ⟨gb449, 5, none⟩ = some (.int .u64 a0_5) := (blk_cell BK449.out 5).trans rfl; have hfr449_5 := blk_frozen BK449.out 5; have hcr449_6 : wc.cell? ⟨gb449, 6, none⟩ = some (.int .u64 a0_6) := (blk_cell BK449.out 6).trans rfl; have hfr449_6 := blk_frozen BK449.out 6; have hcr449_7 : wc.cell? ⟨gb449, 7, none⟩ = some (.bool a0_7) := (blk_cell BK449.out 7).trans rfl; have hfr449_7 := blk_frozen BK449.out 7)); have hnb121 := rP NB452_450 NB450_452; obtain ⟨hcz122, hfz122⟩ := d8 BK452; obtain ⟨hcz123, hfz123⟩ := d8 BK450))
                 refine bodyPost_ret (results_ct rfl _ _ gb450 26 #[.bool false, .int .u8 z0, .int .u16 0, .int .u32 a1, .int .u64 a0_5, .string (⟨#[]⟩ : ByteArray), .string z1, .string a0_4] (0, 0) _ rfl (bV BK450.out) Try.underlying26 rfl (by kernel_rfl)) rfl ?_
                 exact ⟨xR, bH HB.out⟩
 ·rw [if_neg c4] at H; have c4b0 : (t451 == 0) = false := beq_eq_false_iff_ne.mpr c4; have c4b1 : (t451 != 0) = true := bne_iff_ne.mpr c4; simp only [Option.some.injEq, Prod.mk.injEq] at H; obtain ⟨rfl, rfl, rfl, rfl, rfl, rfl, rfl, rfl, rfl⟩ := H; go_enter Try.func34, Try.ntmps34
  go_wp2_with (first | ((with_reducible refine gate_dst (N := 2) rfl ?_); refine bE 2 #[.int .i64 a0_0, .slice A0_1 l0_1.length c0_1, .int .u32 a0_2, .int .i64 a0_3, .string a0_4, .int .u64 a0_5, .int .u64 a0_6, .bool a0_7] 70 rfl rfl ?_; intro gb449 hg w124 hbox hb; have BK449 := rM hbox; have GW449 := rG HB hg; replace HB := rS HB hb; have GE449 := GW449; clear hb hbox hg) | ((with_reducible refine gate_dst (N := 4) rfl ?_); refine bE 4 #[.bool false, .int .u8 0, .int .u16 0, .int .u32 0, .int .u64 0, .string (⟨#[]⟩ : ByteArray), .string (⟨#[]⟩ : ByteArray), .string (⟨#[]⟩ : ByteArray)] 26 rfl rfl ?_; intro gb450 hg w125 hbox hb; have BK450 := rM hbox; have GW450 := rG HB hg; replace HB := rS HB hb; have GE450 := GW450; have NB449_450 := rN BK449 hg; replace BK449 := rB BK449 hb; have NB450_449 := rY NB449_450; clear hb hbox hg; have hnb126 := rP NB449_450 NB450_449; obtain ⟨hcz127, hfz127⟩ := d8 BK449) | ((with_reducible refine gate_callee (f := 53) rfl ?_); refine goesL_ (some 15) rfl rfl Try.func53 (by kernel_rfl) rfl #[.agg #[.int .i64 a0_0, .slice A0_1 l0_1.length c0_1, .int .u32 a0_2, .int .i64 a0_3, .string a0_4, .int .u64 a0_5, .int .u64 a0_6, .bool a0_7]] rfl (by (try simp only [List.map_toArray, List.map_cons, List.map_nil]); first | done | rfl | (rw [← tallboyref29_Request.uU]; rfl) | (simp only [List.length_drop, List.length_take]; rfl)) ?_; (with_reducible refine (tallboyref15_Check.calls k a0_0 _ _ l0_1 a0_2 a0_3 a0_4 a0_5 a0_6 a0_7 t451 _ ?side1 ?side2 A3.out).mono ?_); (case side1 => repeat (first | exact (Kd.C_below HR0_1.out HB.out) | (with_reducible refine Kd.C_alloc ?_ _) | (with_reducible refine Kd.C_drewN ?_ _) | (with_reducible refine Kd.C_drew ?_))); (case side2 => exact HC0_1.out); rintro e w128 ⟨rfl, hb⟩; refine ⟨_, rfl, ?_⟩; replace BK449 := rB BK449 hb; replace BK450 := rB BK450 hb; replace HB := rS HB hb; (try clear hb); obtain ⟨hcz129, hfz129⟩ := d8 BK450))
  refine bodyPost_ret (results_ct rfl _ _ gb450 26 #[.bool false, .int .u8 0, .int .u16 0, .int .u32 0, .int .u64 0, .string (⟨#[]⟩ : ByteArray), .string (⟨#[]⟩ : ByteArray), .string (⟨#[]⟩ : ByteArray)] (0, 0) _ rfl (bV BK450.out) Try.underlying26 rfl (by kernel_rfl)) rfl ?_
  exact ⟨xR, bH HB.out⟩

end Go.Proofs.Ytdepkgikdmlgiaa.P
