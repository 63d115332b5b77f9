/- Lean functions for the Go functions that the laws of this seat use, and the proofs that the Go code computes them; conditions: the readings that each theorem names. Written by a program. -/
import Derived.Test.YtdepkgikdmlgiaaPx0
import Derived.Test.YtdepkgikdmlgiaaPx15
import Derived.Test.YtdepkgikdmlgiaaPx24
import Derived.Test.YtdepkgikdmlgiaaPx27
import Derived.Test.YtdepkgikdmlgiaaShort
namespace Go.Proofs.Ytdepkgikdmlgiaa.P
open Go.RowKit Go.Proofs.YtdepkgikdmlgiaaW.PrintWords Go.Proofs.YtdepkgikdmlgiaaW.PrintLast Go.Proofs.YtdepkgikdmlgiaaW.PrintMore
set_option linter.unusedVariables false
set_option linter.unusedSimpArgs false

/-! ### frame_plain: function 54 -/
def frame_plain.j0 : Nat → Bool → Int → List ByteArray → Int → Int → ByteArray → Int → Int → Bool → Option (Bool)
 | 0, _, _, _, _, _, _, _, _, _ => none
 | k + 1, x3, z8, x417001, x417002, x417003, x417004, x417005, x417006, z9 => if x3 = true then (some false) else (if z8 = 4 then (some false) else (if z8 = 14 then (some (!z9)) else (if z8 = 10 then (if z9 = true then (some false) else (some (x417005 != 0))) else (some true))))
def frame_plain.f (k : Nat) (a0_0 : Int) (l0_1 : List ByteArray) (a0_2 : Int) (a0_3 : Int) (a0_4 : ByteArray) (a0_5 : Int) (a0_6 : Int) (a0_7 : Bool) : Option (Bool) := if a0_3 < (-2147483648) then (frame_plain.j0 k (decide (a0_3 < (-2147483648))) a0_0 l0_1 a0_2 a0_3 a0_4 a0_5 a0_6 a0_7) else (if a0_3 > 2147483647 then (frame_plain.j0 k (decide (a0_3 > 2147483647)) a0_0 l0_1 a0_2 a0_3 a0_4 a0_5 a0_6 a0_7) else (frame_plain.j0 k (decide ((l0_1.length : Int) > 1)) a0_0 l0_1 a0_2 a0_3 a0_4 a0_5 a0_6 a0_7))
set_option maxHeartbeats 8000000 in
set_option maxRecDepth 100000 in
theorem frame_plain.calls (k : Nat) (a0_0 : Int) (A0_1 : Option Addr) (c0_1 : Nat) (l0_1 : List ByteArray) (a0_2 : Int) (a0_3 : Int) (a0_4 : ByteArray) (a0_5 : Int) (a0_6 : Int) (a0_7 : Bool) (r : Bool) (w : World) (hr0_1 : Kd.C Kd.string w A0_1 l0_1.length l0_1) (hc0_1 : l0_1.length ≤ c0_1) (h : frame_plain.f k a0_0 l0_1 a0_2 a0_3 a0_4 a0_5 a0_6 a0_7 = some r) :
  Calls Try.prog 54 #[.agg #[.int .i64 a0_0, .slice A0_1 l0_1.length c0_1, .int .u32 a0_2, .int .i64 a0_3, .string a0_4, .int .u64 a0_5, .int .u64 a0_6, .bool a0_7]] w fun e w' => e = .returned (.bool r) ∧ Below w.heap.size w w' := by
 have hu70 := Try.underlying70; have HR0_1 := Aside0.mk hr0_1; have HC0_1 := Aside0.mk hc0_1; clear hr0_1 hc0_1; have HB := Aside0.mk (Below.refl w.heap.size w); have H : (if a0_3 < (-2147483648) then (frame_plain.j0 k (decide (a0_3 < (-2147483648))) a0_0 l0_1 a0_2 a0_3 a0_4 a0_5 a0_6 a0_7) else (if a0_3 > 2147483647 then (frame_plain.j0 k (decide (a0_3 > 2147483647)) a0_0 l0_1 a0_2 a0_3 a0_4 a0_5 a0_6 a0_7) else (frame_plain.j0 k (decide ((l0_1.length : Int) > 1)) a0_0 l0_1 a0_2 a0_3 a0_4 a0_5 a0_6 a0_7))) = some r := h; clear h; have HC2 := Aside0.mk H; clear H; go_enter Try.func54, Try.ntmps54
 go_upto_if 3 with (first | ((with_reducible refine gate_dst (N := 1) rfl ?_); refine bE 1 #[.int .i64 a0_0, .slice A0_1 l0_1.length c0_1, .int .u32 a0_2, .int .i64 a0_3, .string a0_4, .int .u64 a0_5, .int .u64 a0_6, .bool a0_7] 70 rfl rfl ?_; intro gb416 hg w3 hbox hb; have BK416 := rM hbox; have GW416 := rG HB hg; replace HB := rS HB hb; have GE416 := GW416; clear hb hbox hg; obtain ⟨hcz4, hfz4⟩ := d8 BK416))
 (try simp only [Act.put, sA, sB, sC])
 go_cut [3] (fun v3 wc => ∃ (kq : Nat) (x3_1 : Bool), v3 = .bool x3_1 ∧ Aside0 (frame_plain.j0 kq x3_1 a0_0 l0_1 a0_2 a0_3 a0_4 a0_5 a0_6 a0_7 = some r) ∧ Aside0 (kq ≤ k) ∧ Aside0 (wc.heap[gb416]? = some (.cells #[.int .i64 a0_0, (.slice A0_1 l0_1.length c0_1), .int .u32 a0_2, .int .i64 a0_3, .string a0_4, .int .u64 a0_5, .int .u64 a0_6, .bool a0_7] 70 (0, 0))) ∧ Aside0 (Below w.heap.size w wc))
 case first =>
  have H := HC2.out; clear HC2
  by_cases c5 : a0_3 < (-2147483648)
  ·rw [if_pos c5] at H; have c5b0 : decide (a0_3 < (-2147483648)) = true := decide_eq_true c5; clear c5
   (first | rw [c5b0] | (simp only [i64_w, i32_w]; rw [c5b0]) | skip)
   have H' := Aside0.mk H; clear H; go_wp2
   go_meet
   case rel => exact ⟨_, (decide (a0_3 < (-2147483648))), (by first | rfl | (simp; done) | (simp [*]; done)), H', ⟨by first | omega | exact Nat.le_refl _⟩, ⟨bK BK416.out⟩, ⟨bH HB.out⟩⟩
  ·rw [if_neg c5] at H; have c5b0 : decide (a0_3 < (-2147483648)) = false := decide_eq_false c5; clear c5
   (first | rw [c5b0] | (simp only [i64_w, i32_w]; rw [c5b0]) | skip)
   by_cases c6 : a0_3 > 2147483647
   ·rw [if_pos c6] at H; have c6b0 : decide (2147483647 < a0_3) = true := decide_eq_true c6; clear c6; have H' := Aside0.mk H; clear H; obtain ⟨hcz7, hfz7⟩ := d8 BK416; go_wp2
    go_meet
    case rel => exact ⟨_, (decide (a0_3 > 2147483647)), (by first | rfl | (simp; done) | (simp [*]; done)), H', ⟨by first | omega | exact Nat.le_refl _⟩, ⟨bK BK416.out⟩, ⟨bH HB.out⟩⟩
   ·rw [if_neg c6] at H; have c6b0 : decide (2147483647 < a0_3) = false := decide_eq_false c6; clear c6; have H' := Aside0.mk H; clear H; obtain ⟨hcz8, hfz8⟩ := d8 BK416; go_wp2
    go_meet
    case rel => exact ⟨_, (decide ((l0_1.length : Int) > 1)), (by first | rfl | (simp; done) | (simp [*]; done)), H', ⟨by first | omega | exact Nat.le_refl _⟩, ⟨bK BK416.out⟩, ⟨bH HB.out⟩⟩
 case rest =>
  clear HC2; (try clear c5b0); (try clear c6b0); (try clear hcz4); (try clear hcz7); (try clear hcz8); (try clear hfz4); (try clear hfz7); (try clear hfz8); obtain ⟨kq, x3_1, rfl, HA, HJ1, BK416, HB⟩ := hcut; cases kq with
  | zero => exact absurd HA.out (by simp [frame_plain.j0])
  | succ kj1 =>
   have H := HA.out; clear HA; simp only [frame_plain.j0] at H
   by_cases c9 : x3_1 = true
   ·subst c9; rw [if_pos rfl] at H; obtain rfl := Option.some.inj H; go_wp2; go_ret
    exact ⟨xR, bH HB.out⟩
   ·replace c9 := Bool.eq_false_iff.mpr c9; subst c9; rw [if_neg (show ¬ (false = true) by decide)] at H
    by_cases c10 : a0_0 = 4
    ·rw [if_pos c10] at H; have c10b0 : (a0_0 == 4) = true := beq_iff_eq.mpr c10; have c10b1 : (a0_0 != 4) = false := bne_eq_false_iff_eq.mpr c10; clear c10; obtain rfl := Option.some.inj H; obtain ⟨hcz11, hfz11⟩ := d8 BK416; go_wp2; go_ret
     exact ⟨xR, bH HB.out⟩
    ·rw [if_neg c10] at H; have c10b0 : (a0_0 == 4) = false := beq_eq_false_iff_ne.mpr c10; have c10b1 : (a0_0 != 4) = true := bne_iff_ne.mpr c10
     by_cases c12 : a0_0 = 14
     ·rw [if_pos c12] at H; have c12b0 : (a0_0 == 14) = true := beq_iff_eq.mpr c12; have c12b1 : (a0_0 != 14) = false := bne_eq_false_iff_eq.mpr c12; clear c12; obtain rfl := Option.some.inj H; obtain ⟨hcz13, hfz13⟩ := d8 BK416; go_wp2; go_ret
      exact ⟨xR, bH HB.out⟩
     ·rw [if_neg c12] at H; have c12b0 : (a0_0 == 14) = false := beq_eq_false_iff_ne.mpr c12; have c12b1 : (a0_0 != 14) = true := bne_iff_ne.mpr c12
      by_cases c14 : a0_0 = 10
      ·rw [if_pos c14] at H; have c14b0 : (a0_0 == 10) = true := beq_iff_eq.mpr c14; have c14b1 : (a0_0 != 10) = false := bne_eq_false_iff_eq.mpr c14; clear c14
       by_cases c15 : a0_7 = true
       ·subst c15; rw [if_pos rfl] at H; obtain rfl := Option.some.inj H; obtain ⟨hcz16, hfz16⟩ := d8 BK416; go_wp2; go_ret
        exact ⟨xR, bH HB.out⟩
       ·replace c15 := Bool.eq_false_iff.mpr c15; subst c15; rw [if_neg (show ¬ (false = true) by decide)] at H; obtain rfl := Option.some.inj H; obtain ⟨hcz17, hfz17⟩ := d8 BK416; go_wp2; go_ret
        exact ⟨xR, bH HB.out⟩
      ·rw [if_neg c14] at H; have c14b0 : (a0_0 == 10) = false := beq_eq_false_iff_ne.mpr c14; have c14b1 : (a0_0 != 10) = true := bne_iff_ne.mpr c14; obtain rfl := Option.some.inj H; obtain ⟨hcz18, hfz18⟩ := d8 BK416; go_wp2; go_ret
       exact ⟨xR, bH HB.out⟩

/-! ### frame_asks: function 55 -/
mutual
def frame_asks.j0 : Nat → Int → Int → List ByteArray → Int → Int → ByteArray → Int → Int → Bool → Option (Int)
 | 0, _, _, _, _, _, _, _, _, _ => none
 | k + 1, x3, z1, z2, z3, z4, z5, z6, z7, z0 => (frame_table.f).bind fun t418 => (frame_asks.l0 k x3 t418 (t418.length : Int) 0 z1 z2 z3 z4 z5 z6 z7 z0)
def frame_asks.l0 : Nat → Int → List (S112) → Int → Int → Int → List ByteArray → Int → Int → ByteArray → Int → Int → Bool → Option (Int)
 | 0, _, _, _, _, _, _, _, _, _, _, _, _ => none
 | k + 1, x3, x10, x11, x12, z1, z2, z3, z4, z5, z6, z7, z0 => if x12 < x11 then (if 0 ≤ x12 then (if x12 < (x10.length : Int) then (if ((rd_T112 x10 x12).f2) = x3 then (frame_asks.j2 k x3 x10 x11 x12 z0 z1 z2 z3 z4 z5 z6 z7 z0 ((rd_T112 x10 x12).f0) ((rd_T112 x10 x12).f1) ((rd_T112 x10 x12).f2)) else (frame_asks.j2 k x3 x10 x11 x12 false z1 z2 z3 z4 z5 z6 z7 z0 ((rd_T112 x10 x12).f0) ((rd_T112 x10 x12).f1) ((rd_T112 x10 x12).f2))) else (none)) else (none)) else (some 0)
def frame_asks.j2 : Nat → Int → List (S112) → Int → Int → Bool → Int → List ByteArray → Int → Int → ByteArray → Int → Int → Bool → Int → Int → Int → Option (Int)
 | 0, _, _, _, _, _, _, _, _, _, _, _, _, _, _, _, _ => none
 | k + 1, x3, x10, x11, x12, x23, z1, z2, z3, z4, z5, z6, z7, z0, x423000, x423001, x423002 => if x23 = true then (some x423001) else (if x423002 = x3 then (some x423000) else (frame_asks.l0 k x3 x10 x11 (wrap64 (x12 + 1)) z1 z2 z3 z4 z5 z6 z7 z0))
end
def frame_asks.f (k : Nat) (a0_0 : Int) (l0_1 : List ByteArray) (a0_2 : Int) (a0_3 : Int) (a0_4 : ByteArray) (a0_5 : Int) (a0_6 : Int) (a0_7 : Bool) : Option (Int) := if a0_0 = 10 then (frame_asks.j0 k 5 a0_0 l0_1 a0_2 a0_3 a0_4 a0_5 a0_6 a0_7) else (frame_asks.j0 k a0_0 a0_0 l0_1 a0_2 a0_3 a0_4 a0_5 a0_6 a0_7)
set_option maxHeartbeats 8000000 in
set_option maxRecDepth 100000 in
theorem frame_asks.calls (k : Nat) (a0_0 : Int) (A0_1 : Option Addr) (c0_1 : Nat) (l0_1 : List ByteArray) (a0_2 : Int) (a0_3 : Int) (a0_4 : ByteArray) (a0_5 : Int) (a0_6 : Int) (a0_7 : Bool) (r : Int) (w : World) (hr0_1 : Kd.C Kd.string w A0_1 l0_1.length l0_1) (hc0_1 : l0_1.length ≤ c0_1) (h : frame_asks.f k a0_0 l0_1 a0_2 a0_3 a0_4 a0_5 a0_6 a0_7 = some r) :
  Calls Try.prog 55 #[.agg #[.int .i64 a0_0, .slice A0_1 l0_1.length c0_1, .int .u32 a0_2, .int .i64 a0_3, .string a0_4, .int .u64 a0_5, .int .u64 a0_6, .bool a0_7]] w fun e w' => e = .returned (.int .u8 r) ∧ Below w.heap.size w w' := by
 have hu70 := Try.underlying70; have hu112 := Try.underlying112; have HR0_1 := Aside0.mk hr0_1; have HC0_1 := Aside0.mk hc0_1; clear hr0_1 hc0_1; have HB := Aside0.mk (Below.refl w.heap.size w); have H : (if a0_0 = 10 then (frame_asks.j0 k 5 a0_0 l0_1 a0_2 a0_3 a0_4 a0_5 a0_6 a0_7) else (frame_asks.j0 k a0_0 a0_0 l0_1 a0_2 a0_3 a0_4 a0_5 a0_6 a0_7)) = some r := h; clear h; have HC2 := Aside0.mk H; clear H; go_enter Try.func55, Try.ntmps55
 go_upto_if 9 with (first | ((with_reducible refine gate_dst (N := 1) rfl ?_); refine bE 1 #[.int .i64 a0_0, .slice A0_1 l0_1.length c0_1, .int .u32 a0_2, .int .i64 a0_3, .string a0_4, .int .u64 a0_5, .int .u64 a0_6, .bool a0_7] 70 rfl rfl ?_; intro gb417 hg w3 hbox hb; have BK417 := rM hbox; have GW417 := rG HB hg; replace HB := rS HB hb; have GE417 := GW417; clear hb hbox hg; obtain ⟨hcz4, hfz4⟩ := d8 BK417))
 (try simp only [Act.put, sA, sB, sC])
 go_cut [3] (fun v3 wc => ∃ (kq : Nat) (x3_1 : Int), v3 = .int .i64 x3_1 ∧ Aside0 (frame_asks.j0 kq x3_1 a0_0 l0_1 a0_2 a0_3 a0_4 a0_5 a0_6 a0_7 = some r) ∧ Aside0 (kq ≤ k) ∧ Aside0 (wc.heap[gb417]? = some (.cells #[.int .i64 a0_0, (.slice A0_1 l0_1.length c0_1), .int .u32 a0_2, .int .i64 a0_3, .string a0_4, .int .u64 a0_5, .int .u64 a0_6, .bool a0_7] 70 (0, 0))) ∧ Aside0 (Below w.heap.size w wc))
 case first =>
  have H := HC2.out; clear HC2
  by_cases c5 : a0_0 = 10
  ·rw [if_pos c5] at H; have c5b0 : (a0_0 == 10) = true := beq_iff_eq.mpr c5; have c5b1 : (a0_0 != 10) = false := bne_eq_false_iff_eq.mpr c5; clear c5
   (first | rw [c5b0] | (simp only [i64_w, i32_w]; rw [c5b0]) | skip)
   have H' := Aside0.mk H; clear H; go_wp2
   go_meet
   case rel => exact ⟨_, (5), (by first | rfl | (simp; done) | (simp [*]; done)), H', ⟨by first | omega | exact Nat.le_refl _⟩, ⟨bK BK417.out⟩, ⟨bH HB.out⟩⟩
  ·rw [if_neg c5] at H; have c5b0 : (a0_0 == 10) = false := beq_eq_false_iff_ne.mpr c5; have c5b1 : (a0_0 != 10) = true := bne_iff_ne.mpr c5
   (first | rw [c5b0] | (simp only [i64_w, i32_w]; rw [c5b0]) | skip)
   have H' := Aside0.mk H; clear H; go_wp2
   go_meet
   case rel => exact ⟨_, (a0_0), (by first | rfl | (simp; done) | (simp [*]; done)), H', ⟨by first | omega | exact Nat.le_refl _⟩, ⟨bK BK417.out⟩, ⟨bH HB.out⟩⟩
 case rest =>
  clear HC2; (try clear c5); (try clear c5b0); (try clear c5b1); (try clear hcz4); (try clear hfz4); obtain ⟨kq, x3_1, rfl, HA, HJ1, BK417, HB⟩ := hcut; cases kq with
  | zero => exact absurd HA.out (by simp [frame_asks.j0])
  | succ kj1 =>
   have H := HA.out; clear HA; simp only [frame_asks.j0] at H; replace H := Option.bind_eq_some_iff.mp H; obtain ⟨t418, A60, H⟩ := H; (try dsimp only at H); have A6 := Aside0.mk A60; clear A60; have H' := Aside0.mk H; clear H
   go_wp2_with (first | ((with_reducible refine gate_callee (f := 57) rfl ?_); refine gL (some 10) rfl rfl Try.func57 #[] rfl ?_; (with_reducible refine (frame_table.calls  t418 _ A6.out).mono ?_); rintro e w7 ⟨v419, rfl, ho0, hb⟩; refine ⟨_, rfl, ?_⟩; have HO420 := Aside0.mk (Kd.R_lower ho0 (below_size (bH HB.out))); replace BK417 := rB BK417 hb; replace HB := rS HB hb; (try clear hb); (try clear hk); (try clear ho0); obtain ⟨Ao8, co8, eo8⟩ := Kd.R_slice HO420.out; subst eo8))
   go_loopg [12] kj1 (fun kq v12 w' => ∃ (x12_2 : Int), v12 = .int .i64 x12_2 ∧ Aside0 (frame_asks.l0 kq x3_1 t418 (t418.length : Int) x12_2 a0_0 l0_1 a0_2 a0_3 a0_4 a0_5 a0_6 a0_7 = some r) ∧ Aside0 (kq ≤ kj1) ∧ Aside0 (Kd.R k112 112 w' w.heap.size (fun _ => True) (.slice Ao8 t418.length co8) t418) ∧ Aside0 (w'.heap[gb417]? = some (.cells #[.int .i64 a0_0, (.slice A0_1 l0_1.length c0_1), .int .u32 a0_2, .int .i64 a0_3, .string a0_4, .int .u64 a0_5, .int .u64 a0_6, .bool a0_7] 70 (0, 0))) ∧ Aside0 (Below w.heap.size w w'))
   case atStart => exact ⟨(0), (by first | rfl | (simp; done) | (simp [*]; done)), H', ⟨Nat.le_refl _⟩, ⟨by (with_reducible repeat (first | apply Kd.R_alloc | apply Kd.R_drewN | apply Kd.R_drew)); exact HO420.out⟩, ⟨bK BK417.out⟩, ⟨bH HB.out⟩⟩
   case round =>
    clear H'; (try clear c5); (try clear c5b0); (try clear c5b1); (try clear hcz4); (try clear hfz4); obtain ⟨x12_2, rfl, HA, HK2, HO_10, BK417, HB⟩ := hrel; cases gk with
    | zero => exact absurd HA.out (by simp [frame_asks.l0])
    | succ k2 =>
     have H := HA.out; clear HA; simp only [frame_asks.l0] at H
     by_cases c9 : x12_2 < (t418.length : Int)
     ·rw [if_pos c9] at H; have c9b0 : decide (x12_2 < (t418.length : Int)) = true := decide_eq_true c9; clear c9
      by_cases c10 : 0 ≤ x12_2
      ·rw [if_pos c10] at H; have c10b0 : decide (0 ≤ x12_2) = true := decide_eq_true c10; clear c10
       by_cases c11 : x12_2 < (t418.length : Int)
       ·rw [if_pos c11] at H; have c11b0 : decide (x12_2 < (t418.length : Int)) = true := decide_eq_true c11; clear c11; have HC12 := Aside0.mk H; clear H; have p421 : 0 ≤ (x12_2 : Int) := of_decide_eq_true (by first | (with_reducible assumption) | assumption); have q421 : x12_2 < (t418.length : Int) := of_decide_eq_true (by first | (with_reducible assumption) | assumption)
        obtain ⟨ad421, e421, hx421_0, hx421_1, hx421_2⟩ := at_T112 (Kd.R_reads' HO_10.out).2.2 x12_2 p421 q421; cases e421; replace p421 := eq_true p421; replace q421 := eq_true q421
        go_upto_region 7 with (first | ((with_reducible refine gate_dst (N := 5) rfl ?_); refine bE 5 #[.int .u8 0, .int .u8 0, .int .i64 0] 112 rfl rfl ?_; intro gb422 hg w13 hbox hb; replace HO_10 := Aside0.mk (Kd.R_below (Kd.R_elderB (by (with_reducible repeat (first | apply Kd.R_alloc | apply Kd.R_drewN | apply Kd.R_drew)); exact HO_10.out) gb422 (Nat.le_of_eq hg.symm)) hb); have BK422 := rM hbox; have GW422 := rG HB hg; replace HB := rS HB hb; have GE422 := GW422; have NB417_422 := rN BK417 hg; replace BK417 := rB BK417 hb; have NB422_417 := rY NB417_422; clear hb hbox hg; have hnb14 := rP NB422_417 NB417_422; obtain ⟨hcz15, hfz15⟩ := d3 BK422))
        (try simp only [Act.put, sA, sB, sC])
        go_cut [23] (fun v23 wc => ∃ (kq : Nat) (x23_11 : Bool), v23 = .bool x23_11 ∧ Aside0 (frame_asks.j2 kq x3_1 t418 (t418.length : Int) x12_2 x23_11 a0_0 l0_1 a0_2 a0_3 a0_4 a0_5 a0_6 a0_7 ((rd_T112 t418 x12_2).f0) ((rd_T112 t418 x12_2).f1) ((rd_T112 t418 x12_2).f2) = some r) ∧ Aside0 (kq ≤ k2) ∧ Aside0 (Kd.R k112 112 wc w.heap.size (fun k_ => k_ ≠ gb422) (.slice (some ad421) t418.length co8) t418) ∧ Aside0 (wc.heap[gb417]? = some (.cells #[.int .i64 a0_0, (.slice A0_1 l0_1.length c0_1), .int .u32 a0_2, .int .i64 a0_3, .string a0_4, .int .u64 a0_5, .int .u64 a0_6, .bool a0_7] 70 (0, 0))) ∧ Aside0 (wc.heap[gb422]? = some (.cells #[.int .u8 ((rd_T112 t418 x12_2).f0), .int .u8 ((rd_T112 t418 x12_2).f1), .int .i64 ((rd_T112 t418 x12_2).f2)] 112 (0, 0))) ∧ Aside0 (Below w.heap.size w wc))
        case first =>
         have H := HC12.out; clear HC12
         by_cases c16 : ((rd_T112 t418 x12_2).f2) = x3_1
         ·rw [if_pos c16] at H; have c16b0 : (((rd_T112 t418 x12_2).f2) == x3_1) = true := beq_iff_eq.mpr c16; have c16b1 : (((rd_T112 t418 x12_2).f2) != x3_1) = false := bne_eq_false_iff_eq.mpr c16; clear c16
          (first | rw [c16b0] | (simp only [i64_w, i32_w]; rw [c16b0]) | skip)
          have H' := Aside0.mk H; clear H; have hnb17 := rP NB422_417 NB417_422; obtain ⟨hcz18, hfz18⟩ := d3 BK422; obtain ⟨hcz19, hfz19⟩ := d8 BK417; go_wp2
          go_meet
          case rel => exact ⟨_, (a0_7), (by first | rfl | (simp; done) | (simp [*]; done)), H', ⟨by have := HJ1.out; have := HK2.out; first | omega | exact Nat.le_refl _⟩, ⟨by (with_reducible repeat (first | apply Kd.R_alloc | apply Kd.R_drewN | apply Kd.R_drew)); exact Kd.R_mono (Kd.R_far (p := ⟨gb422, 2, none⟩) (Kd.R_far (p := ⟨gb422, 1, none⟩) (Kd.R_far (p := ⟨gb422, 0, none⟩) (Kd.R_mono HO_10.out (fun k_ hk => (⟨hk, hk.2⟩ : _ ∧ k_ ≠ gb422))) (fun _ hk => hk.2) (.int .u8 ((rd_T112 t418 x12_2).f0))) (fun _ hk => hk.2) (.int .u8 ((rd_T112 t418 x12_2).f1))) (fun _ hk => hk.2) (.int .i64 ((rd_T112 t418 x12_2).f2))) (fun _ hk => hk.1.2)⟩, ⟨bK BK417.out⟩, ⟨bV BK422.out⟩, ⟨bH HB.out⟩⟩
         ·rw [if_neg c16] at H; have c16b0 : (((rd_T112 t418 x12_2).f2) == x3_1) = false := beq_eq_false_iff_ne.mpr c16; have c16b1 : (((rd_T112 t418 x12_2).f2) != x3_1) = true := bne_iff_ne.mpr c16
          (first | rw [c16b0] | (simp only [i64_w, i32_w]; rw [c16b0]) | skip)
          have H' := Aside0.mk H; clear H; have hnb20 := rP NB422_417 NB417_422; obtain ⟨hcz21, hfz21⟩ := d3 BK422; go_wp2
          go_meet
          case rel => exact ⟨_, (false), (by first | rfl | (simp; done) | (simp [*]; done)), H', ⟨by have := HJ1.out; have := HK2.out; first | omega | exact Nat.le_refl _⟩, ⟨by (with_reducible repeat (first | apply Kd.R_alloc | apply Kd.R_drewN | apply Kd.R_drew)); exact Kd.R_mono (Kd.R_far (p := ⟨gb422, 2, none⟩) (Kd.R_far (p := ⟨gb422, 1, none⟩) (Kd.R_far (p := ⟨gb422, 0, none⟩) (Kd.R_mono HO_10.out (fun k_ hk => (⟨hk, hk.2⟩ : _ ∧ k_ ≠ gb422))) (fun _ hk => hk.2) (.int .u8 ((rd_T112 t418 x12_2).f0))) (fun _ hk => hk.2) (.int .u8 ((rd_T112 t418 x12_2).f1))) (fun _ hk => hk.2) (.int .i64 ((rd_T112 t418 x12_2).f2))) (fun _ hk => hk.1.2)⟩, ⟨bK BK417.out⟩, ⟨bV BK422.out⟩, ⟨bH HB.out⟩⟩
        case rest =>
         clear HC12; (try clear c5); (try clear c5b0); (try clear c5b1); (try clear c9b0); (try clear c10); (try clear c10b0); (try clear c11); (try clear c11b0); (try clear c16); (try clear c16b0); (try clear c16b1); (try clear hcz15); (try clear hcz18); (try clear hcz19); (try clear hcz21); (try clear hcz4); (try clear hfz15); (try clear hfz18); (try clear hfz19); (try clear hfz21); (try clear hfz4); (try clear hx421_0); (try clear hx421_1); (try clear hx421_2); (try clear p421); (try clear q421); obtain ⟨kq, x23_11, rfl, HA, HJ11, HO_10, BK417, BK422, HB⟩ := hcut; cases kq with
         | zero => exact absurd HA.out (by simp [frame_asks.j2])
         | succ kj11 =>
          have H := HA.out; clear HA; simp only [frame_asks.j2] at H
          by_cases c22 : x23_11 = true
          ·subst c22; rw [if_pos rfl] at H; obtain rfl := Option.some.inj H; have hnb23 := rP NB422_417 NB417_422; obtain ⟨hcz24, hfz24⟩ := d3 BK422; go_wp2; go_ret
           exact ⟨xR, bH HB.out⟩
          ·replace c22 := Bool.eq_false_iff.mpr c22; subst c22; rw [if_neg (show ¬ (false = true) by decide)] at H
           by_cases c25 : ((rd_T112 t418 x12_2).f2) = x3_1
           ·rw [if_pos c25] at H; have c25b0 : (((rd_T112 t418 x12_2).f2) == x3_1) = true := beq_iff_eq.mpr c25; have c25b1 : (((rd_T112 t418 x12_2).f2) != x3_1) = false := bne_eq_false_iff_eq.mpr c25; clear c25; obtain rfl := Option.some.inj H; have hnb26 := rP NB422_417 NB417_422; obtain ⟨hcz27, hfz27⟩ := d3 BK422; go_wp2; go_ret
            exact ⟨xR, bH HB.out⟩
           ·rw [if_neg c25] at H; have c25b0 : (((rd_T112 t418 x12_2).f2) == x3_1) = false := beq_eq_false_iff_ne.mpr c25; have c25b1 : (((rd_T112 t418 x12_2).f2) != x3_1) = true := bne_iff_ne.mpr c25; have H' := Aside0.mk H; clear H; have hnb28 := rP NB422_417 NB417_422; obtain ⟨hcz29, hfz29⟩ := d3 BK422; go_wp2
            go_roundg kj11
            case measure => have := HJ1.out; have := HK2.out; have := HJ11.out; omega
            case rel => exact ⟨(wrap64 (x12_2 + 1)), (by first | rfl | (simp; done) | (simp [*]; done)), H', ⟨by have := HJ1.out; have := HK2.out; have := HJ11.out; omega⟩, ⟨by (with_reducible repeat (first | apply Kd.R_alloc | apply Kd.R_drewN | apply Kd.R_drew)); exact Kd.R_mono HO_10.out (fun _ hk => trivial)⟩, ⟨bK BK417.out⟩, ⟨bH HB.out⟩⟩
       ·rw [if_neg c11] at H; exact absurd H (by simp)
      ·rw [if_neg c10] at H; exact absurd H (by simp)
     ·rw [if_neg c9] at H; have c9b0 : decide (x12_2 < (t418.length : Int)) = false := decide_eq_false c9; clear c9; obtain rfl := Option.some.inj H; go_wp2; go_ret
      exact ⟨xR, bH HB.out⟩

-- NOT PRINTED: function 74 (abi_NoEscape)

-- NOT PRINTED: function 72 (strings_Builder_copyCheck)

-- NOT PRINTED: function 75 (bytealg_MakeNoZero)

-- NOT PRINTED: function 73 (strings_Builder_grow)

-- NOT PRINTED: function 68 (strings_Builder_Grow)

-- NOT PRINTED: function 69 (strings_Builder_WriteString)

-- NOT PRINTED: function 70 (strings_Builder_String)

/-! ### strings_Join: function 56 -/
def strings_Join.f (l0 : List ByteArray) (a1 : ByteArray) : Option (ByteArray) := if (l0.length : Int) = 0 then (some (⟨#[]⟩ : ByteArray)) else (if (l0.length : Int) = 1 then (if 0 < (l0.length : Int) then (some (rdOf ByteArray.empty l0 0)) else (none)) else (none))
set_option maxHeartbeats 8000000 in
set_option maxRecDepth 100000 in
theorem strings_Join.calls (A0 : Option Addr) (c0 : Nat) (l0 : List ByteArray) (a1 : ByteArray) (r : ByteArray) (w : World) (hr0 : Kd.C Kd.string w A0 l0.length l0) (hc0 : l0.length ≤ c0) (h : strings_Join.f l0 a1 = some r) :
  Calls Try.prog 56 #[.slice A0 l0.length c0, .string a1] w fun e w' => e = .returned (.string r) ∧ Below w.heap.size w w' := by
 have HR0 := Aside0.mk hr0; have HC0 := Aside0.mk hc0; clear hr0 hc0; have HB := Aside0.mk (Below.refl w.heap.size w); have H : (if (l0.length : Int) = 0 then (some (⟨#[]⟩ : ByteArray)) else (if (l0.length : Int) = 1 then (if 0 < (l0.length : Int) then (some (rdOf ByteArray.empty l0 0)) else (none)) else (none))) = some r := h; clear h
 by_cases c3 : (l0.length : Int) = 0
 ·rw [if_pos c3] at H; have c3b0 : ((l0.length : Int) == 0) = true := beq_iff_eq.mpr c3; have c3b1 : ((l0.length : Int) != 0) = false := bne_eq_false_iff_eq.mpr c3; clear c3; obtain rfl := Option.some.inj H; go_enter Try.func56, Try.ntmps56; go_wp2; go_ret
  exact ⟨xR, bH HB.out⟩
 ·rw [if_neg c3] at H; have c3b0 : ((l0.length : Int) == 0) = false := beq_eq_false_iff_ne.mpr c3; have c3b1 : ((l0.length : Int) != 0) = true := bne_iff_ne.mpr c3; have c3b2 : ¬ (l0 = []) := fun h_ => c3 (by rw [h_]; rfl)
  by_cases c4 : (l0.length : Int) = 1
  ·rw [if_pos c4] at H; have c4b0 : ((l0.length : Int) == 1) = true := beq_iff_eq.mpr c4; have c4b1 : ((l0.length : Int) != 1) = false := bne_eq_false_iff_eq.mpr c4; clear c4
   by_cases c5 : 0 < (l0.length : Int)
   ·rw [if_pos c5] at H; have c5b0 : decide (0 < (l0.length : Int)) = true := decide_eq_true c5; have c5b1 : decide (0 < l0.length) = true := decide_eq_true (by omega); clear c5; obtain rfl := Option.some.inj H; have p423 : 0 ≤ (0 : Int) := (by omega); have q423 : 0 < (l0.length : Int) := of_decide_eq_true (by first | (with_reducible assumption) | assumption)
    obtain ⟨ad423, e423, hx423_0⟩ := Kd.at_string HR0.out 0 p423 q423; cases e423; have qi423 : (0 < l0.length) = True := eq_true (by omega)
    (try rw [show ((0 : Int)).toNat = 0 from rfl] at hx423_0)
    (try rw [Addr.add_zero'] at hx423_0)
    replace p423 := eq_true p423; replace q423 := eq_true q423; go_enter Try.func56, Try.ntmps56; go_wp2; go_ret
    exact ⟨xR, bH HB.out⟩
   ·rw [if_neg c5] at H; exact absurd H (by simp)
  ·rw [if_neg c4] at H; exact absurd H (by simp)

/-! ### frame_Request: function 32 -/
def frame_Request.f (k : Nat) (a0_0 : Int) (l0_1 : List ByteArray) (a0_2 : Int) (a0_3 : Int) (a0_4 : ByteArray) (a0_5 : Int) (a0_6 : Int) (a0_7 : Bool) (a1 : Int) : Option (Bool × Int × Int × Int × Int × ByteArray × ByteArray × ByteArray × Int) := (verb_Check.f k a0_0 l0_1 a0_2 a0_3 a0_4 a0_5 a0_6 a0_7).bind fun t426 => (if t426 = 0 then ((frame_plain.f k a0_0 l0_1 a0_2 a0_3 a0_4 a0_5 a0_6 a0_7).bind fun t427 => (if t427 = true then ((frame_asks.f k a0_0 l0_1 a0_2 a0_3 a0_4 a0_5 a0_6 a0_7).bind fun t428 => ((strings_Join.f l0_1 (⟨#[]⟩ : ByteArray)).bind fun t429 => ((frame_number.f k ((wrap32 (a0_3)) % 4294967296) 4).bind fun t431 => ((frame_extras.f k a0_0).bind fun t432 => (if t432 = 4 then (some (false, t428, 0, a1, a0_5, t431, t429, a0_4, 0)) else (if t432 = 8 then ((frame_number.f k (IntKind.u64.wrap (a0_2)) 4).bind fun t433 => (if t433.size + t431.size ≤ 9223372036854775807 then (some (false, t428, 0, a1, a0_5, t433 ++ t431, t429, a0_4, 0)) else (none))) else (if t432 = 20 then ((frame_number.f k a0_6 8).bind fun t434 => ((frame_number.f k 0 8).bind fun t435 => (if t434.size + t435.size ≤ 9223372036854775807 then ((frame_number.f k 4294967295 4).bind fun t436 => (if (t434 ++ t435).size + t436.size ≤ 9223372036854775807 then (some (false, t428, 0, a1, a0_5, (t434 ++ t435) ++ t436, t429, a0_4, 0)) else (none))) else (none)))) else (some (false, t428, 0, a1, a0_5, (⟨#[]⟩ : ByteArray), t429, a0_4, 0))))))))) else (some (false, 0, 0, 0, 0, (⟨#[]⟩ : ByteArray), (⟨#[]⟩ : ByteArray), (⟨#[]⟩ : ByteArray), 6)))) else (some (false, 0, 0, 0, 0, (⟨#[]⟩ : ByteArray), (⟨#[]⟩ : ByteArray), (⟨#[]⟩ : ByteArray), t426)))
def frame_Request.T6 : Bool × List (List Nat × List Nat) := (true, [([], []), ([0], [0]), ([], []), ([], []), ([3], [3]), ([], []), ([5], [5]), ([], []), ([7], [7]), ([8, 1], [8]), ([1, 2, 4, 6, 9], [1, 2, 4, 6, 9]), ([], []), ([11, 10, 9, 0, 1, 2, 3, 4, 5, 6, 7, 8, 9, 10, 11], [10, 11])])
def frame_Request.B6 : List Nat := [0, 1, 0, 0, 8, 0, 32, 0, 128, 387, 1023, 0, 4095]
theorem frame_Request.tab6 : rtab .any (opsOf Try.f32 6) = frame_Request.T6 := by kernel_rfl
theorem frame_Request.bits6 : waitsOk frame_Request.T6.2 frame_Request.B6 = true := by kernel_rfl

end Go.Proofs.Ytdepkgikdmlgiaa.P
