/- Lean functions for the Go functions that the laws of this seat use, and the proofs that the Go code computes them; conditions: the readings that each theorem names. Written by a program. -/
import Derived.Test.YtginfaencjmhgaaDoorPx0
import Derived.Test.YtginfaencjmhgaaDoorPx14
import Derived.Test.YtginfaencjmhgaaDoorShort
namespace Go.Proofs.YtginfaencjmhgaaDoor.P
open Go.RowKit Go.Proofs.YtginfaencjmhgaaDoorW.PrintWords Go.Proofs.YtginfaencjmhgaaDoorW.PrintLast Go.Proofs.YtginfaencjmhgaaDoorW.PrintMore
attribute [local go_sem] min2_int min_two
set_option linter.unusedVariables false
set_option linter.unusedSimpArgs false

/-! ### tallboylaw19_same: function 12 -/
def tallboylaw19_same.l0 : Nat → List (S50) → List (S50) → Int → Option (Bool)
 | 0, _, _, _ => none
 | k + 1, x0, x1, x5 => if x5 < (x0.length : Int) then (if 0 ≤ x5 then (if x5 < (x1.length : Int) then ((tallboyref19_Same.f k ((rd_T50 x0 x5).f0) ((rd_T50 x0 x5).f1.f0) ((rd_T50 x0 x5).f1.f1) ((rd_T50 x0 x5).f1.f2) ((rd_T50 x0 x5).f1.f3) ((rd_T50 x0 x5).f1.f4) ((rd_T50 x0 x5).f1.f5) ((rd_T50 x0 x5).f1.f6) ((rd_T50 x0 x5).f1.f7) ((rd_T50 x1 x5).f0) ((rd_T50 x1 x5).f1.f0) ((rd_T50 x1 x5).f1.f1) ((rd_T50 x1 x5).f1.f2) ((rd_T50 x1 x5).f1.f3) ((rd_T50 x1 x5).f1.f4) ((rd_T50 x1 x5).f1.f5) ((rd_T50 x1 x5).f1.f6) ((rd_T50 x1 x5).f1.f7)).bind fun t132 => (if t132 = true then (tallboylaw19_same.l0 k x0 x1 (wrap64 (x5 + 1))) else (some false))) else (none)) else (none)) else (some true)
def tallboylaw19_same.f (k : Nat) (l0 : List (S50)) (l1 : List (S50)) : Option (Bool) := if (l0.length : Int) = (l1.length : Int) then (tallboylaw19_same.l0 k l0 l1 0) else (some false)
theorem tallboylaw19_same.mono_l : ∀ k, (∀ y0 y1 y2, LeO (tallboylaw19_same.l0 k y0 y1 y2) (tallboylaw19_same.l0 (k + 1) y0 y1 y2))
 | 0 => fun _ _ _ r h => by simp [tallboylaw19_same.l0] at h
 | k + 1 => by
  have ih0 := tallboylaw19_same.mono_l k
  ·intro y0 y1 y2
   unfold tallboylaw19_same.l0
   repeat' first | (with_reducible first | apply ih0 | apply tallboyref19_Same.mono | exact LeO.refl _ | exact LeO.none _ | refine LeO.ite ?_ ?_ | refine LeO.bind ?_ (fun _ => ?_)) | apply ih0 | apply tallboyref19_Same.mono | exact LeO.none _ | refine LeO.ite ?_ ?_ | refine LeO.bind ?_ (fun _ => ?_)
theorem tallboylaw19_same.mono : ∀ a0 a1 k, LeO (tallboylaw19_same.f k a0 a1) (tallboylaw19_same.f (k + 1) a0 a1) := by
 intro a0 a1 k
 have ih0 := tallboylaw19_same.mono_l k; unfold tallboylaw19_same.f
 repeat' first | (with_reducible first | apply ih0 | apply tallboyref19_Same.mono | exact LeO.refl _ | exact LeO.none _ | refine LeO.ite ?_ ?_ | refine LeO.bind ?_ (fun _ => ?_)) | apply ih0 | apply tallboyref19_Same.mono | exact LeO.none _ | refine LeO.ite ?_ ?_ | refine LeO.bind ?_ (fun _ => ?_)
def tallboylaw19_same.T6 : Bool × List (List Nat × List Nat) := (true, [([], []), ([], []), ([0, 1], [0, 1]), ([2], [2]), ([], []), ([], []), ([4, 5], [4, 5]), ([6], [6]), ([3, 7], [3, 7]), ([8], [8])])
def tallboylaw19_same.B6 : List Nat := [0, 0, 3, 7, 0, 0, 48, 112, 255, 511]
theorem tallboylaw19_same.tab6 : rtab .any (opsOf Tryd.f12 6) = tallboylaw19_same.T6 := by kernel_rfl
theorem tallboylaw19_same.bits6 : waitsOk tallboylaw19_same.T6.2 tallboylaw19_same.B6 = true := by kernel_rfl
set_option maxHeartbeats 8000000 in
set_option maxRecDepth 100000 in
theorem tallboylaw19_same.calls (k : Nat) (A0 : Option Addr) (c0 : Nat) (l0 : List (S50)) (A1 : Option Addr) (c1 : Nat) (l1 : List (S50)) (r : Bool) (w : World) (hr0 : Kd.C k50 w A0 l0.length l0) (hc0 : l0.length ≤ c0) (hr1 : Kd.C k50 w A1 l1.length l1) (hc1 : l1.length ≤ c1) (h : tallboylaw19_same.f k l0 l1 = some r) :
  Calls Tryd.prog 12 #[.slice A0 l0.length c0, .slice A1 l1.length c1] w fun e w' => e = .returned (.bool r) ∧ Below w.heap.size w w' := by
 have hu50 := Tryd.underlying50; have HR0 := Aside0.mk hr0; have HC0 := Aside0.mk hc0; clear hr0 hc0; have HR1 := Aside0.mk hr1; have HC1 := Aside0.mk hc1; clear hr1 hc1; have HB := Aside0.mk (Below.refl w.heap.size w); have H : (if (l0.length : Int) = (l1.length : Int) then (tallboylaw19_same.l0 k l0 l1 0) else (some false)) = some r := h; clear h
 by_cases c3 : (l0.length : Int) = (l1.length : Int)
 ·rw [if_pos c3] at H; have c3b0 : ((l0.length : Int) == (l1.length : Int)) = true := beq_iff_eq.mpr c3; have c3b1 : ((l0.length : Int) != (l1.length : Int)) = false := bne_eq_false_iff_eq.mpr c3; have c3b2 : (l0.length == l1.length) = true := by first | simpa using c3 | (simp at c3 ⊢; omega)
  clear c3; have H' := Aside0.mk H; clear H; go_enter Tryd.func12, Tryd.ntmps12; go_wp2
  go_loopg [5] k (fun kq v5 w' => ∃ (x5_1 : Int), v5 = .int .i64 x5_1 ∧ Aside0 (tallboylaw19_same.l0 kq l0 l1 x5_1 = some r) ∧ Aside0 (kq ≤ k) ∧ Aside0 (Below w.heap.size w w'))
  case atStart => exact ⟨(0), (by first | rfl | (simp; done) | (simp [*]; done)), H', ⟨Nat.le_refl _⟩, ⟨bH HB.out⟩⟩
  case round =>
   clear H'; (try clear c1); (try clear c3); (try clear c3b0); (try clear c3b1); (try clear c3b2); obtain ⟨x5_1, rfl, HA, HK1, HB⟩ := hrel; cases gk with
   | zero => exact absurd HA.out (by simp [tallboylaw19_same.l0])
   | succ k1 =>
    have H := HA.out; clear HA; simp only [tallboylaw19_same.l0] at H
    by_cases c4 : x5_1 < (l0.length : Int)
    ·rw [if_pos c4] at H; have c4b0 : decide (x5_1 < (l0.length : Int)) = true := decide_eq_true c4; clear c4
     by_cases c5 : 0 ≤ x5_1
     ·rw [if_pos c5] at H; have c5b0 : decide (0 ≤ x5_1) = true := decide_eq_true c5; clear c5
      by_cases c6 : x5_1 < (l1.length : Int)
      ·rw [if_pos c6] at H; have c6b0 : decide (x5_1 < (l1.length : Int)) = true := decide_eq_true c6; clear c6; replace H := Option.bind_eq_some_iff.mp H; obtain ⟨t132, A70, H⟩ := H; (try dsimp only at H); have A7 := Aside0.mk A70; clear A70
       by_cases c8 : t132 = true
       ·subst c8; rw [if_pos rfl] at H; have H' := Aside0.mk H; clear H
        try go_wp2
        replace HB := Aside0.mk (eD HB.out); have p130 : 0 ≤ (x5_1 : Int) := of_decide_eq_true (by first | (with_reducible assumption) | assumption); have q130 : x5_1 < (l0.length : Int) := of_decide_eq_true (by first | (with_reducible assumption) | assumption)
        obtain ⟨ad130, A130_2, c130_2, e130, hx130_0, hx130_1, hx130_2, hx130_3, hx130_4, hx130_5, hx130_6, hx130_7, hx130_8, hl130_2, hi130_2⟩ := at_T50 HR0.out x5_1 p130 q130; have hw130_8 := hx130_8; have hw130_7 := hx130_7; have hw130_6 := hx130_6; have hw130_5 := hx130_5; have hw130_4 := hx130_4; have hw130_3 := hx130_3; have hw130_2 := hx130_2; have hw130_1 := hx130_1; have hw130_0 := hx130_0; cases e130; replace hx130_0 := (HB.out.cell (World.block_lt_of_cell? w _ hx130_0)).trans hx130_0; replace hx130_1 := (HB.out.cell (World.block_lt_of_cell? w _ hx130_1)).trans hx130_1; replace hx130_2 := (HB.out.cell (World.block_lt_of_cell? w _ hx130_2)).trans hx130_2; replace hx130_3 := (HB.out.cell (World.block_lt_of_cell? w _ hx130_3)).trans hx130_3; replace hx130_4 := (HB.out.cell (World.block_lt_of_cell? w _ hx130_4)).trans hx130_4; replace hx130_5 := (HB.out.cell (World.block_lt_of_cell? w _ hx130_5)).trans hx130_5; replace hx130_6 := (HB.out.cell (World.block_lt_of_cell? w _ hx130_6)).trans hx130_6; replace hx130_7 := (HB.out.cell (World.block_lt_of_cell? w _ hx130_7)).trans hx130_7; replace hx130_8 := (HB.out.cell (World.block_lt_of_cell? w _ hx130_8)).trans hx130_8; have HR130_2 := Aside0.mk hi130_2; have HC130_2 := Aside0.mk hl130_2; clear hi130_2 hl130_2; replace p130 := eq_true p130; replace q130 := eq_true q130; have p131 : 0 ≤ (x5_1 : Int) := of_decide_eq_true (by first | (with_reducible assumption) | assumption); have q131 : x5_1 < (l1.length : Int) := of_decide_eq_true (by first | (with_reducible assumption) | assumption)
        obtain ⟨ad131, A131_2, c131_2, e131, hx131_0, hx131_1, hx131_2, hx131_3, hx131_4, hx131_5, hx131_6, hx131_7, hx131_8, hl131_2, hi131_2⟩ := at_T50 HR1.out x5_1 p131 q131; have hw131_8 := hx131_8; have hw131_7 := hx131_7; have hw131_6 := hx131_6; have hw131_5 := hx131_5; have hw131_4 := hx131_4; have hw131_3 := hx131_3; have hw131_2 := hx131_2; have hw131_1 := hx131_1; have hw131_0 := hx131_0; cases e131; replace hx131_0 := (HB.out.cell (World.block_lt_of_cell? w _ hx131_0)).trans hx131_0; replace hx131_1 := (HB.out.cell (World.block_lt_of_cell? w _ hx131_1)).trans hx131_1; replace hx131_2 := (HB.out.cell (World.block_lt_of_cell? w _ hx131_2)).trans hx131_2; replace hx131_3 := (HB.out.cell (World.block_lt_of_cell? w _ hx131_3)).trans hx131_3; replace hx131_4 := (HB.out.cell (World.block_lt_of_cell? w _ hx131_4)).trans hx131_4; replace hx131_5 := (HB.out.cell (World.block_lt_of_cell? w _ hx131_5)).trans hx131_5; replace hx131_6 := (HB.out.cell (World.block_lt_of_cell? w _ hx131_6)).trans hx131_6; replace hx131_7 := (HB.out.cell (World.block_lt_of_cell? w _ hx131_7)).trans hx131_7; replace hx131_8 := (HB.out.cell (World.block_lt_of_cell? w _ hx131_8)).trans hx131_8; have HR131_2 := Aside0.mk hi131_2; have HC131_2 := Aside0.mk hl131_2; clear hi131_2 hl131_2; replace p131 := eq_true p131; replace q131 := eq_true q131; refine start_ (n := 10) (S := fun w' => w'.cell? (ad130.add ((x5_1).toNat * 9)) = some (.int .i64 ((rd_T50 l0 x5_1).f0)) ∧ w'.cell? ⟨(ad130.add ((x5_1).toNat * 9)).block, (ad130.add ((x5_1).toNat * 9)).off + 1, none⟩ = some (.int .i64 ((rd_T50 l0 x5_1).f1.f0)) ∧ w'.cell? ⟨(ad130.add ((x5_1).toNat * 9)).block, (ad130.add ((x5_1).toNat * 9)).off + 2, none⟩ = some (.slice A130_2 ((rd_T50 l0 x5_1).f1.f1).length c130_2) ∧ w'.cell? ⟨(ad130.add ((x5_1).toNat * 9)).block, (ad130.add ((x5_1).toNat * 9)).off + 3, none⟩ = some (.int .u32 ((rd_T50 l0 x5_1).f1.f2)) ∧ w'.cell? ⟨(ad130.add ((x5_1).toNat * 9)).block, (ad130.add ((x5_1).toNat * 9)).off + 4, none⟩ = some (.int .i64 ((rd_T50 l0 x5_1).f1.f3)) ∧ w'.cell? ⟨(ad130.add ((x5_1).toNat * 9)).block, (ad130.add ((x5_1).toNat * 9)).off + 5, none⟩ = some (.string ((rd_T50 l0 x5_1).f1.f4)) ∧ w'.cell? ⟨(ad130.add ((x5_1).toNat * 9)).block, (ad130.add ((x5_1).toNat * 9)).off + 6, none⟩ = some (.int .u64 ((rd_T50 l0 x5_1).f1.f5)) ∧ w'.cell? ⟨(ad130.add ((x5_1).toNat * 9)).block, (ad130.add ((x5_1).toNat * 9)).off + 7, none⟩ = some (.int .u64 ((rd_T50 l0 x5_1).f1.f6)) ∧ w'.cell? ⟨(ad130.add ((x5_1).toNat * 9)).block, (ad130.add ((x5_1).toNat * 9)).off + 8, none⟩ = some (.bool ((rd_T50 l0 x5_1).f1.f7)) ∧ w'.cell? (ad131.add ((x5_1).toNat * 9)) = some (.int .i64 ((rd_T50 l1 x5_1).f0)) ∧ w'.cell? ⟨(ad131.add ((x5_1).toNat * 9)).block, (ad131.add ((x5_1).toNat * 9)).off + 1, none⟩ = some (.int .i64 ((rd_T50 l1 x5_1).f1.f0)) ∧ w'.cell? ⟨(ad131.add ((x5_1).toNat * 9)).block, (ad131.add ((x5_1).toNat * 9)).off + 2, none⟩ = some (.slice A131_2 ((rd_T50 l1 x5_1).f1.f1).length c131_2) ∧ w'.cell? ⟨(ad131.add ((x5_1).toNat * 9)).block, (ad131.add ((x5_1).toNat * 9)).off + 3, none⟩ = some (.int .u32 ((rd_T50 l1 x5_1).f1.f2)) ∧ w'.cell? ⟨(ad131.add ((x5_1).toNat * 9)).block, (ad131.add ((x5_1).toNat * 9)).off + 4, none⟩ = some (.int .i64 ((rd_T50 l1 x5_1).f1.f3)) ∧ w'.cell? ⟨(ad131.add ((x5_1).toNat * 9)).block, (ad131.add ((x5_1).toNat * 9)).off + 5, none⟩ = some (.string ((rd_T50 l1 x5_1).f1.f4)) ∧ w'.cell? ⟨(ad131.add ((x5_1).toNat * 9)).block, (ad131.add ((x5_1).toNat * 9)).off + 6, none⟩ = some (.int .u64 ((rd_T50 l1 x5_1).f1.f5)) ∧ w'.cell? ⟨(ad131.add ((x5_1).toNat * 9)).block, (ad131.add ((x5_1).toNat * 9)).off + 7, none⟩ = some (.int .u64 ((rd_T50 l1 x5_1).f1.f6)) ∧ w'.cell? ⟨(ad131.add ((x5_1).toNat * 9)).block, (ad131.add ((x5_1).toNat * 9)).off + 8, none⟩ = some (.bool ((rd_T50 l1 x5_1).f1.f7))) (ds := []) #[false, false, false, false, false, false, false, false, false, false] (by kernel_rfl) rfl rfl ⟨((HB.out.cell (World.block_lt_of_cell? w _ hw130_0)).trans hw130_0), ((HB.out.cell (World.block_lt_of_cell? w _ hw130_1)).trans hw130_1), ((HB.out.cell (World.block_lt_of_cell? w _ hw130_2)).trans hw130_2), ((HB.out.cell (World.block_lt_of_cell? w _ hw130_3)).trans hw130_3), ((HB.out.cell (World.block_lt_of_cell? w _ hw130_4)).trans hw130_4), ((HB.out.cell (World.block_lt_of_cell? w _ hw130_5)).trans hw130_5), ((HB.out.cell (World.block_lt_of_cell? w _ hw130_6)).trans hw130_6), ((HB.out.cell (World.block_lt_of_cell? w _ hw130_7)).trans hw130_7), ((HB.out.cell (World.block_lt_of_cell? w _ hw130_8)).trans hw130_8), ((HB.out.cell (World.block_lt_of_cell? w _ hw131_0)).trans hw131_0), ((HB.out.cell (World.block_lt_of_cell? w _ hw131_1)).trans hw131_1), ((HB.out.cell (World.block_lt_of_cell? w _ hw131_2)).trans hw131_2), ((HB.out.cell (World.block_lt_of_cell? w _ hw131_3)).trans hw131_3), ((HB.out.cell (World.block_lt_of_cell? w _ hw131_4)).trans hw131_4), ((HB.out.cell (World.block_lt_of_cell? w _ hw131_5)).trans hw131_5), ((HB.out.cell (World.block_lt_of_cell? w _ hw131_6)).trans hw131_6), ((HB.out.cell (World.block_lt_of_cell? w _ hw131_7)).trans hw131_7), ((HB.out.cell (World.block_lt_of_cell? w _ hw131_8)).trans hw131_8)⟩ (fun hHeld => ?_); refine with_tabW tallboylaw19_same.tab6 tallboylaw19_same.bits6 (fun HT_ HW_ => ?_)
        generalize wr.drew = w9 at HB HR130_2 HR131_2 hx130_0 hx130_1 hx130_2 hx130_3 hx130_4 hx130_5 hx130_6 hx130_7 hx130_8 hx131_0 hx131_1 hx131_2 hx131_3 hx131_4 hx131_5 hx131_6 hx131_7 hx131_8 hHeld ⊢; refine pU HT_ 0 (some 17) ?_ #[true, false, false, false, false, false, false, false, false, false] rfl rfl ?_ ?_ ?_ ?_
        rotate_left
        ·intro w'
         go_simp
         with_reducible rfl
        rotate_left
        ·simp only [Act.put, sA, sB, sC, i64_w, i32_w]
         rfl
        refine pU HT_ 1 (some 18) ?_ #[true, true, false, false, false, false, false, false, false, false] rfl rfl ?_ ?_ ?_ ?_
        rotate_left
        ·intro w'
         go_simp
         with_reducible rfl
        rotate_left
        ·simp only [Act.put, sA, sB, sC, i64_w, i32_w]
         rfl
        refine pU HT_ 2 (some 19) ?_ #[true, true, true, false, false, false, false, false, false, false] rfl rfl ?_ ?_ ?_ ?_
        rotate_left
        ·intro w'
         go_simp
         with_reducible rfl
        rotate_left
        ·simp only [Act.put, sA, sB, sC, i64_w, i32_w]
         rfl
        refine pU HT_ 4 (some 21) ?_ #[true, true, true, false, true, false, false, false, false, false] rfl rfl ?_ ?_ ?_ ?_
        rotate_left
        ·intro w'
         go_simp
         with_reducible rfl
        rotate_left
        ·simp only [Act.put, sA, sB, sC, i64_w, i32_w]
         rfl
        refine pU HT_ 5 (some 22) ?_ #[true, true, true, false, true, true, false, false, false, false] rfl rfl ?_ ?_ ?_ ?_
        rotate_left
        ·intro w'
         go_simp
         with_reducible rfl
        rotate_left
        ·simp only [Act.put, sA, sB, sC, i64_w, i32_w]
         rfl
        refine pU HT_ 6 (some 23) ?_ #[true, true, true, false, true, true, true, false, false, false] rfl rfl ?_ ?_ ?_ ?_
        rotate_left
        ·intro w'
         go_simp
         with_reducible rfl
        rotate_left
        ·simp only [Act.put, sA, sB, sC, i64_w, i32_w]
         rfl
        refine tU HT_ HW_ hHeld 3 (some 20) ?_ #[true, true, true, true, true, true, true, false, false, false] rfl rfl ?_ ?_ ?_ ?_
        rotate_left
        ·rintro w' ⟨s0, s1, s2, s3, s4, s5, s6, s7, s8, s9, s10, s11, s12, s13, s14, s15, s16, s17⟩
         go_simp
         with_reducible rfl
        rotate_left
        ·simp only [Act.put, sA, sB, sC, i64_w, i32_w]
         rfl
        refine tU HT_ HW_ hHeld 7 (some 24) ?_ #[true, true, true, true, true, true, true, true, false, false] rfl rfl ?_ ?_ ?_ ?_
        rotate_left
        ·rintro w' ⟨s0, s1, s2, s3, s4, s5, s6, s7, s8, s9, s10, s11, s12, s13, s14, s15, s16, s17⟩
         go_simp
         with_reducible rfl
        rotate_left
        ·simp only [Act.put, sA, sB, sC, i64_w, i32_w]
         rfl
        refine one_ (i := 8) (N := some 25) #[true, true, true, true, true, true, true, true, true, false] rfl rfl (one_of HT_.out (by kernel_rfl)) (by decide) (fun K hK => ?_)
        refine goes_ Tryd.func18 (by kernel_rfl) rfl #[.agg #[.int .i64 ((rd_T50 l0 x5_1).f0), .int .i64 ((rd_T50 l0 x5_1).f1.f0), .slice A130_2 ((rd_T50 l0 x5_1).f1.f1).length c130_2, .int .u32 ((rd_T50 l0 x5_1).f1.f2), .int .i64 ((rd_T50 l0 x5_1).f1.f3), .string ((rd_T50 l0 x5_1).f1.f4), .int .u64 ((rd_T50 l0 x5_1).f1.f5), .int .u64 ((rd_T50 l0 x5_1).f1.f6), .bool ((rd_T50 l0 x5_1).f1.f7)], .agg #[.int .i64 ((rd_T50 l1 x5_1).f0), .int .i64 ((rd_T50 l1 x5_1).f1.f0), .slice A131_2 ((rd_T50 l1 x5_1).f1.f1).length c131_2, .int .u32 ((rd_T50 l1 x5_1).f1.f2), .int .i64 ((rd_T50 l1 x5_1).f1.f3), .string ((rd_T50 l1 x5_1).f1.f4), .int .u64 ((rd_T50 l1 x5_1).f1.f5), .int .u64 ((rd_T50 l1 x5_1).f1.f6), .bool ((rd_T50 l1 x5_1).f1.f7)]] (by rfl) rfl rfl (by (try simp only [List.map_toArray, List.map_cons, List.map_nil]); first | done | rfl | (simp only [List.length_drop, List.length_take]; rfl)) ?_
        with_reducible refine (tallboyref19_Same.calls k1 ((rd_T50 l0 x5_1).f0) ((rd_T50 l0 x5_1).f1.f0) _ _ ((rd_T50 l0 x5_1).f1.f1) ((rd_T50 l0 x5_1).f1.f2) ((rd_T50 l0 x5_1).f1.f3) ((rd_T50 l0 x5_1).f1.f4) ((rd_T50 l0 x5_1).f1.f5) ((rd_T50 l0 x5_1).f1.f6) ((rd_T50 l0 x5_1).f1.f7) ((rd_T50 l1 x5_1).f0) ((rd_T50 l1 x5_1).f1.f0) _ _ ((rd_T50 l1 x5_1).f1.f1) ((rd_T50 l1 x5_1).f1.f2) ((rd_T50 l1 x5_1).f1.f3) ((rd_T50 l1 x5_1).f1.f4) ((rd_T50 l1 x5_1).f1.f5) ((rd_T50 l1 x5_1).f1.f6) ((rd_T50 l1 x5_1).f1.f7) true _ ?side1 ?side2 ?side3 ?side4 A7.out).mono ?_
        (case side1 => repeat (first | exact (Kd.C_below HR130_2.out HB.out) | (with_reducible refine Kd.C_alloc ?_ _) | (with_reducible refine Kd.C_drewN ?_ _) | (with_reducible refine Kd.C_drew ?_)))
        (case side2 => exact HC130_2.out)
        (case side3 => repeat (first | exact (Kd.C_below HR131_2.out HB.out) | (with_reducible refine Kd.C_alloc ?_ _) | (with_reducible refine Kd.C_drewN ?_ _) | (with_reducible refine Kd.C_drew ?_)))
        (case side4 => exact HC131_2.out)
        rintro e w10 ⟨rfl, hb⟩
        refine ⟨_, rfl, ?_⟩
        replace HB := rS HB hb
        (try clear hb)
        
        
        
        refine hK.out _ _ ⟨((HB.out.cell (World.block_lt_of_cell? w _ hw130_0)).trans hw130_0), ((HB.out.cell (World.block_lt_of_cell? w _ hw130_1)).trans hw130_1), ((HB.out.cell (World.block_lt_of_cell? w _ hw130_2)).trans hw130_2), ((HB.out.cell (World.block_lt_of_cell? w _ hw130_3)).trans hw130_3), ((HB.out.cell (World.block_lt_of_cell? w _ hw130_4)).trans hw130_4), ((HB.out.cell (World.block_lt_of_cell? w _ hw130_5)).trans hw130_5), ((HB.out.cell (World.block_lt_of_cell? w _ hw130_6)).trans hw130_6), ((HB.out.cell (World.block_lt_of_cell? w _ hw130_7)).trans hw130_7), ((HB.out.cell (World.block_lt_of_cell? w _ hw130_8)).trans hw130_8), ((HB.out.cell (World.block_lt_of_cell? w _ hw131_0)).trans hw131_0), ((HB.out.cell (World.block_lt_of_cell? w _ hw131_1)).trans hw131_1), ((HB.out.cell (World.block_lt_of_cell? w _ hw131_2)).trans hw131_2), ((HB.out.cell (World.block_lt_of_cell? w _ hw131_3)).trans hw131_3), ((HB.out.cell (World.block_lt_of_cell? w _ hw131_4)).trans hw131_4), ((HB.out.cell (World.block_lt_of_cell? w _ hw131_5)).trans hw131_5), ((HB.out.cell (World.block_lt_of_cell? w _ hw131_6)).trans hw131_6), ((HB.out.cell (World.block_lt_of_cell? w _ hw131_7)).trans hw131_7), ((HB.out.cell (World.block_lt_of_cell? w _ hw131_8)).trans hw131_8)⟩ (fun hHeld => ?_)
        clear hK K; refine norm_ (a' := ?_) ?_ ?_
        rotate_left
        ·show Act.put _ (some 25) _ = _
         simp only [Act.put, sA, sB, sC, i64_w, i32_w]
         rfl
        refine pU HT_ 9 (some 26) ?_ #[true, true, true, true, true, true, true, true, true, true] rfl rfl ?_ ?_ ?_ ?_
        rotate_left
        ·intro w'
         go_simp
         with_reducible rfl
        rotate_left
        ·simp only [Act.put, sA, sB, sC, i64_w, i32_w]
         rfl
        refine done_ (done_of HT_.out (by kernel_rfl)) ?_
        try go_wp2
        go_roundg k1
        case measure => have := HK1.out; omega
        case rel => exact ⟨(wrap64 (x5_1 + 1)), (by first | rfl | (simp; done) | (simp [*]; done)), H', ⟨by have := HK1.out; omega⟩, ⟨bH HB.out⟩⟩
       ·replace c8 := Bool.eq_false_iff.mpr c8; subst c8; rw [if_neg (show ¬ (false = true) by decide)] at H; obtain rfl := Option.some.inj H
        try go_wp2
        replace HB := Aside0.mk (eD HB.out); have p130 : 0 ≤ (x5_1 : Int) := of_decide_eq_true (by first | (with_reducible assumption) | assumption); have q130 : x5_1 < (l0.length : Int) := of_decide_eq_true (by first | (with_reducible assumption) | assumption)
        obtain ⟨ad130, A130_2, c130_2, e130, hx130_0, hx130_1, hx130_2, hx130_3, hx130_4, hx130_5, hx130_6, hx130_7, hx130_8, hl130_2, hi130_2⟩ := at_T50 HR0.out x5_1 p130 q130; have hw130_8 := hx130_8; have hw130_7 := hx130_7; have hw130_6 := hx130_6; have hw130_5 := hx130_5; have hw130_4 := hx130_4; have hw130_3 := hx130_3; have hw130_2 := hx130_2; have hw130_1 := hx130_1; have hw130_0 := hx130_0; cases e130; replace hx130_0 := (HB.out.cell (World.block_lt_of_cell? w _ hx130_0)).trans hx130_0; replace hx130_1 := (HB.out.cell (World.block_lt_of_cell? w _ hx130_1)).trans hx130_1; replace hx130_2 := (HB.out.cell (World.block_lt_of_cell? w _ hx130_2)).trans hx130_2; replace hx130_3 := (HB.out.cell (World.block_lt_of_cell? w _ hx130_3)).trans hx130_3; replace hx130_4 := (HB.out.cell (World.block_lt_of_cell? w _ hx130_4)).trans hx130_4; replace hx130_5 := (HB.out.cell (World.block_lt_of_cell? w _ hx130_5)).trans hx130_5; replace hx130_6 := (HB.out.cell (World.block_lt_of_cell? w _ hx130_6)).trans hx130_6; replace hx130_7 := (HB.out.cell (World.block_lt_of_cell? w _ hx130_7)).trans hx130_7; replace hx130_8 := (HB.out.cell (World.block_lt_of_cell? w _ hx130_8)).trans hx130_8; have HR130_2 := Aside0.mk hi130_2; have HC130_2 := Aside0.mk hl130_2; clear hi130_2 hl130_2; replace p130 := eq_true p130; replace q130 := eq_true q130; have p131 : 0 ≤ (x5_1 : Int) := of_decide_eq_true (by first | (with_reducible assumption) | assumption); have q131 : x5_1 < (l1.length : Int) := of_decide_eq_true (by first | (with_reducible assumption) | assumption)
        obtain ⟨ad131, A131_2, c131_2, e131, hx131_0, hx131_1, hx131_2, hx131_3, hx131_4, hx131_5, hx131_6, hx131_7, hx131_8, hl131_2, hi131_2⟩ := at_T50 HR1.out x5_1 p131 q131; have hw131_8 := hx131_8; have hw131_7 := hx131_7; have hw131_6 := hx131_6; have hw131_5 := hx131_5; have hw131_4 := hx131_4; have hw131_3 := hx131_3; have hw131_2 := hx131_2; have hw131_1 := hx131_1; have hw131_0 := hx131_0; cases e131; replace hx131_0 := (HB.out.cell (World.block_lt_of_cell? w _ hx131_0)).trans hx131_0; replace hx131_1 := (HB.out.cell (World.block_lt_of_cell? w _ hx131_1)).trans hx131_1; replace hx131_2 := (HB.out.cell (World.block_lt_of_cell? w _ hx131_2)).trans hx131_2; replace hx131_3 := (HB.out.cell (World.block_lt_of_cell? w _ hx131_3)).trans hx131_3; replace hx131_4 := (HB.out.cell (World.block_lt_of_cell? w _ hx131_4)).trans hx131_4; replace hx131_5 := (HB.out.cell (World.block_lt_of_cell? w _ hx131_5)).trans hx131_5; replace hx131_6 := (HB.out.cell (World.block_lt_of_cell? w _ hx131_6)).trans hx131_6; replace hx131_7 := (HB.out.cell (World.block_lt_of_cell? w _ hx131_7)).trans hx131_7; replace hx131_8 := (HB.out.cell (World.block_lt_of_cell? w _ hx131_8)).trans hx131_8; have HR131_2 := Aside0.mk hi131_2; have HC131_2 := Aside0.mk hl131_2; clear hi131_2 hl131_2; replace p131 := eq_true p131; replace q131 := eq_true q131; refine start_ (n := 10) (S := fun w' => w'.cell? (ad130.add ((x5_1).toNat * 9)) = some (.int .i64 ((rd_T50 l0 x5_1).f0)) ∧ w'.cell? ⟨(ad130.add ((x5_1).toNat * 9)).block, (ad130.add ((x5_1).toNat * 9)).off + 1, none⟩ = some (.int .i64 ((rd_T50 l0 x5_1).f1.f0)) ∧ w'.cell? ⟨(ad130.add ((x5_1).toNat * 9)).block, (ad130.add ((x5_1).toNat * 9)).off + 2, none⟩ = some (.slice A130_2 ((rd_T50 l0 x5_1).f1.f1).length c130_2) ∧ w'.cell? ⟨(ad130.add ((x5_1).toNat * 9)).block, (ad130.add ((x5_1).toNat * 9)).off + 3, none⟩ = some (.int .u32 ((rd_T50 l0 x5_1).f1.f2)) ∧ w'.cell? ⟨(ad130.add ((x5_1).toNat * 9)).block, (ad130.add ((x5_1).toNat * 9)).off + 4, none⟩ = some (.int .i64 ((rd_T50 l0 x5_1).f1.f3)) ∧ w'.cell? ⟨(ad130.add ((x5_1).toNat * 9)).block, (ad130.add ((x5_1).toNat * 9)).off + 5, none⟩ = some (.string ((rd_T50 l0 x5_1).f1.f4)) ∧ w'.cell? ⟨(ad130.add ((x5_1).toNat * 9)).block, (ad130.add ((x5_1).toNat * 9)).off + 6, none⟩ = some (.int .u64 ((rd_T50 l0 x5_1).f1.f5)) ∧ w'.cell? ⟨(ad130.add ((x5_1).toNat * 9)).block, (ad130.add ((x5_1).toNat * 9)).off + 7, none⟩ = some (.int .u64 ((rd_T50 l0 x5_1).f1.f6)) ∧ w'.cell? ⟨(ad130.add ((x5_1).toNat * 9)).block, (ad130.add ((x5_1).toNat * 9)).off + 8, none⟩ = some (.bool ((rd_T50 l0 x5_1).f1.f7)) ∧ w'.cell? (ad131.add ((x5_1).toNat * 9)) = some (.int .i64 ((rd_T50 l1 x5_1).f0)) ∧ w'.cell? ⟨(ad131.add ((x5_1).toNat * 9)).block, (ad131.add ((x5_1).toNat * 9)).off + 1, none⟩ = some (.int .i64 ((rd_T50 l1 x5_1).f1.f0)) ∧ w'.cell? ⟨(ad131.add ((x5_1).toNat * 9)).block, (ad131.add ((x5_1).toNat * 9)).off + 2, none⟩ = some (.slice A131_2 ((rd_T50 l1 x5_1).f1.f1).length c131_2) ∧ w'.cell? ⟨(ad131.add ((x5_1).toNat * 9)).block, (ad131.add ((x5_1).toNat * 9)).off + 3, none⟩ = some (.int .u32 ((rd_T50 l1 x5_1).f1.f2)) ∧ w'.cell? ⟨(ad131.add ((x5_1).toNat * 9)).block, (ad131.add ((x5_1).toNat * 9)).off + 4, none⟩ = some (.int .i64 ((rd_T50 l1 x5_1).f1.f3)) ∧ w'.cell? ⟨(ad131.add ((x5_1).toNat * 9)).block, (ad131.add ((x5_1).toNat * 9)).off + 5, none⟩ = some (.string ((rd_T50 l1 x5_1).f1.f4)) ∧ w'.cell? ⟨(ad131.add ((x5_1).toNat * 9)).block, (ad131.add ((x5_1).toNat * 9)).off + 6, none⟩ = some (.int .u64 ((rd_T50 l1 x5_1).f1.f5)) ∧ w'.cell? ⟨(ad131.add ((x5_1).toNat * 9)).block, (ad131.add ((x5_1).toNat * 9)).off + 7, none⟩ = some (.int .u64 ((rd_T50 l1 x5_1).f1.f6)) ∧ w'.cell? ⟨(ad131.add ((x5_1).toNat * 9)).block, (ad131.add ((x5_1).toNat * 9)).off + 8, none⟩ = some (.bool ((rd_T50 l1 x5_1).f1.f7))) (ds := []) #[false, false, false, false, false, false, false, false, false, false] (by kernel_rfl) rfl rfl ⟨((HB.out.cell (World.block_lt_of_cell? w _ hw130_0)).trans hw130_0), ((HB.out.cell (World.block_lt_of_cell? w _ hw130_1)).trans hw130_1), ((HB.out.cell (World.block_lt_of_cell? w _ hw130_2)).trans hw130_2), ((HB.out.cell (World.block_lt_of_cell? w _ hw130_3)).trans hw130_3), ((HB.out.cell (World.block_lt_of_cell? w _ hw130_4)).trans hw130_4), ((HB.out.cell (World.block_lt_of_cell? w _ hw130_5)).trans hw130_5), ((HB.out.cell (World.block_lt_of_cell? w _ hw130_6)).trans hw130_6), ((HB.out.cell (World.block_lt_of_cell? w _ hw130_7)).trans hw130_7), ((HB.out.cell (World.block_lt_of_cell? w _ hw130_8)).trans hw130_8), ((HB.out.cell (World.block_lt_of_cell? w _ hw131_0)).trans hw131_0), ((HB.out.cell (World.block_lt_of_cell? w _ hw131_1)).trans hw131_1), ((HB.out.cell (World.block_lt_of_cell? w _ hw131_2)).trans hw131_2), ((HB.out.cell (World.block_lt_of_cell? w _ hw131_3)).trans hw131_3), ((HB.out.cell (World.block_lt_of_cell? w _ hw131_4)).trans hw131_4), ((HB.out.cell (World.block_lt_of_cell? w _ hw131_5)).trans hw131_5), ((HB.out.cell (World.block_lt_of_cell? w _ hw131_6)).trans hw131_6), ((HB.out.cell (World.block_lt_of_cell? w _ hw131_7)).trans hw131_7), ((HB.out.cell (World.block_lt_of_cell? w _ hw131_8)).trans hw131_8)⟩ (fun hHeld => ?_); refine with_tabW tallboylaw19_same.tab6 tallboylaw19_same.bits6 (fun HT_ HW_ => ?_)
        generalize wr.drew = w11 at HB HR130_2 HR131_2 hx130_0 hx130_1 hx130_2 hx130_3 hx130_4 hx130_5 hx130_6 hx130_7 hx130_8 hx131_0 hx131_1 hx131_2 hx131_3 hx131_4 hx131_5 hx131_6 hx131_7 hx131_8 hHeld ⊢; refine pU HT_ 0 (some 17) ?_ #[true, false, false, false, false, false, false, false, false, false] rfl rfl ?_ ?_ ?_ ?_
        rotate_left
        ·intro w'
         go_simp
         with_reducible rfl
        rotate_left
        ·simp only [Act.put, sA, sB, sC, i64_w, i32_w]
         rfl
        refine pU HT_ 1 (some 18) ?_ #[true, true, false, false, false, false, false, false, false, false] rfl rfl ?_ ?_ ?_ ?_
        rotate_left
        ·intro w'
         go_simp
         with_reducible rfl
        rotate_left
        ·simp only [Act.put, sA, sB, sC, i64_w, i32_w]
         rfl
        refine pU HT_ 2 (some 19) ?_ #[true, true, true, false, false, false, false, false, false, false] rfl rfl ?_ ?_ ?_ ?_
        rotate_left
        ·intro w'
         go_simp
         with_reducible rfl
        rotate_left
        ·simp only [Act.put, sA, sB, sC, i64_w, i32_w]
         rfl
        refine pU HT_ 4 (some 21) ?_ #[true, true, true, false, true, false, false, false, false, false] rfl rfl ?_ ?_ ?_ ?_
        rotate_left
        ·intro w'
         go_simp
         with_reducible rfl
        rotate_left
        ·simp only [Act.put, sA, sB, sC, i64_w, i32_w]
         rfl
        refine pU HT_ 5 (some 22) ?_ #[true, true, true, false, true, true, false, false, false, false] rfl rfl ?_ ?_ ?_ ?_
        rotate_left
        ·intro w'
         go_simp
         with_reducible rfl
        rotate_left
        ·simp only [Act.put, sA, sB, sC, i64_w, i32_w]
         rfl
        refine pU HT_ 6 (some 23) ?_ #[true, true, true, false, true, true, true, false, false, false] rfl rfl ?_ ?_ ?_ ?_
        rotate_left
        ·intro w'
         go_simp
         with_reducible rfl
        rotate_left
        ·simp only [Act.put, sA, sB, sC, i64_w, i32_w]
         rfl
        refine tU HT_ HW_ hHeld 3 (some 20) ?_ #[true, true, true, true, true, true, true, false, false, false] rfl rfl ?_ ?_ ?_ ?_
        rotate_left
        ·rintro w' ⟨s0, s1, s2, s3, s4, s5, s6, s7, s8, s9, s10, s11, s12, s13, s14, s15, s16, s17⟩
         go_simp
         with_reducible rfl
        rotate_left
        ·simp only [Act.put, sA, sB, sC, i64_w, i32_w]
         rfl
        refine tU HT_ HW_ hHeld 7 (some 24) ?_ #[true, true, true, true, true, true, true, true, false, false] rfl rfl ?_ ?_ ?_ ?_
        rotate_left
        ·rintro w' ⟨s0, s1, s2, s3, s4, s5, s6, s7, s8, s9, s10, s11, s12, s13, s14, s15, s16, s17⟩
         go_simp
         with_reducible rfl
        rotate_left
        ·simp only [Act.put, sA, sB, sC, i64_w, i32_w]
         rfl
        refine one_ (i := 8) (N := some 25) #[true, true, true, true, true, true, true, true, true, false] rfl rfl (one_of HT_.out (by kernel_rfl)) (by decide) (fun K hK => ?_)
        refine goes_ Tryd.func18 (by kernel_rfl) rfl #[.agg #[.int .i64 ((rd_T50 l0 x5_1).f0), .int .i64 ((rd_T50 l0 x5_1).f1.f0), .slice A130_2 ((rd_T50 l0 x5_1).f1.f1).length c130_2, .int .u32 ((rd_T50 l0 x5_1).f1.f2), .int .i64 ((rd_T50 l0 x5_1).f1.f3), .string ((rd_T50 l0 x5_1).f1.f4), .int .u64 ((rd_T50 l0 x5_1).f1.f5), .int .u64 ((rd_T50 l0 x5_1).f1.f6), .bool ((rd_T50 l0 x5_1).f1.f7)], .agg #[.int .i64 ((rd_T50 l1 x5_1).f0), .int .i64 ((rd_T50 l1 x5_1).f1.f0), .slice A131_2 ((rd_T50 l1 x5_1).f1.f1).length c131_2, .int .u32 ((rd_T50 l1 x5_1).f1.f2), .int .i64 ((rd_T50 l1 x5_1).f1.f3), .string ((rd_T50 l1 x5_1).f1.f4), .int .u64 ((rd_T50 l1 x5_1).f1.f5), .int .u64 ((rd_T50 l1 x5_1).f1.f6), .bool ((rd_T50 l1 x5_1).f1.f7)]] (by rfl) rfl rfl (by (try simp only [List.map_toArray, List.map_cons, List.map_nil]); first | done | rfl | (simp only [List.length_drop, List.length_take]; rfl)) ?_
        with_reducible refine (tallboyref19_Same.calls k1 ((rd_T50 l0 x5_1).f0) ((rd_T50 l0 x5_1).f1.f0) _ _ ((rd_T50 l0 x5_1).f1.f1) ((rd_T50 l0 x5_1).f1.f2) ((rd_T50 l0 x5_1).f1.f3) ((rd_T50 l0 x5_1).f1.f4) ((rd_T50 l0 x5_1).f1.f5) ((rd_T50 l0 x5_1).f1.f6) ((rd_T50 l0 x5_1).f1.f7) ((rd_T50 l1 x5_1).f0) ((rd_T50 l1 x5_1).f1.f0) _ _ ((rd_T50 l1 x5_1).f1.f1) ((rd_T50 l1 x5_1).f1.f2) ((rd_T50 l1 x5_1).f1.f3) ((rd_T50 l1 x5_1).f1.f4) ((rd_T50 l1 x5_1).f1.f5) ((rd_T50 l1 x5_1).f1.f6) ((rd_T50 l1 x5_1).f1.f7) false _ ?side1 ?side2 ?side3 ?side4 A7.out).mono ?_
        (case side1 => repeat (first | exact (Kd.C_below HR130_2.out HB.out) | (with_reducible refine Kd.C_alloc ?_ _) | (with_reducible refine Kd.C_drewN ?_ _) | (with_reducible refine Kd.C_drew ?_)))
        (case side2 => exact HC130_2.out)
        (case side3 => repeat (first | exact (Kd.C_below HR131_2.out HB.out) | (with_reducible refine Kd.C_alloc ?_ _) | (with_reducible refine Kd.C_drewN ?_ _) | (with_reducible refine Kd.C_drew ?_)))
        (case side4 => exact HC131_2.out)
        rintro e w12 ⟨rfl, hb⟩
        refine ⟨_, rfl, ?_⟩
        replace HB := rS HB hb
        (try clear hb)
        
        
        
        refine hK.out _ _ ⟨((HB.out.cell (World.block_lt_of_cell? w _ hw130_0)).trans hw130_0), ((HB.out.cell (World.block_lt_of_cell? w _ hw130_1)).trans hw130_1), ((HB.out.cell (World.block_lt_of_cell? w _ hw130_2)).trans hw130_2), ((HB.out.cell (World.block_lt_of_cell? w _ hw130_3)).trans hw130_3), ((HB.out.cell (World.block_lt_of_cell? w _ hw130_4)).trans hw130_4), ((HB.out.cell (World.block_lt_of_cell? w _ hw130_5)).trans hw130_5), ((HB.out.cell (World.block_lt_of_cell? w _ hw130_6)).trans hw130_6), ((HB.out.cell (World.block_lt_of_cell? w _ hw130_7)).trans hw130_7), ((HB.out.cell (World.block_lt_of_cell? w _ hw130_8)).trans hw130_8), ((HB.out.cell (World.block_lt_of_cell? w _ hw131_0)).trans hw131_0), ((HB.out.cell (World.block_lt_of_cell? w _ hw131_1)).trans hw131_1), ((HB.out.cell (World.block_lt_of_cell? w _ hw131_2)).trans hw131_2), ((HB.out.cell (World.block_lt_of_cell? w _ hw131_3)).trans hw131_3), ((HB.out.cell (World.block_lt_of_cell? w _ hw131_4)).trans hw131_4), ((HB.out.cell (World.block_lt_of_cell? w _ hw131_5)).trans hw131_5), ((HB.out.cell (World.block_lt_of_cell? w _ hw131_6)).trans hw131_6), ((HB.out.cell (World.block_lt_of_cell? w _ hw131_7)).trans hw131_7), ((HB.out.cell (World.block_lt_of_cell? w _ hw131_8)).trans hw131_8)⟩ (fun hHeld => ?_)
        clear hK K; refine norm_ (a' := ?_) ?_ ?_
        rotate_left
        ·show Act.put _ (some 25) _ = _
         simp only [Act.put, sA, sB, sC, i64_w, i32_w]
         rfl
        refine pU HT_ 9 (some 26) ?_ #[true, true, true, true, true, true, true, true, true, true] rfl rfl ?_ ?_ ?_ ?_
        rotate_left
        ·intro w'
         go_simp
         with_reducible rfl
        rotate_left
        ·simp only [Act.put, sA, sB, sC, i64_w, i32_w]
         rfl
        refine done_ (done_of HT_.out (by kernel_rfl)) ?_
        try go_wp2
        go_ret
        exact ⟨xR, bH HB.out⟩
      ·rw [if_neg c6] at H; exact absurd H (by simp)
     ·rw [if_neg c5] at H; exact absurd H (by simp)
    ·rw [if_neg c4] at H; have c4b0 : decide (x5_1 < (l0.length : Int)) = false := decide_eq_false c4; clear c4; obtain rfl := Option.some.inj H; go_wp2; go_ret
     exact ⟨xR, bH HB.out⟩
 ·rw [if_neg c3] at H; have c3b0 : ((l0.length : Int) == (l1.length : Int)) = false := beq_eq_false_iff_ne.mpr c3; have c3b1 : ((l0.length : Int) != (l1.length : Int)) = true := bne_iff_ne.mpr c3; have c3b2 : (l0.length == l1.length) = false := by first | simpa using c3 | (simp at c3 ⊢; omega)
  obtain rfl := Option.some.inj H; go_enter Tryd.func12, Tryd.ntmps12; go_wp2; go_ret
  exact ⟨xR, bH HB.out⟩

end Go.Proofs.YtginfaencjmhgaaDoor.P
