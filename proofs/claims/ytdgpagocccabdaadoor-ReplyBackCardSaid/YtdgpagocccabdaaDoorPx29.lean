/- Lean functions for the Go functions that the laws of this seat use, and the proofs that the Go code computes them; conditions: the readings that each theorem names. Written by a program. -/
import Derived.Test.YtdgpagocccabdaaDoorPx0
import Derived.Test.YtdgpagocccabdaaDoorPx1
import Derived.Test.YtdgpagocccabdaaDoorShort
namespace Go.Proofs.YtdgpagocccabdaaDoor.P
open Go.RowKit Go.Proofs.YtdgpagocccabdaaDoorW.PrintWords Go.Proofs.YtdgpagocccabdaaDoorW.PrintLast Go.Proofs.YtdgpagocccabdaaDoorW.PrintMore
set_option linter.unusedVariables false
set_option linter.unusedSimpArgs false

attribute [local go_sem high] eqA47
/-! ### tallboyref15_Same: function 16 -/
mutual
def tallboyref15_Same.j0 : Nat → Bool → Int → List (S47) → Int → Int → List (S47) → Int → Option (Bool)
 | 0, _, _, _, _, _, _, _ => none
 | k + 1, x26, z6, z1, z7, z8, z2, z9 => if x26 = true then (some false) else (tallboyref15_Same.l0 k 0 z6 z1 z7 z8 z2 z9)
def tallboyref15_Same.l0 : Nat → Int → Int → List (S47) → Int → Int → List (S47) → Int → Option (Bool)
 | 0, _, _, _, _, _, _, _ => none
 | k + 1, x5, z6, z1, z7, z8, z2, z9 => if x5 < (z1.length : Int) then (if 0 ≤ x5 then (if x5 < (z2.length : Int) then (if (!((((rd_T47 z1 x5).f0).toList) == (((rd_T47 z2 x5).f0).toList)) || (!(((rd_T47 z1 x5).f1) == ((rd_T47 z2 x5).f1)) || (!((((rd_T47 z1 x5).f2).toList) == (((rd_T47 z2 x5).f2).toList)) || (!(((rd_T47 z1 x5).f3) == ((rd_T47 z2 x5).f3)))))) = true then (some false) else (tallboyref15_Same.l0 k (wrap64 (x5 + 1)) z6 z1 z7 z8 z2 z9)) else (none)) else (none)) else (some true)
end
def tallboyref15_Same.f (k : Nat) (a0_0 : Int) (l0_1 : List (S47)) (a0_2 : Int) (a1_0 : Int) (l1_1 : List (S47)) (a1_2 : Int) : Option (Bool) := if a0_0 = a1_0 then (if a0_2 = a1_2 then (tallboyref15_Same.j0 k ((l0_1.length : Int) != (l1_1.length : Int)) a0_0 l0_1 a0_2 a1_0 l1_1 a1_2) else (tallboyref15_Same.j0 k true a0_0 l0_1 a0_2 a1_0 l1_1 a1_2)) else (tallboyref15_Same.j0 k true a0_0 l0_1 a0_2 a1_0 l1_1 a1_2)
theorem tallboyref15_Same.mono_l : ∀ k, (∀ y0 y1 y2 y3 y4 y5 y6, LeO (tallboyref15_Same.j0 k y0 y1 y2 y3 y4 y5 y6) (tallboyref15_Same.j0 (k + 1) y0 y1 y2 y3 y4 y5 y6)) ∧ (∀ y0 y1 y2 y3 y4 y5 y6, LeO (tallboyref15_Same.l0 k y0 y1 y2 y3 y4 y5 y6) (tallboyref15_Same.l0 (k + 1) y0 y1 y2 y3 y4 y5 y6))
 | 0 => ⟨fun _ _ _ _ _ _ _ r h => by simp [tallboyref15_Same.j0] at h, fun _ _ _ _ _ _ _ r h => by simp [tallboyref15_Same.l0] at h⟩
 | k + 1 => by
  obtain ⟨ih0, ih1⟩ := tallboyref15_Same.mono_l k; refine ⟨?_, ?_⟩
  all_goals intros
  all_goals (first | unfold tallboyref15_Same.j0 | unfold tallboyref15_Same.l0)
  all_goals repeat' first | (with_reducible first | apply ih0 | apply ih1 | exact LeO.refl _ | exact LeO.none _ | refine LeO.ite ?_ ?_ | refine LeO.bind ?_ (fun _ => ?_)) | apply ih0 | apply ih1 | exact LeO.none _ | refine LeO.ite ?_ ?_ | refine LeO.bind ?_ (fun _ => ?_)
theorem tallboyref15_Same.mono : ∀ a0 a1 a2 a3 a4 a5 k, LeO (tallboyref15_Same.f k a0 a1 a2 a3 a4 a5) (tallboyref15_Same.f (k + 1) a0 a1 a2 a3 a4 a5) := by
 intro a0 a1 a2 a3 a4 a5 k
 obtain ⟨ih0, ih1⟩ := tallboyref15_Same.mono_l k; unfold tallboyref15_Same.f
 repeat' first | (with_reducible first | apply ih0 | apply ih1 | exact LeO.refl _ | exact LeO.none _ | refine LeO.ite ?_ ?_ | refine LeO.bind ?_ (fun _ => ?_)) | apply ih0 | apply ih1 | exact LeO.none _ | refine LeO.ite ?_ ?_ | refine LeO.bind ?_ (fun _ => ?_)
set_option maxHeartbeats 8000000 in
set_option maxRecDepth 100000 in
theorem tallboyref15_Same.calls (k : Nat) (a0_0 : Int) (A0_1 : Option Addr) (c0_1 : Nat) (l0_1 : List (S47)) (a0_2 : Int) (a1_0 : Int) (A1_1 : Option Addr) (c1_1 : Nat) (l1_1 : List (S47)) (a1_2 : Int) (r : Bool) (w : World) (hr0_1 : Kd.C k47 w A0_1 l0_1.length l0_1) (hc0_1 : l0_1.length ≤ c0_1) (hr1_1 : Kd.C k47 w A1_1 l1_1.length l1_1) (hc1_1 : l1_1.length ≤ c1_1) (h : tallboyref15_Same.f k a0_0 l0_1 a0_2 a1_0 l1_1 a1_2 = some r) :
  Calls Tryd.prog 16 #[.agg #[.int .i64 a0_0, .slice A0_1 l0_1.length c0_1, .int .u64 a0_2], .agg #[.int .i64 a1_0, .slice A1_1 l1_1.length c1_1, .int .u64 a1_2]] w fun e w' => e = .returned (.bool r) ∧ Below w.heap.size w w' := by
 have hu25 := Tryd.underlying25; have hu47 := Tryd.underlying47; have HR0_1 := Aside0.mk hr0_1; have HC0_1 := Aside0.mk hc0_1; clear hr0_1 hc0_1; have HR1_1 := Aside0.mk hr1_1; have HC1_1 := Aside0.mk hc1_1; clear hr1_1 hc1_1; have HB := Aside0.mk (Below.refl w.heap.size w); have H : (if a0_0 = a1_0 then (if a0_2 = a1_2 then (tallboyref15_Same.j0 k ((l0_1.length : Int) != (l1_1.length : Int)) a0_0 l0_1 a0_2 a1_0 l1_1 a1_2) else (tallboyref15_Same.j0 k true a0_0 l0_1 a0_2 a1_0 l1_1 a1_2)) else (tallboyref15_Same.j0 k true a0_0 l0_1 a0_2 a1_0 l1_1 a1_2)) = some r := h; clear h; have HC3 := Aside0.mk H; clear H; go_enter Tryd.func16, Tryd.ntmps16
 go_upto_region 1 with (first | ((with_reducible refine gate_dst (N := 2) rfl ?_); (try (refine gate_guard (by rfl) ?_; dsimp only)); refine bE 2 #[.int .i64 a0_0, .slice A0_1 l0_1.length c0_1, .int .u64 a0_2] 25 rfl rfl ?_; intro gb220 hg w4 hbox hb; have BK220 := rM hbox; have GW220 := rG HB hg; replace HB := rS HB hb; have GE220 := GW220; clear hb hbox hg) | ((with_reducible refine gate_dst (N := 3) rfl ?_); (try (refine gate_guard (by rfl) ?_; dsimp only)); refine bE 3 #[.int .i64 a1_0, .slice A1_1 l1_1.length c1_1, .int .u64 a1_2] 25 rfl rfl ?_; intro gb221 hg w5 hbox hb; have BK221 := rM hbox; have GW221 := rG HB hg; replace HB := rS HB hb; have GE221 := GW221; have NB220_221 := rN BK220 hg; replace BK220 := rB BK220 hb; have NB221_220 := rY NB220_221; clear hb hbox hg))
 repeat (go_quiet (first | ((with_reducible refine gate_dst (N := 2) rfl ?_); (try (refine gate_guard (by rfl) ?_; dsimp only)); refine bE 2 #[.int .i64 a0_0, .slice A0_1 l0_1.length c0_1, .int .u64 a0_2] 25 rfl rfl ?_; intro gb220 hg w4 hbox hb; have BK220 := rM hbox; have GW220 := rG HB hg; replace HB := rS HB hb; have GE220 := GW220; clear hb hbox hg) | ((with_reducible refine gate_dst (N := 3) rfl ?_); (try (refine gate_guard (by rfl) ?_; dsimp only)); refine bE 3 #[.int .i64 a1_0, .slice A1_1 l1_1.length c1_1, .int .u64 a1_2] 25 rfl rfl ?_; intro gb221 hg w5 hbox hb; have BK221 := rM hbox; have GW221 := rG HB hg; replace HB := rS HB hb; have GE221 := GW221; have NB220_221 := rN BK220 hg; replace BK220 := rB BK220 hb; have NB221_220 := rY NB220_221; clear hb hbox hg)); go_upto_region 1 with (first | ((with_reducible refine gate_dst (N := 2) rfl ?_); (try (refine gate_guard (by rfl) ?_; dsimp only)); refine bE 2 #[.int .i64 a0_0, .slice A0_1 l0_1.length c0_1, .int .u64 a0_2] 25 rfl rfl ?_; intro gb220 hg w4 hbox hb; have BK220 := rM hbox; have GW220 := rG HB hg; replace HB := rS HB hb; have GE220 := GW220; clear hb hbox hg) | ((with_reducible refine gate_dst (N := 3) rfl ?_); (try (refine gate_guard (by rfl) ?_; dsimp only)); refine bE 3 #[.int .i64 a1_0, .slice A1_1 l1_1.length c1_1, .int .u64 a1_2] 25 rfl rfl ?_; intro gb221 hg w5 hbox hb; have BK221 := rM hbox; have GW221 := rG HB hg; replace HB := rS HB hb; have GE221 := GW221; have NB220_221 := rN BK220 hg; replace BK220 := rB BK220 hb; have NB221_220 := rY NB220_221; clear hb hbox hg)))
 (try simp only [Act.put, sA, sB, sC])
 go_cut [26] (fun v26 wc => ∃ (kq : Nat) (x26_2 : Bool), v26 = .bool x26_2 ∧ Aside0 (tallboyref15_Same.j0 kq x26_2 a0_0 l0_1 a0_2 a1_0 l1_1 a1_2 = some r) ∧ Aside0 (kq ≤ k) ∧ Aside0 (wc.heap[gb220]? = some (.cells #[.int .i64 a0_0, (.slice A0_1 l0_1.length c0_1), .int .u64 a0_2] 25 (0, 0))) ∧ Aside0 (wc.heap[gb221]? = some (.cells #[.int .i64 a1_0, (.slice A1_1 l1_1.length c1_1), .int .u64 a1_2] 25 (0, 0))) ∧ Aside0 (Below w.heap.size w wc))
 case first =>
  have H := HC3.out; clear HC3
  by_cases c6 : a0_0 = a1_0
  ·rw [if_pos c6] at H; have c6b0 : (a0_0 == a1_0) = true := beq_iff_eq.mpr c6; have c6b1 : (a0_0 != a1_0) = false := bne_eq_false_iff_eq.mpr c6; clear c6
   (first | rw [c6b0] | (simp only [i64_w, i32_w]; rw [c6b0]) | skip)
   by_cases c7 : a0_2 = a1_2
   ·rw [if_pos c7] at H; have c7b0 : (a0_2 == a1_2) = true := beq_iff_eq.mpr c7; have c7b1 : (a0_2 != a1_2) = false := bne_eq_false_iff_eq.mpr c7; clear c7; have H' := Aside0.mk H; clear H; have hnb8 := rP NB220_221 NB221_220; obtain ⟨hcz9, hfz9⟩ := d3 BK220; obtain ⟨hcz10, hfz10⟩ := d3 BK221; go_wp2
    repeat (go_quiet (fail); try go_wp2)
    go_meet
    case rel => exact ⟨_, (((l0_1.length : Int) != (l1_1.length : Int))), (by first | rfl | (simp; done) | (simp [*]; done)), H', ⟨by first | omega | exact Nat.le_refl _⟩, ⟨bK BK220.out⟩, ⟨bK BK221.out⟩, ⟨bH HB.out⟩⟩
   ·rw [if_neg c7] at H; have c7b0 : (a0_2 == a1_2) = false := beq_eq_false_iff_ne.mpr c7; have c7b1 : (a0_2 != a1_2) = true := bne_iff_ne.mpr c7; have H' := Aside0.mk H; clear H; have hnb11 := rP NB220_221 NB221_220; obtain ⟨hcz12, hfz12⟩ := d3 BK220; obtain ⟨hcz13, hfz13⟩ := d3 BK221; go_wp2
    repeat (go_quiet (fail); try go_wp2)
    go_meet
    case rel => exact ⟨_, (true), (by first | rfl | (simp; done) | (simp [*]; done)), H', ⟨by first | omega | exact Nat.le_refl _⟩, ⟨bK BK220.out⟩, ⟨bK BK221.out⟩, ⟨bH HB.out⟩⟩
  ·rw [if_neg c6] at H; have c6b0 : (a0_0 == a1_0) = false := beq_eq_false_iff_ne.mpr c6; have c6b1 : (a0_0 != a1_0) = true := bne_iff_ne.mpr c6
   (first | rw [c6b0] | (simp only [i64_w, i32_w]; rw [c6b0]) | skip)
   have H' := Aside0.mk H; clear H; have hnb14 := rP NB220_221 NB221_220; obtain ⟨hcz15, hfz15⟩ := d3 BK220; obtain ⟨hcz16, hfz16⟩ := d3 BK221; go_wp2
   repeat (go_quiet (fail); try go_wp2)
   go_meet
   case rel => exact ⟨_, (true), (by first | rfl | (simp; done) | (simp [*]; done)), H', ⟨by first | omega | exact Nat.le_refl _⟩, ⟨bK BK220.out⟩, ⟨bK BK221.out⟩, ⟨bH HB.out⟩⟩
 case rest =>
  clear HC3; (try clear c6); (try clear c6b0); (try clear c6b1); (try clear c7); (try clear c7b0); (try clear c7b1); (try clear hcz10); (try clear hcz12); (try clear hcz13); (try clear hcz15); (try clear hcz16); (try clear hcz9); (try clear hfz10); (try clear hfz12); (try clear hfz13); (try clear hfz15); (try clear hfz16); (try clear hfz9); obtain ⟨kq, x26_2, rfl, HA, HJ2, BK220, BK221, HB⟩ := hcut; cases kq with
  | zero => exact absurd HA.out (by simp [tallboyref15_Same.j0])
  | succ kj2 =>
   have H := HA.out; clear HA; simp only [tallboyref15_Same.j0] at H
   by_cases c17 : x26_2 = true
   ·subst c17; rw [if_pos rfl] at H; obtain rfl := Option.some.inj H; go_wp2
    repeat (go_quiet (fail); try go_wp2)
    go_ret
    exact ⟨xR, bH HB.out⟩
   ·replace c17 := Bool.eq_false_iff.mpr c17; subst c17; rw [if_neg (show ¬ (false = true) by decide)] at H; have H' := Aside0.mk H; clear H; go_wp2
    repeat (go_quiet (fail); try go_wp2)
    go_loopg [5] kj2 (fun kq v5 w' => ∃ (x5_2 : Int), v5 = .int .i64 x5_2 ∧ Aside0 (tallboyref15_Same.l0 kq x5_2 a0_0 l0_1 a0_2 a1_0 l1_1 a1_2 = some r) ∧ Aside0 (kq ≤ kj2) ∧ Aside0 (w'.heap[gb220]? = some (.cells #[.int .i64 a0_0, (.slice A0_1 l0_1.length c0_1), .int .u64 a0_2] 25 (0, 0))) ∧ Aside0 (w'.heap[gb221]? = some (.cells #[.int .i64 a1_0, (.slice A1_1 l1_1.length c1_1), .int .u64 a1_2] 25 (0, 0))) ∧ Aside0 (Below w.heap.size w w'))
    case atStart => exact ⟨(0), (by first | rfl | (simp; done) | (simp [*]; done)), H', ⟨Nat.le_refl _⟩, ⟨bK BK220.out⟩, ⟨bK BK221.out⟩, ⟨bH HB.out⟩⟩
    case round =>
     clear H'; (try clear c6); (try clear c6b0); (try clear c6b1); (try clear c7); (try clear c7b0); (try clear c7b1); (try clear c17); (try clear hcz10); (try clear hcz12); (try clear hcz13); (try clear hcz15); (try clear hcz16); (try clear hcz9); (try clear hfz10); (try clear hfz12); (try clear hfz13); (try clear hfz15); (try clear hfz16); (try clear hfz9); obtain ⟨x5_2, rfl, HA, HK2, BK220, BK221, HB⟩ := hrel; cases gk with
     | zero => exact absurd HA.out (by simp [tallboyref15_Same.l0])
     | succ k2 =>
      have H := HA.out; clear HA; simp only [tallboyref15_Same.l0] at H
      by_cases c18 : x5_2 < (l0_1.length : Int)
      ·rw [if_pos c18] at H; have c18b0 : decide (x5_2 < (l0_1.length : Int)) = true := decide_eq_true c18; clear c18
       by_cases c19 : 0 ≤ x5_2
       ·rw [if_pos c19] at H; have c19b0 : decide (0 ≤ x5_2) = true := decide_eq_true c19; clear c19
        by_cases c20 : x5_2 < (l1_1.length : Int)
        ·rw [if_pos c20] at H; have c20b0 : decide (x5_2 < (l1_1.length : Int)) = true := decide_eq_true c20; clear c20
         by_cases c21 : (!((((rd_T47 l0_1 x5_2).f0).toList) == (((rd_T47 l1_1 x5_2).f0).toList)) || (!(((rd_T47 l0_1 x5_2).f1) == ((rd_T47 l1_1 x5_2).f1)) || (!((((rd_T47 l0_1 x5_2).f2).toList) == (((rd_T47 l1_1 x5_2).f2).toList)) || (!(((rd_T47 l0_1 x5_2).f3) == ((rd_T47 l1_1 x5_2).f3)))))) = true
         ·rw [if_pos c21] at H; have c21b0 : (!((((rd_T47 l0_1 x5_2).f0).toList) == (((rd_T47 l1_1 x5_2).f0).toList)) || (!(((rd_T47 l0_1 x5_2).f1) == ((rd_T47 l1_1 x5_2).f1)) || (!((((rd_T47 l0_1 x5_2).f2).toList) == (((rd_T47 l1_1 x5_2).f2).toList)) || (!(((rd_T47 l0_1 x5_2).f3) == ((rd_T47 l1_1 x5_2).f3)))))) = true := c21; clear c21; obtain rfl := Option.some.inj H; have hnb22 := rP NB220_221 NB221_220; obtain ⟨hcz23, hfz23⟩ := d3 BK220; have p222 : 0 ≤ (x5_2 : Int) := of_decide_eq_true (by first | (with_reducible assumption) | assumption); have q222 : x5_2 < (l0_1.length : Int) := of_decide_eq_true (by first | (with_reducible assumption) | assumption)
          obtain ⟨ad222, e222, hx222_0, hx222_1, hx222_2, hx222_3⟩ := at_T47 HR0_1.out x5_2 p222 q222; cases e222; replace hx222_0 := (HB.out.cell (World.block_lt_of_cell? w _ hx222_0)).trans hx222_0; replace hx222_1 := (HB.out.cell (World.block_lt_of_cell? w _ hx222_1)).trans hx222_1; replace hx222_2 := (HB.out.cell (World.block_lt_of_cell? w _ hx222_2)).trans hx222_2; replace hx222_3 := (HB.out.cell (World.block_lt_of_cell? w _ hx222_3)).trans hx222_3; replace p222 := eq_true p222; replace q222 := eq_true q222; obtain ⟨hcz24, hfz24⟩ := d3 BK221; have p223 : 0 ≤ (x5_2 : Int) := of_decide_eq_true (by first | (with_reducible assumption) | assumption); have q223 : x5_2 < (l1_1.length : Int) := of_decide_eq_true (by first | (with_reducible assumption) | assumption)
          obtain ⟨ad223, e223, hx223_0, hx223_1, hx223_2, hx223_3⟩ := at_T47 HR1_1.out x5_2 p223 q223; cases e223; replace hx223_0 := (HB.out.cell (World.block_lt_of_cell? w _ hx223_0)).trans hx223_0; replace hx223_1 := (HB.out.cell (World.block_lt_of_cell? w _ hx223_1)).trans hx223_1; replace hx223_2 := (HB.out.cell (World.block_lt_of_cell? w _ hx223_2)).trans hx223_2; replace hx223_3 := (HB.out.cell (World.block_lt_of_cell? w _ hx223_3)).trans hx223_3; replace p223 := eq_true p223; replace q223 := eq_true q223; go_wp2
          repeat (go_quiet (fail); try go_wp2)
          go_ret
          exact ⟨xR, bH HB.out⟩
         ·rw [if_neg c21] at H; have c21b0 : (!((((rd_T47 l0_1 x5_2).f0).toList) == (((rd_T47 l1_1 x5_2).f0).toList)) || (!(((rd_T47 l0_1 x5_2).f1) == ((rd_T47 l1_1 x5_2).f1)) || (!((((rd_T47 l0_1 x5_2).f2).toList) == (((rd_T47 l1_1 x5_2).f2).toList)) || (!(((rd_T47 l0_1 x5_2).f3) == ((rd_T47 l1_1 x5_2).f3)))))) = false := by simpa using c21
          clear c21; have H' := Aside0.mk H; clear H; have hnb25 := rP NB220_221 NB221_220; obtain ⟨hcz26, hfz26⟩ := d3 BK220; have p222 : 0 ≤ (x5_2 : Int) := of_decide_eq_true (by first | (with_reducible assumption) | assumption); have q222 : x5_2 < (l0_1.length : Int) := of_decide_eq_true (by first | (with_reducible assumption) | assumption)
          obtain ⟨ad222, e222, hx222_0, hx222_1, hx222_2, hx222_3⟩ := at_T47 HR0_1.out x5_2 p222 q222; cases e222; replace hx222_0 := (HB.out.cell (World.block_lt_of_cell? w _ hx222_0)).trans hx222_0; replace hx222_1 := (HB.out.cell (World.block_lt_of_cell? w _ hx222_1)).trans hx222_1; replace hx222_2 := (HB.out.cell (World.block_lt_of_cell? w _ hx222_2)).trans hx222_2; replace hx222_3 := (HB.out.cell (World.block_lt_of_cell? w _ hx222_3)).trans hx222_3; replace p222 := eq_true p222; replace q222 := eq_true q222; obtain ⟨hcz27, hfz27⟩ := d3 BK221; have p223 : 0 ≤ (x5_2 : Int) := of_decide_eq_true (by first | (with_reducible assumption) | assumption); have q223 : x5_2 < (l1_1.length : Int) := of_decide_eq_true (by first | (with_reducible assumption) | assumption)
          obtain ⟨ad223, e223, hx223_0, hx223_1, hx223_2, hx223_3⟩ := at_T47 HR1_1.out x5_2 p223 q223; cases e223; replace hx223_0 := (HB.out.cell (World.block_lt_of_cell? w _ hx223_0)).trans hx223_0; replace hx223_1 := (HB.out.cell (World.block_lt_of_cell? w _ hx223_1)).trans hx223_1; replace hx223_2 := (HB.out.cell (World.block_lt_of_cell? w _ hx223_2)).trans hx223_2; replace hx223_3 := (HB.out.cell (World.block_lt_of_cell? w _ hx223_3)).trans hx223_3; replace p223 := eq_true p223; replace q223 := eq_true q223; go_wp2
          repeat (go_quiet (fail); try go_wp2)
          go_roundg k2
          case measure => have := HJ2.out; have := HK2.out; omega
          case rel => exact ⟨(wrap64 (x5_2 + 1)), (by first | rfl | (simp; done) | (simp [*]; done)), H', ⟨by have := HJ2.out; have := HK2.out; omega⟩, ⟨bK BK220.out⟩, ⟨bK BK221.out⟩, ⟨bH HB.out⟩⟩
        ·rw [if_neg c20] at H; exact absurd H (by simp)
       ·rw [if_neg c19] at H; exact absurd H (by simp)
      ·rw [if_neg c18] at H; have c18b0 : decide (x5_2 < (l0_1.length : Int)) = false := decide_eq_false c18; clear c18; obtain rfl := Option.some.inj H; have hnb28 := rP NB220_221 NB221_220; obtain ⟨hcz29, hfz29⟩ := d3 BK220; go_wp2
       repeat (go_quiet (fail); try go_wp2)
       go_ret
       exact ⟨xR, bH HB.out⟩

/-! ### tallboylaw16_From: function 17 -/
def tallboylaw16_From.l0 : Nat → Int → Int → List (S60) → Int → Int → List (S47) → Int → Option (Int × (List (S47)) × Int)
 | 0, _, _, _, _, _, _, _ => none
 | k + 1, x4, x225000, z4, x225002, zb, za, zc => if x4 < (z4.length : Int) then (if 0 ≤ x4 then (if za.length < 2932031007402 then (tallboylaw16_From.l0 k (wrap64 (x4 + 1)) x225000 z4 x225002 zb (za ++ [(⟨(rd_T60 z4 x4).f0, (rd_T60 z4 x4).f1, (rd_T60 z4 x4).f2, (rd_T60 z4 x4).f3⟩ : S47)]) zc) else (none)) else (none)) else (some (zb, za, zc))
def tallboylaw16_From.f (k : Nat) (a0_0 : Int) (l0_1 : List (S60)) (a0_2 : Int) : Option (Int × (List (S47)) × Int) := tallboylaw16_From.l0 k 0 a0_0 l0_1 a0_2 a0_0 ([] : List (S47)) a0_2
theorem tallboylaw16_From.mono_l : ∀ k, (∀ y0 y1 y2 y3 y4 y5 y6, LeO (tallboylaw16_From.l0 k y0 y1 y2 y3 y4 y5 y6) (tallboylaw16_From.l0 (k + 1) y0 y1 y2 y3 y4 y5 y6))
 | 0 => fun _ _ _ _ _ _ _ r h => by simp [tallboylaw16_From.l0] at h
 | k + 1 => by
  have ih0 := tallboylaw16_From.mono_l k
  ·intro y0 y1 y2 y3 y4 y5 y6
   unfold tallboylaw16_From.l0
   repeat' first | (with_reducible first | apply ih0 | exact LeO.refl _ | exact LeO.none _ | refine LeO.ite ?_ ?_ | refine LeO.bind ?_ (fun _ => ?_)) | apply ih0 | exact LeO.none _ | refine LeO.ite ?_ ?_ | refine LeO.bind ?_ (fun _ => ?_)
theorem tallboylaw16_From.mono : ∀ a0 a1 a2 k, LeO (tallboylaw16_From.f k a0 a1 a2) (tallboylaw16_From.f (k + 1) a0 a1 a2) := by
 intro a0 a1 a2 k
 have ih0 := tallboylaw16_From.mono_l k; unfold tallboylaw16_From.f
 repeat' first | (with_reducible first | apply ih0 | exact LeO.refl _ | exact LeO.none _ | refine LeO.ite ?_ ?_ | refine LeO.bind ?_ (fun _ => ?_)) | apply ih0 | exact LeO.none _ | refine LeO.ite ?_ ?_ | refine LeO.bind ?_ (fun _ => ?_)
set_option maxHeartbeats 8000000 in
set_option maxRecDepth 100000 in
theorem tallboylaw16_From.calls (k : Nat) (a0_0 : Int) (A0_1 : Option Addr) (c0_1 : Nat) (l0_1 : List (S60)) (a0_2 : Int) (r1 : Int) (r2 : List (S47)) (r3 : Int) (w : World) (hr0_1 : Kd.C k60 w A0_1 l0_1.length l0_1) (hc0_1 : l0_1.length ≤ c0_1) (h : tallboylaw16_From.f k a0_0 l0_1 a0_2 = some (r1, r2, r3)) :
  Calls Tryd.prog 17 #[.agg #[.int .i64 a0_0, .slice A0_1 l0_1.length c0_1, .int .u64 a0_2]] w fun e w' => ∃ v1_ : Value, e = .returned (.agg #[.int .i64 r1, v1_, .int .u64 r3]) ∧ Kd.R k47 47 w' w.heap.size (fun _ => True) v1_ r2 ∧ Below w.heap.size w w' := by
 have hu30 := Tryd.underlying30; have hu25 := Tryd.underlying25; have hu60 := Tryd.underlying60; have hu47 := Tryd.underlying47; have HR0_1 := Aside0.mk hr0_1; have HC0_1 := Aside0.mk hc0_1; clear hr0_1 hc0_1; have HB := Aside0.mk (Below.refl w.heap.size w); have H : (tallboylaw16_From.l0 k 0 a0_0 l0_1 a0_2 a0_0 ([] : List (S47)) a0_2) = some (r1, r2, r3) := h; clear h; have H' := Aside0.mk H; clear H; go_enter Tryd.func17, Tryd.ntmps17
 go_wp2_with (first | ((with_reducible refine gate_dst (N := 1) rfl ?_); refine bE 1 #[.int .i64 a0_0, .slice A0_1 l0_1.length c0_1, .int .u64 a0_2] 30 rfl rfl ?_; intro gb224 hg w2 hbox hb; have BK224 := rM hbox; have GW224 := rG HB hg; replace HB := rS HB hb; have GE224 := GW224; clear hb hbox hg) | ((with_reducible refine gate_dst (N := 2) rfl ?_); refine bE 2 #[.int .i64 0, .slice none 0 0, .int .u64 0] 25 rfl rfl ?_; intro gb225 hg w3 hbox hb; have BK225 := rM hbox; have GW225 := rG HB hg; replace HB := rS HB hb; have GE225 := GW225; have NB224_225 := rN BK224 hg; replace BK224 := rB BK224 hb; have NB225_224 := rY NB224_225; clear hb hbox hg; have hnb4 := rP NB224_225 NB225_224; obtain ⟨hcz5, hfz5⟩ := d3 BK224) | ((with_reducible refine gate_dst (N := 3) rfl ?_); refine bE 3 #[.int .i64 0, .slice none 0 0, .int .u64 0] 25 rfl rfl ?_; intro gb226 hg w6 hbox hb; have BK226 := rM hbox; have GW226 := rG HB hg; replace HB := rS HB hb; have GE226 := GW226; have NB224_226 := rN BK224 hg; replace BK224 := rB BK224 hb; have NB226_224 := rY NB224_226; have NB225_226 := rN BK225 hg; replace BK225 := rB BK225 hb; have NB226_225 := rY NB225_226; clear hb hbox hg; have hnb7 := rP NB226_224 NB224_226; have hnb8 := rP NB226_225 NB225_226; obtain ⟨hcz9, hfz9⟩ := d3 BK226))
 go_loopg [4] k (fun kq v4 w' => ∃ (x4_1 : Int) (z3 : List (S47)) (z5 : Value), v4 = .int .i64 x4_1 ∧ Aside0 (tallboylaw16_From.l0 kq x4_1 a0_0 l0_1 a0_2 a0_0 z3 a0_2 = some (r1, r2, r3)) ∧ Aside0 (kq ≤ k) ∧ Aside0 (Kd.R k47 47 w' w.heap.size (fun _ => True) z5 z3) ∧ Aside0 (w'.heap[gb224]? = some (.cells #[.int .i64 a0_0, (.slice A0_1 l0_1.length c0_1), .int .u64 a0_2] 30 (0, 0))) ∧ Aside0 (w'.heap[gb225]? = some (.cells #[.int .i64 0, (.slice none 0 0), .int .u64 0] 25 (0, 0))) ∧ Aside0 (w'.heap[gb226]? = some (.cells #[.int .i64 a0_0, z5, .int .u64 a0_2] 25 (0, 0))) ∧ Aside0 (Below w.heap.size w w'))
 case atStart => exact ⟨(0), (([] : List (S47))), (.slice none 0 0), (by first | rfl | (simp; done) | (simp [*]; done)), H', ⟨Nat.le_refl _⟩, ⟨xN⟩, ⟨bK BK224.out⟩, ⟨bK BK225.out⟩, ⟨bV BK226.out⟩, ⟨bH HB.out⟩⟩
 case round =>
  clear H'; (try clear hcz5); (try clear hcz9); (try clear hfz5); (try clear hfz9); obtain ⟨x4_1, z3, z5, rfl, HA, HK1, z0, BK224, BK225, BK226, HB⟩ := hrel; cases gk with
  | zero => exact absurd HA.out (by simp [tallboylaw16_From.l0])
  | succ k1 =>
   have H := HA.out; clear HA; simp only [tallboylaw16_From.l0] at H
   by_cases c10 : x4_1 < (l0_1.length : Int)
   ·rw [if_pos c10] at H; have c10b0 : decide (x4_1 < (l0_1.length : Int)) = true := decide_eq_true c10; clear c10
    by_cases c11 : 0 ≤ x4_1
    ·rw [if_pos c11] at H; have c11b0 : decide (0 ≤ x4_1) = true := decide_eq_true c11; clear c11
     by_cases c12 : z3.length < 2932031007402
     ·rw [if_pos c12] at H; have LMc12 := Aside0.mk c12; clear c12; obtain ⟨y229, hy229⟩ : ∃ y_ : List (S47), y_ = (z3 ++ [(⟨(rd_T60 l0_1 x4_1).f0, (rd_T60 l0_1 x4_1).f1, (rd_T60 l0_1 x4_1).f2, (rd_T60 l0_1 x4_1).f3⟩ : S47)]) := ⟨_, rfl⟩; replace H : (tallboylaw16_From.l0 k1 (wrap64 (x4_1 + 1)) a0_0 l0_1 a0_2 a0_0 y229 a0_2) = some (r1, r2, r3) := by first | (rw [hy229]; with_reducible exact H) | (have H2_ := (Option.bind_some _ _).symm.trans H; rw [hy229]; with_reducible exact H2_) | (have H2_ := (Option.bind_some _ _).symm.trans H; with_reducible exact H2_) | with_reducible exact H | (rw [hy229]; exact H) | exact H
      have Ny229 := Aside0.mk hy229; clear hy229; have H' := Aside0.mk H; clear H; have hnb13 := rP NB224_225 NB225_224; have hnb14 := rP NB224_226 NB226_224; obtain ⟨hcz15, hfz15⟩ := d3 BK224; have p227 : 0 ≤ (x4_1 : Int) := of_decide_eq_true (by first | (with_reducible assumption) | assumption); have q227 : x4_1 < (l0_1.length : Int) := of_decide_eq_true (by first | (with_reducible assumption) | assumption)
      obtain ⟨ad227, e227, hx227_0, hx227_1, hx227_2, hx227_3⟩ := at_T60 HR0_1.out x4_1 p227 q227; cases e227; replace hx227_0 := (HB.out.cell (World.block_lt_of_cell? w _ hx227_0)).trans hx227_0; replace hx227_1 := (HB.out.cell (World.block_lt_of_cell? w _ hx227_1)).trans hx227_1; replace hx227_2 := (HB.out.cell (World.block_lt_of_cell? w _ hx227_2)).trans hx227_2; replace hx227_3 := (HB.out.cell (World.block_lt_of_cell? w _ hx227_3)).trans hx227_3; replace p227 := eq_true p227; replace q227 := eq_true q227
      go_wp2_with (first | ((with_reducible refine gate_dst (N := 5) rfl ?_); refine bE 5 #[.string (⟨#[]⟩ : ByteArray), .int .u32 0, .string (⟨#[]⟩ : ByteArray), .int .u64 0] 60 rfl rfl ?_; intro gb228 hg w16 hbox hb; replace z0 := Aside0.mk (Kd.R_below (by (with_reducible repeat (first | apply Kd.R_alloc | apply Kd.R_drewN | apply Kd.R_drew)); exact z0.out) hb); have BK228 := rM hbox; have GW228 := rG HB hg; replace HB := rS HB hb; have GE228 := GW228; have NB224_228 := rN BK224 hg; replace BK224 := rB BK224 hb; have NB228_224 := rY NB224_228; have NB225_228 := rN BK225 hg; replace BK225 := rB BK225 hb; have NB228_225 := rY NB225_228; have NB226_228 := rN BK226 hg; replace BK226 := rB BK226 hb; have NB228_226 := rY NB226_228; clear hb hbox hg; have hnb17 := rP NB228_224 NB224_228; have hnb18 := rP NB228_225 NB225_228; have hnb19 := rP NB228_226 NB226_228; obtain ⟨hcz20, hfz20⟩ := d4 BK228; have hnb21 := rP NB226_225 NB225_226; obtain ⟨hcz22, hfz22⟩ := d3 BK226) | ((with_reducible refine gate_builtin (b := .append) (xs := #[.tmp 24, .tmp 34]) rfl ?_); at_builtin; refine Kd.R_append k47 (w0 := w) w.heap.size rfl (.tmp 24) (.tmp 34) 22 47 (.agg #[(.string ⟨#[]⟩), (.int .u32 0), (.string ⟨#[]⟩), (.int .u64 0)]) 48 rfl Tryd.underlying22 info47 rfl (by decide) (by omega) z5 z3 (⟨(rd_T60 l0_1 x4_1).f0, (rd_T60 l0_1 x4_1).f1, (rd_T60 l0_1 x4_1).f2, (rd_T60 l0_1 x4_1).f3⟩ : S47) [.string ((rd_T60 l0_1 x4_1).f0), .int .u32 ((rd_T60 l0_1 x4_1).f1), .string ((rd_T60 l0_1 x4_1).f2), .int .u64 ((rd_T60 l0_1 x4_1).f3)] (fun _ => True) (fun _ => False) rfl (by first | (go_simp; done) | (go_simp; rfl)) ?aP (fun _ hk => hk.elim) ?aF ?aO ?aB ?aS ?aL ?_; (case aP => exact k47_mkM _ _ _ (⟨(rd_T60 l0_1 x4_1).f0, (rd_T60 l0_1 x4_1).f1, (rd_T60 l0_1 x4_1).f2, (rd_T60 l0_1 x4_1).f3⟩ : S47)); (case aB => exact (bH HB.out)); (case aF => exact (fun _ _ => trivial)); (case aO => exact (by (with_reducible repeat (first | apply Kd.R_alloc | apply Kd.R_drewN | apply Kd.R_drew)); exact Kd.R_mono (Kd.R_far (p := ⟨gb228, 3, none⟩) (Kd.R_far (p := ⟨gb228, 2, none⟩) (Kd.R_far (p := ⟨gb228, 1, none⟩) (Kd.R_far (p := ⟨gb228, 0, none⟩) (Kd.R_types z0.out BK228.out (by decide)) (fun _ hk => hk.2) (.string ((rd_T60 l0_1 x4_1).f0))) (fun _ hk => hk.2) (.int .u32 ((rd_T60 l0_1 x4_1).f1))) (fun _ hk => hk.2) (.string ((rd_T60 l0_1 x4_1).f2))) (fun _ hk => hk.2) (.int .u64 ((rd_T60 l0_1 x4_1).f3))) (fun _ hk => trivial))); (case aS => exact (below_size (bH HB.out))); (case aL => have := LMc12.out; omega); intro v230 w23 ho hb hg hat; rw [← Ny229.out] at ho; replace BK224 := Aside0.mk (blk_grown (g := gb224) (o := .cells #[.int .i64 a0_0, .slice (some ad227) l0_1.length c0_1, .int .u64 a0_2] 30 (0, 0)) (bK BK224.out) hg (Kd.R_ne z0.out BK224.out (by decide))); replace BK225 := Aside0.mk (blk_grown (g := gb225) (o := .cells #[.int .i64 0, .slice none 0 0, .int .u64 0] 25 (0, 0)) (bK BK225.out) hg (Kd.R_ne z0.out BK225.out (by decide))); replace BK226 := Aside0.mk (blk_grown (g := gb226) (o := .cells #[.int .i64 a0_0, z5, .int .u64 a0_2] 25 (0, 0)) (bK BK226.out) hg (Kd.R_ne z0.out BK226.out (by decide))); replace BK228 := Aside0.mk (blk_grown (g := gb228) (o := .cells #[.string ((rd_T60 l0_1 x4_1).f0), .int .u32 ((rd_T60 l0_1 x4_1).f1), .string ((rd_T60 l0_1 x4_1).f2), .int .u64 ((rd_T60 l0_1 x4_1).f3)] 60 (0, 0)) (bV BK228.out) hg (Kd.R_ne z0.out BK228.out (by decide))); replace HB := Aside0.mk (hb); have HO231 := Aside0.mk (ho); clear z0; clear ho hb hg hat; obtain ⟨Ao24, co24, eo24⟩ := Kd.R_slice HO231.out; subst eo24; obtain ⟨hcz25, hfz25⟩ := d3 BK226))
      go_roundg k1
      case measure => have := HK1.out; omega
      case rel => exact ⟨(wrap64 (x4_1 + 1)), (y229), (.slice Ao24 y229.length co24), (by first | rfl | (simp; done) | (simp [*]; done)), H', ⟨by have := HK1.out; omega⟩, ⟨by (with_reducible repeat (first | apply Kd.R_alloc | apply Kd.R_drewN | apply Kd.R_drew)); exact Kd.R_mono (Kd.R_far (p := ⟨gb226, 1, none⟩) (Kd.R_types HO231.out BK226.out (by decide)) (fun _ hk => hk.2) (.slice Ao24 y229.length co24)) (fun _ hk => trivial)⟩, ⟨bK BK224.out⟩, ⟨bK BK225.out⟩, ⟨bV BK226.out⟩, ⟨bH HB.out⟩⟩
     ·rw [if_neg c12] at H; exact absurd H (by simp)
    ·rw [if_neg c11] at H; exact absurd H (by simp)
   ·rw [if_neg c10] at H; have c10b0 : decide (x4_1 < (l0_1.length : Int)) = false := decide_eq_false c10; clear c10; simp only [Option.some.injEq, Prod.mk.injEq] at H; obtain ⟨rfl, rfl, rfl⟩ := H; have hnb26 := rP NB224_225 NB225_224; have hnb27 := rP NB224_226 NB226_224; obtain ⟨hcz28, hfz28⟩ := d3 BK224; have hnb29 := rP NB226_225 NB225_226; obtain ⟨hcz30, hfz30⟩ := d3 BK226; obtain ⟨hcz31, hfz31⟩ := d3 BK225; obtain ⟨Ao32, co32, eo32⟩ := Kd.R_slice z0.out; subst eo32; go_wp2; refine bodyPost_ret (results_cell_row rfl _ _ gb225 25 #[.int .i64 a0_0, .slice Ao32 z3.length co32, .int .u64 a0_2] (0, 0) _ rfl (bV BK225.out) Tryd.underlying25 rfl (by kernel_rfl)) rfl ?_
    exact ⟨_, xR, by (with_reducible repeat (first | apply Kd.R_alloc | apply Kd.R_drewN | apply Kd.R_drew)); exact Kd.R_mono (Kd.R_far (p := ⟨gb225, 2, none⟩) (Kd.R_far (p := ⟨gb225, 1, none⟩) (Kd.R_far (p := ⟨gb225, 0, none⟩) (Kd.R_types z0.out BK225.out (by decide)) (fun _ hk => hk.2) (.int .i64 a0_0)) (fun _ hk => hk.2) (.slice Ao32 z3.length co32)) (fun _ hk => hk.2) (.int .u64 a0_2)) (fun _ hk => trivial), bH HB.out⟩

end Go.Proofs.YtdgpagocccabdaaDoor.P
