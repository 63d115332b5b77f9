/- Lean functions for the Go functions that the laws of this seat use, and the proofs that the Go code computes them; conditions: the readings that each theorem names. Written by a program. -/
import Derived.Test.YtdgpagocccabdaaDoorPx0
import Derived.Test.YtdgpagocccabdaaDoorPx3
import Derived.Test.YtdgpagocccabdaaDoorPx9
import Derived.Test.YtdgpagocccabdaaDoorPx10
import Derived.Test.YtdgpagocccabdaaDoorPx24
import Derived.Test.YtdgpagocccabdaaDoorPx25
import Derived.Test.YtdgpagocccabdaaDoorPx29
import Derived.Test.YtdgpagocccabdaaDoorPx31
import Derived.Test.YtdgpagocccabdaaDoorPx35
import Derived.Test.YtdgpagocccabdaaDoorShort
namespace Go.Proofs.YtdgpagocccabdaaDoor.P
open Go.RowKit Go.Proofs.YtdgpagocccabdaaDoorW.PrintWords Go.Proofs.YtdgpagocccabdaaDoorW.PrintLast Go.Proofs.YtdgpagocccabdaaDoorW.PrintMore
set_option linter.unusedVariables false
set_option linter.unusedSimpArgs false

/-! ### tallboylaw18_ReplyRow: function 7 -/
set_option maxHeartbeats 8000000 in
set_option maxRecDepth 100000 in
theorem tallboylaw18_ReplyRow.calls (k : Nat) (a0 : Int) (A1 : Option Addr) (c1 : Nat) (l1 : List (S25)) (r : Bool) (w : World) (hr1 : Kd.C k25 w A1 l1.length l1) (hc1 : l1.length ≤ c1) (h : tallboylaw18_ReplyRow.f k a0 l1 = some r) (hL : LdU w) :
  Calls Tryd.prog 7 #[.int .i64 a0, .slice A1 l1.length c1] w fun e w' => e = .returned (.bool r) ∧ Below w.heap.size w w' := by
 have HL := Aside0.mk hL; clear hL; have hu25 := Tryd.underlying25; have hu47 := Tryd.underlying47; have hu30 := Tryd.underlying30; have HR1 := Aside0.mk hr1; have HC1 := Aside0.mk hc1; clear hr1 hc1; have HB := Aside0.mk (Below.refl w.heap.size w); have H : ((tallboylaw18_works.f k).bind fun t360 => (if t360 = true then (tallboylaw18_ReplyRow.l0 k a0 l1 (⟨#[]⟩ : ByteArray) ([] : List (S25)) 0) else (none))) = some r := h; clear h; replace H := Option.bind_eq_some_iff.mp H; obtain ⟨t360, A30, H⟩ := H; (try dsimp only at H); have A3 := Aside0.mk A30; clear A30
 by_cases c4 : t360 = true
 ·subst c4; rw [if_pos rfl] at H; have H' := Aside0.mk H; clear H; go_enter Tryd.func7, Tryd.ntmps7
  go_wp2_with (first | ((with_reducible refine gate_callee (f := 18) rfl ?_); refine goesL_ (some 16) rfl rfl Tryd.func18 (by kernel_rfl) rfl #[] rfl (by (try simp only [List.map_toArray, List.map_cons, List.map_nil]); first | done | rfl | (simp only [List.length_drop, List.length_take]; rfl)) ?_; (with_reducible refine (tallboylaw18_works.calls k  true _ A3.out (by first | exact HL.out | exact LdU.on HL.out (bH HB.out))).mono ?_); rintro e w5 ⟨rfl, hb⟩; refine ⟨_, rfl, ?_⟩; replace HB := rS HB hb; (try clear hb); (try clear hk); ))
  go_loopg [5, 6, 7] k (fun kq v5 v6 v7 w' => ∃ (x5_1 : ByteArray) (x6_1 : List (S25)) (x7_1 : Int), v5 = .string x5_1 ∧ v7 = .int .i64 x7_1 ∧ Aside0 (tallboylaw18_ReplyRow.l0 kq a0 l1 x5_1 x6_1 x7_1 = some r) ∧ Aside0 (kq ≤ k) ∧ Aside0 (Kd.S k25 25 w' w.heap.size (fun _ => True) v6 x6_1) ∧ Aside0 (Below w.heap.size w w'))
  case atStart => exact ⟨((⟨#[]⟩ : ByteArray)), (([] : List (S25))), (0), (by first | rfl | (simp; done) | (simp [*]; done)), (by first | rfl | (simp; done) | (simp [*]; done)), H', ⟨Nat.le_refl _⟩, ⟨by first | exact Kd.S_nil _ _ _ _ _ | exact Kd.N_nil _ _ _ _ _ | exact Kd.V_nil _ _ _ _ _ | exact Kd.Q_nil _ _ _ _ _ | exact Kd.R_nil _ _ _ _ _⟩, ⟨bH HB.out⟩⟩
  case round =>
   clear H'; (try clear c1); (try clear c4); obtain ⟨x5_1, x6_1, x7_1, rfl, rfl, HA, HK1, HO_6, HB⟩ := hrel; cases gk with
   | zero => exact absurd HA.out (by simp [tallboylaw18_ReplyRow.l0])
   | succ k1 =>
    have H := HA.out; clear HA; simp only [tallboylaw18_ReplyRow.l0] at H; have HC6 := Aside0.mk H; clear H
    go_upto_region 6 with (fail)
    go_cut [25] (fun v25 wc => ∃ (kq : Nat) (x25_5 : Bool), v25 = .bool x25_5 ∧ Aside0 (tallboylaw18_ReplyRow.j1 kq a0 l1 x5_1 x6_1 x7_1 x25_5 = some r) ∧ Aside0 (kq ≤ k1) ∧ Aside0 (Kd.S k25 25 wc w.heap.size (fun _ => True) u6 x6_1) ∧ Aside0 (Below w.heap.size w wc))
    case first =>
     have H := HC6.out; clear HC6
     by_cases c7 : x7_1 < (l1.length : Int)
     ·rw [if_pos c7] at H; have c7b0 : decide (x7_1 < (l1.length : Int)) = true := decide_eq_true c7; clear c7
      (first | rw [c7b0] | (simp only [i64_w, i32_w]; rw [c7b0]) | skip)
      have H' := Aside0.mk H; clear H; go_wp2
      go_meet
      case rel => exact ⟨_, (decide (x7_1 < 12)), (by first | rfl | (simp; done) | (simp [*]; done)), H', ⟨by have := HK1.out; first | omega | exact Nat.le_refl _⟩, ⟨by (with_reducible repeat (first | apply Kd.S_alloc | apply Kd.S_drewN | apply Kd.S_drew)); exact HO_6.out⟩, ⟨bH HB.out⟩⟩
     ·rw [if_neg c7] at H; have c7b0 : decide (x7_1 < (l1.length : Int)) = false := decide_eq_false c7; clear c7
      (first | rw [c7b0] | (simp only [i64_w, i32_w]; rw [c7b0]) | skip)
      have H' := Aside0.mk H; clear H; go_wp2
      go_meet
      case rel => exact ⟨_, (false), (by first | rfl | (simp; done) | (simp [*]; done)), H', ⟨by have := HK1.out; first | omega | exact Nat.le_refl _⟩, ⟨by (with_reducible repeat (first | apply Kd.S_alloc | apply Kd.S_drewN | apply Kd.S_drew)); exact HO_6.out⟩, ⟨bH HB.out⟩⟩
    case rest =>
     clear HC6; (try clear c1); (try clear c4); (try clear c7b0); obtain ⟨kq, x25_5, rfl, HA, HJ5, HO_6, HB⟩ := hcut; cases kq with
     | zero => exact absurd HA.out (by simp [tallboylaw18_ReplyRow.j1])
     | succ kj5 =>
      have H := HA.out; clear HA; simp only [tallboylaw18_ReplyRow.j1] at H
      by_cases c8 : x25_5 = true
      ·subst c8; rw [if_pos rfl] at H
       by_cases c9 : 0 ≤ x7_1
       ·rw [if_pos c9] at H; have c9b0 : decide (0 ≤ x7_1) = true := decide_eq_true c9; clear c9
        by_cases c10 : x7_1 < (l1.length : Int)
        ·rw [if_pos c10] at H; have c10b0 : decide (x7_1 < (l1.length : Int)) = true := decide_eq_true c10; clear c10; have HC11 := Aside0.mk H; clear H; have p361 : 0 ≤ (x7_1 : Int) := of_decide_eq_true (by first | (with_reducible assumption) | assumption); have q361 : x7_1 < (l1.length : Int) := of_decide_eq_true (by first | (with_reducible assumption) | assumption)
         obtain ⟨ad361, A361_1, c361_1, e361, hx361_0, hx361_1, hx361_2, hl361_1, hi361_1⟩ := at_T25 HR1.out x7_1 p361 q361; cases e361; replace hx361_0 := (HB.out.cell (World.block_lt_of_cell? w _ hx361_0)).trans hx361_0; replace hx361_1 := (HB.out.cell (World.block_lt_of_cell? w _ hx361_1)).trans hx361_1; replace hx361_2 := (HB.out.cell (World.block_lt_of_cell? w _ hx361_2)).trans hx361_2; have HR361_1 := Aside0.mk hi361_1; have HC361_1 := Aside0.mk hl361_1; clear hi361_1 hl361_1; replace p361 := eq_true p361; replace q361 := eq_true q361
         go_upto_region 9 with (first | ((with_reducible refine gate_dst (N := 8) rfl ?_); (try (refine gate_guard (by rfl) ?_; dsimp only)); refine bE 8 #[.int .i64 0, .slice none 0 0, .int .u64 0] 25 rfl rfl ?_; intro gb362 hg w12 hbox hb; replace HO_6 := Aside0.mk (Kd.S_below (Kd.S_elderB (by (with_reducible repeat (first | apply Kd.S_alloc | apply Kd.S_drewN | apply Kd.S_drew)); exact HO_6.out) gb362 (Nat.le_of_eq hg.symm)) hb); have BK362 := rM hbox; have GW362 := rG HB hg; replace HB := rS HB hb; have GE362 := GW362; clear hb hbox hg; obtain ⟨hcz13, hfz13⟩ := d3 BK362))
         (try simp only [Act.put, sA, sB, sC])
         go_cut [49] (fun v49 wc => ∃ (kq : Nat) (x49_10 : Bool), v49 = .bool x49_10 ∧ Aside0 (tallboylaw18_ReplyRow.j2 kq a0 l1 x5_1 x6_1 x7_1 x49_10 ((rd_T25 l1 x7_1).f0) ((rd_T25 l1 x7_1).f1) ((rd_T25 l1 x7_1).f2) = some r) ∧ Aside0 (kq ≤ kj5) ∧ Aside0 (Kd.S k25 25 wc w.heap.size (fun k_ => k_ ≠ gb362) u6 x6_1) ∧ Aside0 (wc.heap[gb362]? = some (.cells #[.int .i64 ((rd_T25 l1 x7_1).f0), (.slice A361_1 ((rd_T25 l1 x7_1).f1).length c361_1), .int .u64 ((rd_T25 l1 x7_1).f2)] 25 (0, 0))) ∧ Aside0 (Below w.heap.size w wc))
         case first =>
          have H := HC11.out; clear HC11; replace H := Option.bind_eq_some_iff.mp H; obtain ⟨t363, A140, H⟩ := H; (try dsimp only at H); have A14 := Aside0.mk A140; clear A140
          by_cases c15 : t363 = true
          ·subst c15; rw [if_pos rfl] at H; have H' := Aside0.mk H; clear H; obtain ⟨hcz16, hfz16⟩ := d3 BK362
           go_wp2_with (first | ((with_reducible refine gate_callee (f := 8) rfl ?_); refine goesL_ (some 33) rfl rfl Tryd.func8 (by kernel_rfl) rfl #[.agg #[.int .i64 ((rd_T25 l1 x7_1).f0), .slice A361_1 ((rd_T25 l1 x7_1).f1).length c361_1, .int .u64 ((rd_T25 l1 x7_1).f2)]] rfl (by (try simp only [List.map_toArray, List.map_cons, List.map_nil]); first | done | rfl | (simp only [List.length_drop, List.length_take]; rfl)) ?_; (with_reducible refine (tallboylaw18_Great.calls kj5 ((rd_T25 l1 x7_1).f0) _ _ ((rd_T25 l1 x7_1).f1) ((rd_T25 l1 x7_1).f2) true _ ?side1 ?side2 A14.out).mono ?_); (case side1 => exact Kd.C_below HR361_1.out (bH HB.out)); (case side2 => exact HC361_1.out); rintro e w17 ⟨rfl, hb⟩; refine ⟨_, rfl, ?_⟩; replace HO_6 := Aside0.mk (Kd.S_below (by (with_reducible repeat (first | apply Kd.S_alloc | apply Kd.S_drewN | apply Kd.S_drew)); exact (Kd.S_mono (Kd.S_far (p := ⟨gb362, 2, none⟩) (Kd.S_far (p := ⟨gb362, 1, none⟩) (Kd.S_far (p := ⟨gb362, 0, none⟩) (Kd.S_mono HO_6.out (fun k_ hk => (⟨hk, hk.2⟩ : _ ∧ k_ ≠ gb362))) (fun _ hk => hk.2) (.int .i64 ((rd_T25 l1 x7_1).f0))) (fun _ hk => hk.2) (.slice A361_1 ((rd_T25 l1 x7_1).f1).length c361_1)) (fun _ hk => hk.2) (.int .u64 ((rd_T25 l1 x7_1).f2))) (fun _ h_ => h_.1))) hb); replace BK362 := Aside0.mk (blk_below (g := gb362) (o := .cells #[.int .i64 ((rd_T25 l1 x7_1).f0), .slice A361_1 ((rd_T25 l1 x7_1).f1).length c361_1, .int .u64 ((rd_T25 l1 x7_1).f2)] 25 (0, 0)) (bV BK362.out) hb); replace HB := rS HB hb; (try clear hb); (try clear hk); ))
           go_meet
           case rel => exact ⟨_, (true), (by first | rfl | (simp; done) | (simp [*]; done)), H', ⟨by have := HK1.out; have := HJ5.out; first | omega | exact Nat.le_refl _⟩, ⟨by (with_reducible repeat (first | apply Kd.S_alloc | apply Kd.S_drewN | apply Kd.S_drew)); exact Kd.S_mono HO_6.out (fun _ hk => hk.2)⟩, ⟨bK BK362.out⟩, ⟨bH HB.out⟩⟩
          ·replace c15 := Bool.eq_false_iff.mpr c15; subst c15; rw [if_neg (show ¬ (false = true) by decide)] at H
           by_cases c18 : ((rd_T25 l1 x7_1).f0) < 1
           ·rw [if_pos c18] at H; have c18b0 : decide (((rd_T25 l1 x7_1).f0) < 1) = true := decide_eq_true c18; clear c18
            (first | rw [c18b0] | (simp only [i64_w, i32_w]; rw [c18b0]) | skip)
            have H' := Aside0.mk H; clear H; obtain ⟨hcz19, hfz19⟩ := d3 BK362
            go_wp2_with (first | ((with_reducible refine gate_callee (f := 8) rfl ?_); refine goesL_ (some 33) rfl rfl Tryd.func8 (by kernel_rfl) rfl #[.agg #[.int .i64 ((rd_T25 l1 x7_1).f0), .slice A361_1 ((rd_T25 l1 x7_1).f1).length c361_1, .int .u64 ((rd_T25 l1 x7_1).f2)]] rfl (by (try simp only [List.map_toArray, List.map_cons, List.map_nil]); first | done | rfl | (simp only [List.length_drop, List.length_take]; rfl)) ?_; (with_reducible refine (tallboylaw18_Great.calls kj5 ((rd_T25 l1 x7_1).f0) _ _ ((rd_T25 l1 x7_1).f1) ((rd_T25 l1 x7_1).f2) false _ ?side1 ?side2 A14.out).mono ?_); (case side1 => exact Kd.C_below HR361_1.out (bH HB.out)); (case side2 => exact HC361_1.out); rintro e w20 ⟨rfl, hb⟩; refine ⟨_, rfl, ?_⟩; replace HO_6 := Aside0.mk (Kd.S_below (by (with_reducible repeat (first | apply Kd.S_alloc | apply Kd.S_drewN | apply Kd.S_drew)); exact (Kd.S_mono (Kd.S_far (p := ⟨gb362, 2, none⟩) (Kd.S_far (p := ⟨gb362, 1, none⟩) (Kd.S_far (p := ⟨gb362, 0, none⟩) (Kd.S_mono HO_6.out (fun k_ hk => (⟨hk, hk.2⟩ : _ ∧ k_ ≠ gb362))) (fun _ hk => hk.2) (.int .i64 ((rd_T25 l1 x7_1).f0))) (fun _ hk => hk.2) (.slice A361_1 ((rd_T25 l1 x7_1).f1).length c361_1)) (fun _ hk => hk.2) (.int .u64 ((rd_T25 l1 x7_1).f2))) (fun _ h_ => h_.1))) hb); replace BK362 := Aside0.mk (blk_below (g := gb362) (o := .cells #[.int .i64 ((rd_T25 l1 x7_1).f0), .slice A361_1 ((rd_T25 l1 x7_1).f1).length c361_1, .int .u64 ((rd_T25 l1 x7_1).f2)] 25 (0, 0)) (bV BK362.out) hb); replace HB := rS HB hb; (try clear hb); (try clear hk); obtain ⟨hcz21, hfz21⟩ := d3 BK362))
            go_meet
            case rel => exact ⟨_, (true), (by first | rfl | (simp; done) | (simp [*]; done)), H', ⟨by have := HK1.out; have := HJ5.out; first | omega | exact Nat.le_refl _⟩, ⟨by (with_reducible repeat (first | apply Kd.S_alloc | apply Kd.S_drewN | apply Kd.S_drew)); exact Kd.S_mono HO_6.out (fun _ hk => hk.2)⟩, ⟨bK BK362.out⟩, ⟨bH HB.out⟩⟩
           ·rw [if_neg c18] at H; have c18b0 : decide (((rd_T25 l1 x7_1).f0) < 1) = false := decide_eq_false c18; clear c18
            (first | rw [c18b0] | (simp only [i64_w, i32_w]; rw [c18b0]) | skip)
            by_cases c22 : ((rd_T25 l1 x7_1).f0) > 12
            ·rw [if_pos c22] at H; have c22b0 : decide (12 < ((rd_T25 l1 x7_1).f0)) = true := decide_eq_true c22; clear c22; have H' := Aside0.mk H; clear H; obtain ⟨hcz23, hfz23⟩ := d3 BK362
             go_wp2_with (first | ((with_reducible refine gate_callee (f := 8) rfl ?_); refine goesL_ (some 33) rfl rfl Tryd.func8 (by kernel_rfl) rfl #[.agg #[.int .i64 ((rd_T25 l1 x7_1).f0), .slice A361_1 ((rd_T25 l1 x7_1).f1).length c361_1, .int .u64 ((rd_T25 l1 x7_1).f2)]] rfl (by (try simp only [List.map_toArray, List.map_cons, List.map_nil]); first | done | rfl | (simp only [List.length_drop, List.length_take]; rfl)) ?_; (with_reducible refine (tallboylaw18_Great.calls kj5 ((rd_T25 l1 x7_1).f0) _ _ ((rd_T25 l1 x7_1).f1) ((rd_T25 l1 x7_1).f2) false _ ?side1 ?side2 A14.out).mono ?_); (case side1 => exact Kd.C_below HR361_1.out (bH HB.out)); (case side2 => exact HC361_1.out); rintro e w24 ⟨rfl, hb⟩; refine ⟨_, rfl, ?_⟩; replace HO_6 := Aside0.mk (Kd.S_below (by (with_reducible repeat (first | apply Kd.S_alloc | apply Kd.S_drewN | apply Kd.S_drew)); exact (Kd.S_mono (Kd.S_far (p := ⟨gb362, 2, none⟩) (Kd.S_far (p := ⟨gb362, 1, none⟩) (Kd.S_far (p := ⟨gb362, 0, none⟩) (Kd.S_mono HO_6.out (fun k_ hk => (⟨hk, hk.2⟩ : _ ∧ k_ ≠ gb362))) (fun _ hk => hk.2) (.int .i64 ((rd_T25 l1 x7_1).f0))) (fun _ hk => hk.2) (.slice A361_1 ((rd_T25 l1 x7_1).f1).length c361_1)) (fun _ hk => hk.2) (.int .u64 ((rd_T25 l1 x7_1).f2))) (fun _ h_ => h_.1))) hb); replace BK362 := Aside0.mk (blk_below (g := gb362) (o := .cells #[.int .i64 ((rd_T25 l1 x7_1).f0), .slice A361_1 ((rd_T25 l1 x7_1).f1).length c361_1, .int .u64 ((rd_T25 l1 x7_1).f2)] 25 (0, 0)) (bV BK362.out) hb); replace HB := rS HB hb; (try clear hb); (try clear hk); obtain ⟨hcz25, hfz25⟩ := d3 BK362))
             go_meet
             case rel => exact ⟨_, (true), (by first | rfl | (simp; done) | (simp [*]; done)), H', ⟨by have := HK1.out; have := HJ5.out; first | omega | exact Nat.le_refl _⟩, ⟨by (with_reducible repeat (first | apply Kd.S_alloc | apply Kd.S_drewN | apply Kd.S_drew)); exact Kd.S_mono HO_6.out (fun _ hk => hk.2)⟩, ⟨bK BK362.out⟩, ⟨bH HB.out⟩⟩
            ·rw [if_neg c22] at H; have c22b0 : decide (12 < ((rd_T25 l1 x7_1).f0)) = false := decide_eq_false c22; clear c22; have H' := Aside0.mk H; clear H; obtain ⟨hcz26, hfz26⟩ := d3 BK362
             go_wp2_with (first | ((with_reducible refine gate_callee (f := 8) rfl ?_); refine goesL_ (some 33) rfl rfl Tryd.func8 (by kernel_rfl) rfl #[.agg #[.int .i64 ((rd_T25 l1 x7_1).f0), .slice A361_1 ((rd_T25 l1 x7_1).f1).length c361_1, .int .u64 ((rd_T25 l1 x7_1).f2)]] rfl (by (try simp only [List.map_toArray, List.map_cons, List.map_nil]); first | done | rfl | (simp only [List.length_drop, List.length_take]; rfl)) ?_; (with_reducible refine (tallboylaw18_Great.calls kj5 ((rd_T25 l1 x7_1).f0) _ _ ((rd_T25 l1 x7_1).f1) ((rd_T25 l1 x7_1).f2) false _ ?side1 ?side2 A14.out).mono ?_); (case side1 => exact Kd.C_below HR361_1.out (bH HB.out)); (case side2 => exact HC361_1.out); rintro e w27 ⟨rfl, hb⟩; refine ⟨_, rfl, ?_⟩; replace HO_6 := Aside0.mk (Kd.S_below (by (with_reducible repeat (first | apply Kd.S_alloc | apply Kd.S_drewN | apply Kd.S_drew)); exact (Kd.S_mono (Kd.S_far (p := ⟨gb362, 2, none⟩) (Kd.S_far (p := ⟨gb362, 1, none⟩) (Kd.S_far (p := ⟨gb362, 0, none⟩) (Kd.S_mono HO_6.out (fun k_ hk => (⟨hk, hk.2⟩ : _ ∧ k_ ≠ gb362))) (fun _ hk => hk.2) (.int .i64 ((rd_T25 l1 x7_1).f0))) (fun _ hk => hk.2) (.slice A361_1 ((rd_T25 l1 x7_1).f1).length c361_1)) (fun _ hk => hk.2) (.int .u64 ((rd_T25 l1 x7_1).f2))) (fun _ h_ => h_.1))) hb); replace BK362 := Aside0.mk (blk_below (g := gb362) (o := .cells #[.int .i64 ((rd_T25 l1 x7_1).f0), .slice A361_1 ((rd_T25 l1 x7_1).f1).length c361_1, .int .u64 ((rd_T25 l1 x7_1).f2)] 25 (0, 0)) (bV BK362.out) hb); replace HB := rS HB hb; (try clear hb); (try clear hk); obtain ⟨hcz28, hfz28⟩ := d3 BK362))
             go_meet
             case rel => exact ⟨_, (decide ((((rd_T25 l1 x7_1).f1).length : Int) > 100)), (by first | rfl | (simp; done) | (simp [*]; done)), H', ⟨by have := HK1.out; have := HJ5.out; first | omega | exact Nat.le_refl _⟩, ⟨by (with_reducible repeat (first | apply Kd.S_alloc | apply Kd.S_drewN | apply Kd.S_drew)); exact Kd.S_mono HO_6.out (fun _ hk => hk.2)⟩, ⟨bK BK362.out⟩, ⟨bH HB.out⟩⟩
         case rest =>
          clear HC11; (try clear c1); (try clear c4); (try clear c7b0); (try clear c8); (try clear c9); (try clear c9b0); (try clear c10); (try clear c10b0); (try clear c15); (try clear c18b0); (try clear c22b0); (try clear hcz13); (try clear hcz16); (try clear hcz19); (try clear hcz21); (try clear hcz23); (try clear hcz25); (try clear hcz26); (try clear hcz28); (try clear hfz13); (try clear hfz16); (try clear hfz19); (try clear hfz21); (try clear hfz23); (try clear hfz25); (try clear hfz26); (try clear hfz28); (try clear hx361_0); (try clear hx361_1); (try clear hx361_2); (try clear p361); (try clear q361); obtain ⟨kq, x49_10, rfl, HA, HJ10, HO_6, BK362, HB⟩ := hcut; cases kq with
          | zero => exact absurd HA.out (by simp [tallboylaw18_ReplyRow.j2])
          | succ kj10 =>
           have H := HA.out; clear HA; simp only [tallboylaw18_ReplyRow.j2] at H
           by_cases c29 : x49_10 = true
           ·subst c29; rw [if_pos rfl] at H; obtain rfl := Option.some.inj H; go_wp2; go_ret
            exact ⟨xR, bH HB.out⟩
           ·replace c29 := Bool.eq_false_iff.mpr c29; subst c29; rw [if_neg (show ¬ (false = true) by decide)] at H; have HC30 := Aside0.mk H; clear H; obtain ⟨hcz31, hfz31⟩ := d3 BK362
            go_upto_if 52 with (fail)
            go_cut [] (fun wc => ∃ (kq : Nat) (z0 : Int), Aside0 (tallboylaw18_ReplyRow.j3 kq a0 l1 x5_1 x6_1 x7_1 ((rd_T25 l1 x7_1).f0) ((rd_T25 l1 x7_1).f1) z0 = some r) ∧ Aside0 (kq ≤ kj10) ∧ Aside0 (Kd.S k25 25 wc w.heap.size (fun k_ => k_ ≠ gb362) u6 x6_1) ∧ Aside0 (wc.heap[gb362]? = some (.cells #[.int .i64 ((rd_T25 l1 x7_1).f0), (.slice A361_1 ((rd_T25 l1 x7_1).f1).length c361_1), .int .u64 z0] 25 (0, 0))) ∧ Aside0 (Below w.heap.size w wc))
            case first =>
             have H := HC30.out; clear HC30
             by_cases c32 : ((rd_T25 l1 x7_1).f0) = 7
             ·rw [if_pos c32] at H; have c32b0 : (((rd_T25 l1 x7_1).f0) == 7) = true := beq_iff_eq.mpr c32; have c32b1 : (((rd_T25 l1 x7_1).f0) != 7) = false := bne_eq_false_iff_eq.mpr c32; clear c32
              (first | rw [c32b0] | (simp only [i64_w, i32_w]; rw [c32b0]) | skip)
              have H' := Aside0.mk H; clear H; go_wp2
              go_meet
              case rel => exact ⟨_, (((rd_T25 l1 x7_1).f2)), H', ⟨by have := HK1.out; have := HJ5.out; have := HJ10.out; first | omega | exact Nat.le_refl _⟩, ⟨by (with_reducible repeat (first | apply Kd.S_alloc | apply Kd.S_drewN | apply Kd.S_drew)); exact HO_6.out⟩, ⟨bK BK362.out⟩, ⟨bH HB.out⟩⟩
             ·rw [if_neg c32] at H; have c32b0 : (((rd_T25 l1 x7_1).f0) == 7) = false := beq_eq_false_iff_ne.mpr c32; have c32b1 : (((rd_T25 l1 x7_1).f0) != 7) = true := bne_iff_ne.mpr c32
              (first | rw [c32b0] | (simp only [i64_w, i32_w]; rw [c32b0]) | skip)
              have H' := Aside0.mk H; clear H; obtain ⟨hcz33, hfz33⟩ := d3 BK362; go_wp2
              go_meet
              case rel => exact ⟨_, (0), H', ⟨by have := HK1.out; have := HJ5.out; have := HJ10.out; first | omega | exact Nat.le_refl _⟩, ⟨by (with_reducible repeat (first | apply Kd.S_alloc | apply Kd.S_drewN | apply Kd.S_drew)); exact Kd.S_mono (Kd.S_far (p := ⟨gb362, 2, none⟩) (Kd.S_mono HO_6.out (fun k_ hk => (⟨hk, hk⟩ : _ ∧ k_ ≠ gb362))) (fun _ hk => hk.2) (.int .u64 0)) (fun _ hk => hk.1)⟩, ⟨bV BK362.out⟩, ⟨bH HB.out⟩⟩
            case rest =>
             clear HC30; (try clear c1); (try clear c4); (try clear c7b0); (try clear c8); (try clear c9); (try clear c9b0); (try clear c10); (try clear c10b0); (try clear c15); (try clear c18b0); (try clear c22b0); (try clear c29); (try clear c32); (try clear c32b0); (try clear c32b1); (try clear hcz13); (try clear hcz16); (try clear hcz19); (try clear hcz21); (try clear hcz23); (try clear hcz25); (try clear hcz26); (try clear hcz28); (try clear hcz31); (try clear hcz33); (try clear hfz13); (try clear hfz16); (try clear hfz19); (try clear hfz21); (try clear hfz23); (try clear hfz25); (try clear hfz26); (try clear hfz28); (try clear hfz31); (try clear hfz33); (try clear hx361_0); (try clear hx361_1); (try clear hx361_2); (try clear p361); (try clear q361); obtain ⟨kq, z0, HA, HJ29, HO_6, BK362, HB⟩ := hcut; cases kq with
             | zero => exact absurd HA.out (by simp [tallboylaw18_ReplyRow.j3])
             | succ kj29 =>
              have H := HA.out; clear HA; simp only [tallboylaw18_ReplyRow.j3] at H; have H' := Aside0.mk H; clear H; go_wp2
              go_loopg [9, 10] kj29 (fun kq v9 v10 w' => ∃ (x9_5 : List (S47)) (x10_5 : Int), v10 = .int .i64 x10_5 ∧ Aside0 (tallboylaw18_ReplyRow.l1 kq a0 l1 x5_1 x6_1 x7_1 x9_5 x10_5 ((rd_T25 l1 x7_1).f0) ((rd_T25 l1 x7_1).f1) z0 = some r) ∧ Aside0 (kq ≤ kj29) ∧ Aside0 (Kd.S k25 25 w' w.heap.size (fun k_ => some k_ ≠ (v9 : Value).ownBlock ∧ k_ ≠ gb362) u6 x6_1) ∧ Aside0 (Kd.R k47 47 w' w.heap.size (fun _ => True) v9 x9_5) ∧ Aside0 (w'.heap[gb362]? = some (.cells #[.int .i64 ((rd_T25 l1 x7_1).f0), (.slice A361_1 ((rd_T25 l1 x7_1).f1).length c361_1), .int .u64 z0] 25 (0, 0))) ∧ Aside0 (Below w.heap.size w w'))
              case atStart => exact ⟨(([] : List (S47))), (0), (by first | rfl | (simp; done) | (simp [*]; done)), H', ⟨Nat.le_refl _⟩, ⟨by (with_reducible repeat (first | apply Kd.S_alloc | apply Kd.S_drewN | apply Kd.S_drew)); exact Kd.S_mono HO_6.out (fun _ hk => ⟨(by simp [Value.ownBlock]), hk⟩)⟩, ⟨xN⟩, ⟨bK BK362.out⟩, ⟨bH HB.out⟩⟩
              case round =>
               clear H'; (try clear c1); (try clear c4); (try clear c7b0); (try clear c8); (try clear c9); (try clear c9b0); (try clear c10); (try clear c10b0); (try clear c15); (try clear c18b0); (try clear c22b0); (try clear c29); (try clear c32); (try clear c32b0); (try clear c32b1); (try clear hcz13); (try clear hcz16); (try clear hcz19); (try clear hcz21); (try clear hcz23); (try clear hcz25); (try clear hcz26); (try clear hcz28); (try clear hcz31); (try clear hcz33); (try clear hfz13); (try clear hfz16); (try clear hfz19); (try clear hfz21); (try clear hfz23); (try clear hfz25); (try clear hfz26); (try clear hfz28); (try clear hfz31); (try clear hfz33); (try clear hx361_0); (try clear hx361_1); (try clear hx361_2); (try clear p361); (try clear q361); obtain ⟨x9_5, x10_5, rfl, HA, HK5, HO_6, HO_9, BK362, HB⟩ := hrel; cases gk with
               | zero => exact absurd HA.out (by simp [tallboylaw18_ReplyRow.l1])
               | succ k5 =>
                have H := HA.out; clear HA; simp only [tallboylaw18_ReplyRow.l1] at H; have HC34 := Aside0.mk H; clear H
                go_upto_region 15 with (fail)
                go_cut [63] (fun v63 wc => ∃ (kq : Nat) (x63_33 : Bool), v63 = .bool x63_33 ∧ Aside0 (tallboylaw18_ReplyRow.j5 kq a0 l1 x5_1 x6_1 x7_1 x9_5 x10_5 x63_33 ((rd_T25 l1 x7_1).f0) ((rd_T25 l1 x7_1).f1) z0 = some r) ∧ Aside0 (kq ≤ k5) ∧ Aside0 (Kd.S k25 25 wc w.heap.size (fun k_ => some k_ ≠ (u9 : Value).ownBlock ∧ k_ ≠ gb362) u6 x6_1) ∧ Aside0 (Kd.R k47 47 wc w.heap.size (fun _ => True) u9 x9_5) ∧ Aside0 (wc.heap[gb362]? = some (.cells #[.int .i64 ((rd_T25 l1 x7_1).f0), (.slice A361_1 ((rd_T25 l1 x7_1).f1).length c361_1), .int .u64 z0] 25 (0, 0))) ∧ Aside0 (Below w.heap.size w wc))
                case first =>
                 have H := HC34.out; clear HC34
                 by_cases c35 : x10_5 < (((rd_T25 l1 x7_1).f1).length : Int)
                 ·rw [if_pos c35] at H; have c35b0 : decide (x10_5 < (((rd_T25 l1 x7_1).f1).length : Int)) = true := decide_eq_true c35; clear c35
                  (first | rw [c35b0] | (simp only [i64_w, i32_w]; rw [c35b0]) | skip)
                  have H' := Aside0.mk H; clear H; obtain ⟨hcz36, hfz36⟩ := d3 BK362; go_wp2
                  go_meet
                  case rel => exact ⟨_, ((((rd_T25 l1 x7_1).f0) == 1)), (by first | rfl | (simp; done) | (simp [*]; done)), H', ⟨by have := HK1.out; have := HJ5.out; have := HJ10.out; have := HJ29.out; have := HK5.out; first | omega | exact Nat.le_refl _⟩, ⟨by (with_reducible repeat (first | apply Kd.S_alloc | apply Kd.S_drewN | apply Kd.S_drew)); exact HO_6.out⟩, ⟨by (with_reducible repeat (first | apply Kd.R_alloc | apply Kd.R_drewN | apply Kd.R_drew)); exact HO_9.out⟩, ⟨bK BK362.out⟩, ⟨bH HB.out⟩⟩
                 ·rw [if_neg c35] at H; have c35b0 : decide (x10_5 < (((rd_T25 l1 x7_1).f1).length : Int)) = false := decide_eq_false c35; clear c35
                  (first | rw [c35b0] | (simp only [i64_w, i32_w]; rw [c35b0]) | skip)
                  have H' := Aside0.mk H; clear H; obtain ⟨hcz37, hfz37⟩ := d3 BK362; go_wp2
                  go_meet
                  case rel => exact ⟨_, (false), (by first | rfl | (simp; done) | (simp [*]; done)), H', ⟨by have := HK1.out; have := HJ5.out; have := HJ10.out; have := HJ29.out; have := HK5.out; first | omega | exact Nat.le_refl _⟩, ⟨by (with_reducible repeat (first | apply Kd.S_alloc | apply Kd.S_drewN | apply Kd.S_drew)); exact HO_6.out⟩, ⟨by (with_reducible repeat (first | apply Kd.R_alloc | apply Kd.R_drewN | apply Kd.R_drew)); exact HO_9.out⟩, ⟨bK BK362.out⟩, ⟨bH HB.out⟩⟩
                case rest =>
                 clear HC34; (try clear c1); (try clear c4); (try clear c7b0); (try clear c8); (try clear c9); (try clear c9b0); (try clear c10); (try clear c10b0); (try clear c15); (try clear c18b0); (try clear c22b0); (try clear c29); (try clear c32); (try clear c32b0); (try clear c32b1); (try clear c35b0); (try clear hcz13); (try clear hcz16); (try clear hcz19); (try clear hcz21); (try clear hcz23); (try clear hcz25); (try clear hcz26); (try clear hcz28); (try clear hcz31); (try clear hcz33); (try clear hcz36); (try clear hcz37); (try clear hfz13); (try clear hfz16); (try clear hfz19); (try clear hfz21); (try clear hfz23); (try clear hfz25); (try clear hfz26); (try clear hfz28); (try clear hfz31); (try clear hfz33); (try clear hfz36); (try clear hfz37); (try clear hx361_0); (try clear hx361_1); (try clear hx361_2); (try clear p361); (try clear q361); obtain ⟨kq, x63_33, rfl, HA, HJ33, HO_6, HO_9, BK362, HB⟩ := hcut; cases kq with
                 | zero => exact absurd HA.out (by simp [tallboylaw18_ReplyRow.j5])
                 | succ kj33 =>
                  have H := HA.out; clear HA; simp only [tallboylaw18_ReplyRow.j5] at H
                  by_cases c38 : x63_33 = true
                  ·subst c38; rw [if_pos rfl] at H
                   by_cases c39 : 0 ≤ x10_5
                   ·rw [if_pos c39] at H; have c39b0 : decide (0 ≤ x10_5) = true := decide_eq_true c39; clear c39
                    by_cases c40 : x10_5 < (((rd_T25 l1 x7_1).f1).length : Int)
                    ·rw [if_pos c40] at H; have c40b0 : decide (x10_5 < (((rd_T25 l1 x7_1).f1).length : Int)) = true := decide_eq_true c40; clear c40; have HC41 := Aside0.mk H; clear H; obtain ⟨hcz42, hfz42⟩ := d3 BK362; have p364 : 0 ≤ (x10_5 : Int) := of_decide_eq_true (by first | (with_reducible assumption) | assumption); have q364 : x10_5 < (((rd_T25 l1 x7_1).f1).length : Int) := of_decide_eq_true (by first | (with_reducible assumption) | assumption)
                     obtain ⟨ad364, e364, hx364_0, hx364_1, hx364_2, hx364_3⟩ := at_T47 HR361_1.out x10_5 p364 q364; cases e364; replace hx364_0 := (HB.out.cell (World.block_lt_of_cell? w _ hx364_0)).trans hx364_0; replace hx364_1 := (HB.out.cell (World.block_lt_of_cell? w _ hx364_1)).trans hx364_1; replace hx364_2 := (HB.out.cell (World.block_lt_of_cell? w _ hx364_2)).trans hx364_2; replace hx364_3 := (HB.out.cell (World.block_lt_of_cell? w _ hx364_3)).trans hx364_3; replace p364 := eq_true p364; replace q364 := eq_true q364
                     go_upto_region 18 with (first | ((with_reducible refine gate_dst (N := 11) rfl ?_); (try (refine gate_guard (by rfl) ?_; dsimp only)); refine bE 11 #[.string (⟨#[]⟩ : ByteArray), .int .u32 0, .string (⟨#[]⟩ : ByteArray), .int .u64 0] 47 rfl rfl ?_; intro gb365 hg w43 hbox hb; replace HO_6 := Aside0.mk (Kd.S_below (Kd.S_elderB (by (with_reducible repeat (first | apply Kd.S_alloc | apply Kd.S_drewN | apply Kd.S_drew)); exact HO_6.out) gb365 (Nat.le_of_eq hg.symm)) hb); replace HO_9 := Aside0.mk (Kd.R_below (Kd.R_elderB (by (with_reducible repeat (first | apply Kd.R_alloc | apply Kd.R_drewN | apply Kd.R_drew)); exact HO_9.out) gb365 (Nat.le_of_eq hg.symm)) hb); have BK365 := rM hbox; have GW365 := rG HB hg; replace HB := rS HB hb; have GE365 := GW365; have NB362_365 := rN BK362 hg; replace BK362 := rB BK362 hb; have NB365_362 := rY NB362_365; clear hb hbox hg; have hnb44 := rP NB365_362 NB362_365; obtain ⟨hcz45, hfz45⟩ := d4 BK365))
                     (try simp only [Act.put, sA, sB, sC])
                     go_cut [80] (fun v80 wc => ∃ (kq : Nat) (x80_40 : Bool), v80 = .bool x80_40 ∧ Aside0 (tallboylaw18_ReplyRow.j6 kq a0 l1 x5_1 x6_1 x7_1 x9_5 x10_5 x80_40 ((rd_T25 l1 x7_1).f0) ((rd_T25 l1 x7_1).f1) z0 ((rd_T47 ((rd_T25 l1 x7_1).f1) x10_5).f0) ((rd_T47 ((rd_T25 l1 x7_1).f1) x10_5).f1) ((rd_T47 ((rd_T25 l1 x7_1).f1) x10_5).f2) ((rd_T47 ((rd_T25 l1 x7_1).f1) x10_5).f3) = some r) ∧ Aside0 (kq ≤ kj33) ∧ Aside0 (Kd.S k25 25 wc w.heap.size (fun k_ => some k_ ≠ (u9 : Value).ownBlock ∧ k_ ≠ gb362 ∧ k_ ≠ gb365) u6 x6_1) ∧ Aside0 (Kd.R k47 47 wc w.heap.size (fun k_ => k_ ≠ gb365) u9 x9_5) ∧ Aside0 (wc.heap[gb362]? = some (.cells #[.int .i64 ((rd_T25 l1 x7_1).f0), (.slice (some ad364) ((rd_T25 l1 x7_1).f1).length c361_1), .int .u64 z0] 25 (0, 0))) ∧ Aside0 (wc.heap[gb365]? = some (.cells #[.string ((rd_T47 ((rd_T25 l1 x7_1).f1) x10_5).f0), .int .u32 ((rd_T47 ((rd_T25 l1 x7_1).f1) x10_5).f1), .string ((rd_T47 ((rd_T25 l1 x7_1).f1) x10_5).f2), .int .u64 ((rd_T47 ((rd_T25 l1 x7_1).f1) x10_5).f3)] 47 (0, 0))) ∧ Aside0 (Below w.heap.size w wc))
                     case first =>
                      have H := HC41.out; clear HC41; replace H := Option.bind_eq_some_iff.mp H; obtain ⟨t366, A460, H⟩ := H; (try dsimp only at H); have A46 := Aside0.mk A460; clear A460
                      by_cases c47 : t366 = true
                      ·subst c47; rw [if_pos rfl] at H; have H' := Aside0.mk H; clear H; have hnb48 := rP NB365_362 NB362_365; obtain ⟨hcz49, hfz49⟩ := d4 BK365
                       go_wp2_with (first | ((with_reducible refine gate_callee (f := 19) rfl ?_); refine goesL_ (some 73) rfl rfl Tryd.func19 (by kernel_rfl) rfl #[.string ((rd_T47 ((rd_T25 l1 x7_1).f1) x10_5).f0)] rfl (by (try simp only [List.map_toArray, List.map_cons, List.map_nil]); first | done | rfl | (simp only [List.length_drop, List.length_take]; rfl)) ?_; (with_reducible refine (tallboyref04_Key.calls kj33 ((rd_T47 ((rd_T25 l1 x7_1).f1) x10_5).f0) true _ A46.out).mono ?_); rintro e w' ⟨rfl, ⟨nd, rfl⟩⟩; refine ⟨_, rfl, ?_⟩))
                       go_meet
                       case rel => exact ⟨_, (decide ((((rd_T47 ((rd_T25 l1 x7_1).f1) x10_5).f2).size : Int) > 2000)), (by first | rfl | (simp; done) | (simp [*]; done)), H', ⟨by have := HK1.out; have := HJ5.out; have := HJ10.out; have := HJ29.out; have := HK5.out; have := HJ33.out; first | omega | exact Nat.le_refl _⟩, ⟨by (with_reducible repeat (first | apply Kd.S_alloc | apply Kd.S_drewN | apply Kd.S_drew)); exact Kd.S_mono (Kd.S_far (p := ⟨gb365, 3, none⟩) (Kd.S_far (p := ⟨gb365, 2, none⟩) (Kd.S_far (p := ⟨gb365, 1, none⟩) (Kd.S_far (p := ⟨gb365, 0, none⟩) (Kd.S_mono HO_6.out (fun k_ hk => (⟨hk, hk.2⟩ : _ ∧ k_ ≠ gb365))) (fun _ hk => hk.2) (.string ((rd_T47 ((rd_T25 l1 x7_1).f1) x10_5).f0))) (fun _ hk => hk.2) (.int .u32 ((rd_T47 ((rd_T25 l1 x7_1).f1) x10_5).f1))) (fun _ hk => hk.2) (.string ((rd_T47 ((rd_T25 l1 x7_1).f1) x10_5).f2))) (fun _ hk => hk.2) (.int .u64 ((rd_T47 ((rd_T25 l1 x7_1).f1) x10_5).f3))) (fun _ hk => ⟨hk.1.1.1, ⟨hk.1.1.2, hk.1.2⟩⟩)⟩, ⟨by (with_reducible repeat (first | apply Kd.R_alloc | apply Kd.R_drewN | apply Kd.R_drew)); exact Kd.R_mono (Kd.R_far (p := ⟨gb365, 3, none⟩) (Kd.R_far (p := ⟨gb365, 2, none⟩) (Kd.R_far (p := ⟨gb365, 1, none⟩) (Kd.R_far (p := ⟨gb365, 0, none⟩) (Kd.R_mono HO_9.out (fun k_ hk => (⟨hk, hk.2⟩ : _ ∧ k_ ≠ gb365))) (fun _ hk => hk.2) (.string ((rd_T47 ((rd_T25 l1 x7_1).f1) x10_5).f0))) (fun _ hk => hk.2) (.int .u32 ((rd_T47 ((rd_T25 l1 x7_1).f1) x10_5).f1))) (fun _ hk => hk.2) (.string ((rd_T47 ((rd_T25 l1 x7_1).f1) x10_5).f2))) (fun _ hk => hk.2) (.int .u64 ((rd_T47 ((rd_T25 l1 x7_1).f1) x10_5).f3))) (fun _ hk => hk.1.2)⟩, ⟨bK BK362.out⟩, ⟨bV BK365.out⟩, ⟨bH HB.out⟩⟩
                      ·replace c47 := Bool.eq_false_iff.mpr c47; subst c47; rw [if_neg (show ¬ (false = true) by decide)] at H; have H' := Aside0.mk H; clear H; have hnb50 := rP NB365_362 NB362_365; obtain ⟨hcz51, hfz51⟩ := d4 BK365
                       go_wp2_with (first | ((with_reducible refine gate_callee (f := 19) rfl ?_); refine goesL_ (some 73) rfl rfl Tryd.func19 (by kernel_rfl) rfl #[.string ((rd_T47 ((rd_T25 l1 x7_1).f1) x10_5).f0)] rfl (by (try simp only [List.map_toArray, List.map_cons, List.map_nil]); first | done | rfl | (simp only [List.length_drop, List.length_take]; rfl)) ?_; (with_reducible refine (tallboyref04_Key.calls kj33 ((rd_T47 ((rd_T25 l1 x7_1).f1) x10_5).f0) false _ A46.out).mono ?_); rintro e w' ⟨rfl, ⟨nd, rfl⟩⟩; refine ⟨_, rfl, ?_⟩))
                       go_meet
                       case rel => exact ⟨_, (true), (by first | rfl | (simp; done) | (simp [*]; done)), H', ⟨by have := HK1.out; have := HJ5.out; have := HJ10.out; have := HJ29.out; have := HK5.out; have := HJ33.out; first | omega | exact Nat.le_refl _⟩, ⟨by (with_reducible repeat (first | apply Kd.S_alloc | apply Kd.S_drewN | apply Kd.S_drew)); exact Kd.S_mono (Kd.S_far (p := ⟨gb365, 3, none⟩) (Kd.S_far (p := ⟨gb365, 2, none⟩) (Kd.S_far (p := ⟨gb365, 1, none⟩) (Kd.S_far (p := ⟨gb365, 0, none⟩) (Kd.S_mono HO_6.out (fun k_ hk => (⟨hk, hk.2⟩ : _ ∧ k_ ≠ gb365))) (fun _ hk => hk.2) (.string ((rd_T47 ((rd_T25 l1 x7_1).f1) x10_5).f0))) (fun _ hk => hk.2) (.int .u32 ((rd_T47 ((rd_T25 l1 x7_1).f1) x10_5).f1))) (fun _ hk => hk.2) (.string ((rd_T47 ((rd_T25 l1 x7_1).f1) x10_5).f2))) (fun _ hk => hk.2) (.int .u64 ((rd_T47 ((rd_T25 l1 x7_1).f1) x10_5).f3))) (fun _ hk => ⟨hk.1.1.1, ⟨hk.1.1.2, hk.1.2⟩⟩)⟩, ⟨by (with_reducible repeat (first | apply Kd.R_alloc | apply Kd.R_drewN | apply Kd.R_drew)); exact Kd.R_mono (Kd.R_far (p := ⟨gb365, 3, none⟩) (Kd.R_far (p := ⟨gb365, 2, none⟩) (Kd.R_far (p := ⟨gb365, 1, none⟩) (Kd.R_far (p := ⟨gb365, 0, none⟩) (Kd.R_mono HO_9.out (fun k_ hk => (⟨hk, hk.2⟩ : _ ∧ k_ ≠ gb365))) (fun _ hk => hk.2) (.string ((rd_T47 ((rd_T25 l1 x7_1).f1) x10_5).f0))) (fun _ hk => hk.2) (.int .u32 ((rd_T47 ((rd_T25 l1 x7_1).f1) x10_5).f1))) (fun _ hk => hk.2) (.string ((rd_T47 ((rd_T25 l1 x7_1).f1) x10_5).f2))) (fun _ hk => hk.2) (.int .u64 ((rd_T47 ((rd_T25 l1 x7_1).f1) x10_5).f3))) (fun _ hk => hk.1.2)⟩, ⟨bK BK362.out⟩, ⟨bV BK365.out⟩, ⟨bH HB.out⟩⟩
                     case rest =>
                      clear HC41; (try clear c1); (try clear c4); (try clear c7b0); (try clear c8); (try clear c9); (try clear c9b0); (try clear c10); (try clear c10b0); (try clear c15); (try clear c18b0); (try clear c22b0); (try clear c29); (try clear c32); (try clear c32b0); (try clear c32b1); (try clear c35b0); (try clear c38); (try clear c39); (try clear c39b0); (try clear c40); (try clear c40b0); (try clear c47); (try clear hcz13); (try clear hcz16); (try clear hcz19); (try clear hcz21); (try clear hcz23); (try clear hcz25); (try clear hcz26); (try clear hcz28); (try clear hcz31); (try clear hcz33); (try clear hcz36); (try clear hcz37); (try clear hcz42); (try clear hcz45); (try clear hcz49); (try clear hcz51); (try clear hfz13); (try clear hfz16); (try clear hfz19); (try clear hfz21); (try clear hfz23); (try clear hfz25); (try clear hfz26); (try clear hfz28); (try clear hfz31); (try clear hfz33); (try clear hfz36); (try clear hfz37); (try clear hfz42); (try clear hfz45); (try clear hfz49); (try clear hfz51); (try clear hx361_0); (try clear hx361_1); (try clear hx361_2); (try clear hx364_0); (try clear hx364_1)
                      (try clear hx364_2); (try clear hx364_3); (try clear p361); (try clear p364); (try clear q361); (try clear q364); obtain ⟨kq, x80_40, rfl, HA, HJ40, HO_6, HO_9, BK362, BK365, HB⟩ := hcut; cases kq with
                      | zero => exact absurd HA.out (by simp [tallboylaw18_ReplyRow.j6])
                      | succ kj40 =>
                       have H := HA.out; clear HA; simp only [tallboylaw18_ReplyRow.j6] at H
                       by_cases c52 : x80_40 = true
                       ·subst c52; rw [if_pos rfl] at H; obtain rfl := Option.some.inj H; go_wp2; go_ret
                        exact ⟨xR, bH HB.out⟩
                       ·replace c52 := Bool.eq_false_iff.mpr c52; subst c52; rw [if_neg (show ¬ (false = true) by decide)] at H; replace H := Option.bind_eq_some_iff.mp H; obtain ⟨t367, A530, H⟩ := H; (try dsimp only at H); have A53 := Aside0.mk A530; clear A530
                        by_cases c54 : t367 = true
                        ·subst c54; rw [if_pos rfl] at H
                         by_cases c55 : x9_5.length < 2932031007402
                         ·rw [if_pos c55] at H; have LMc55 := Aside0.mk c55; clear c55; obtain ⟨y368, hy368⟩ : ∃ y_ : List (S47), y_ = (x9_5 ++ [(⟨((rd_T47 ((rd_T25 l1 x7_1).f1) x10_5).f0), ((rd_T47 ((rd_T25 l1 x7_1).f1) x10_5).f1), ((rd_T47 ((rd_T25 l1 x7_1).f1) x10_5).f2), ((rd_T47 ((rd_T25 l1 x7_1).f1) x10_5).f3)⟩ : S47)]) := ⟨_, rfl⟩; replace H : (tallboylaw18_ReplyRow.l1 kj40 a0 l1 x5_1 x6_1 x7_1 y368 (wrap64 (x10_5 + 1)) ((rd_T25 l1 x7_1).f0) ((rd_T25 l1 x7_1).f1) z0) = some r := by first | (rw [hy368]; with_reducible exact H) | (have H2_ := (Option.bind_some _ _).symm.trans H; rw [hy368]; with_reducible exact H2_) | (have H2_ := (Option.bind_some _ _).symm.trans H; with_reducible exact H2_) | with_reducible exact H | (rw [hy368]; exact H) | exact H
                          have Ny368 := Aside0.mk hy368; clear hy368; have H' := Aside0.mk H; clear H
                          go_wp2_with (first | ((with_reducible refine gate_callee (f := 20) rfl ?_); refine goesL_ (some 82) rfl rfl Tryd.func20 (by kernel_rfl) rfl #[.int .i64 a0] rfl (by (try simp only [List.map_toArray, List.map_cons, List.map_nil]); first | done | rfl | (simp only [List.length_drop, List.length_take]; rfl)) ?_; (with_reducible refine (verb_Shows.calls a0 true _ A53.out).mono ?_); rintro e w' ⟨rfl, ⟨nd, rfl⟩⟩; refine ⟨_, rfl, ?_⟩; have hnb56 := rP NB365_362 NB362_365; obtain ⟨hcz57, hfz57⟩ := d4 BK365) | ((with_reducible refine gate_builtin (b := .append) (xs := #[.tmp 85, .tmp 87]) rfl ?_); (try (refine gate_guard (by rfl) ?_; dsimp only)); at_builtin; refine Kd.R_append k47 (w0 := w) w.heap.size rfl (.tmp 85) (.tmp 87) 22 47 (.agg #[(.string ⟨#[]⟩), (.int .u32 0), (.string ⟨#[]⟩), (.int .u64 0)]) 48 rfl Tryd.underlying22 info47 rfl (by decide) (by omega) u9 x9_5 (⟨((rd_T47 ((rd_T25 l1 x7_1).f1) x10_5).f0), ((rd_T47 ((rd_T25 l1 x7_1).f1) x10_5).f1), ((rd_T47 ((rd_T25 l1 x7_1).f1) x10_5).f2), ((rd_T47 ((rd_T25 l1 x7_1).f1) x10_5).f3)⟩ : S47) [.string ((rd_T47 ((rd_T25 l1 x7_1).f1) x10_5).f0), .int .u32 ((rd_T47 ((rd_T25 l1 x7_1).f1) x10_5).f1), .string ((rd_T47 ((rd_T25 l1 x7_1).f1) x10_5).f2), .int .u64 ((rd_T47 ((rd_T25 l1 x7_1).f1) x10_5).f3)] (fun k_ => k_ ≠ gb365) (fun _ => False) rfl rfl ?aP (fun _ hk => hk.elim) ?aF ?aO ?aB ?aS ?aL ?_; (case aP => exact k47_mkM _ _ _ (⟨((rd_T47 ((rd_T25 l1 x7_1).f1) x10_5).f0), ((rd_T47 ((rd_T25 l1 x7_1).f1) x10_5).f1), ((rd_T47 ((rd_T25 l1 x7_1).f1) x10_5).f2), ((rd_T47 ((rd_T25 l1 x7_1).f1) x10_5).f3)⟩ : S47)); (case aB => exact (bH HB.out)); (case aF => exact (fun k_ hk => Kd.freshB (g := gb365) (o := .cells #[.string ((rd_T47 ((rd_T25 l1 x7_1).f1) x10_5).f0), .int .u32 ((rd_T47 ((rd_T25 l1 x7_1).f1) x10_5).f1), .string ((rd_T47 ((rd_T25 l1 x7_1).f1) x10_5).f2), .int .u64 ((rd_T47 ((rd_T25 l1 x7_1).f1) x10_5).f3)] 47 (0, 0)) (bK BK365.out) k_ hk)); (case aO => exact (by (with_reducible repeat (first | apply Kd.R_alloc | apply Kd.R_drewN | apply Kd.R_drew)); exact HO_9.out)); (case aS => exact (below_size (bH HB.out))); (case aL => have := LMc55.out; omega); intro v369 w58 ho hb hg hat; rw [← Ny368.out] at ho; replace HO_6 := Aside0.mk (Kd.S_after (ok := (fun k_ => k_ ≠ gb362 ∧ k_ ≠ gb365)) (by (with_reducible repeat (first | apply Kd.S_alloc | apply Kd.S_drewN | apply Kd.S_drew)); exact Kd.S_mono HO_6.out (fun _ hk => ⟨⟨hk.2.1, hk.2.2⟩, hk.1⟩)) hg hat); replace BK362 := Aside0.mk (blk_grown (g := gb362) (o := .cells #[.int .i64 ((rd_T25 l1 x7_1).f0), .slice (some ad364) ((rd_T25 l1 x7_1).f1).length c361_1, .int .u64 z0] 25 (0, 0)) (bK BK362.out) hg (Kd.R_ne HO_9.out BK362.out (by decide))); replace BK365 := Aside0.mk (blk_grown (g := gb365) (o := .cells #[.string ((rd_T47 ((rd_T25 l1 x7_1).f1) x10_5).f0), .int .u32 ((rd_T47 ((rd_T25 l1 x7_1).f1) x10_5).f1), .string ((rd_T47 ((rd_T25 l1 x7_1).f1) x10_5).f2), .int .u64 ((rd_T47 ((rd_T25 l1 x7_1).f1) x10_5).f3)] 47 (0, 0)) (bK BK365.out) hg (Kd.R_away HO_9.out (fun _ hk => hk))); replace HB := Aside0.mk (hb); have HO370 := Aside0.mk (ho); clear HO_9; clear ho hb hg hat))
                          go_roundg kj40
                          case measure => have := HK1.out; have := HJ5.out; have := HJ10.out; have := HJ29.out; have := HK5.out; have := HJ33.out; have := HJ40.out; omega
                          case rel => exact ⟨(y368), (wrap64 (x10_5 + 1)), (by first | rfl | (simp; done) | (simp [*]; done)), H', ⟨by have := HK1.out; have := HJ5.out; have := HJ10.out; have := HJ29.out; have := HK5.out; have := HJ33.out; have := HJ40.out; omega⟩, ⟨by (with_reducible repeat (first | apply Kd.S_alloc | apply Kd.S_drewN | apply Kd.S_drew)); exact Kd.S_mono HO_6.out (fun _ hk => ⟨hk.2, hk.1.1⟩)⟩, ⟨by (with_reducible repeat (first | apply Kd.R_alloc | apply Kd.R_drewN | apply Kd.R_drew)); exact Kd.R_mono HO370.out (fun _ hk => trivial)⟩, ⟨bK BK362.out⟩, ⟨bH HB.out⟩⟩
                         ·rw [if_neg c55] at H; exact absurd H (by simp)
                        ·replace c54 := Bool.eq_false_iff.mpr c54; subst c54; rw [if_neg (show ¬ (false = true) by decide)] at H
                         by_cases c59 : x9_5.length < 2932031007402
                         ·rw [if_pos c59] at H; have LMc59 := Aside0.mk c59; clear c59; obtain ⟨y371, hy371⟩ : ∃ y_ : List (S47), y_ = (x9_5 ++ [(⟨((rd_T47 ((rd_T25 l1 x7_1).f1) x10_5).f0), ((rd_T47 ((rd_T25 l1 x7_1).f1) x10_5).f1), ((rd_T47 ((rd_T25 l1 x7_1).f1) x10_5).f2), 0⟩ : S47)]) := ⟨_, rfl⟩; replace H : (tallboylaw18_ReplyRow.l1 kj40 a0 l1 x5_1 x6_1 x7_1 y371 (wrap64 (x10_5 + 1)) ((rd_T25 l1 x7_1).f0) ((rd_T25 l1 x7_1).f1) z0) = some r := by first | (rw [hy371]; with_reducible exact H) | (have H2_ := (Option.bind_some _ _).symm.trans H; rw [hy371]; with_reducible exact H2_) | (have H2_ := (Option.bind_some _ _).symm.trans H; with_reducible exact H2_) | with_reducible exact H | (rw [hy371]; exact H) | exact H
                          have Ny371 := Aside0.mk hy371; clear hy371; have H' := Aside0.mk H; clear H
                          go_wp2_with (first | ((with_reducible refine gate_callee (f := 20) rfl ?_); refine goesL_ (some 82) rfl rfl Tryd.func20 (by kernel_rfl) rfl #[.int .i64 a0] rfl (by (try simp only [List.map_toArray, List.map_cons, List.map_nil]); first | done | rfl | (simp only [List.length_drop, List.length_take]; rfl)) ?_; (with_reducible refine (verb_Shows.calls a0 false _ A53.out).mono ?_); rintro e w' ⟨rfl, ⟨nd, rfl⟩⟩; refine ⟨_, rfl, ?_⟩; (try simp only [World.drewN_drewN]); (try (rw [drewN_self wc]; generalize hq_ : World.drewN wc _ = wc; have n0_ : Aside0 (Kd.S k25 25 wc w.heap.size (fun k_ => some k_ ≠ (u9 : Value).ownBlock ∧ k_ ≠ gb362 ∧ k_ ≠ gb365) u6 x6_1) := ⟨by rw [← hq_]; exact (by (with_reducible repeat (first | apply Kd.S_alloc | apply Kd.S_drewN | apply Kd.S_drew)); exact HO_6.out)⟩; have n1_ : Aside0 (Kd.R k47 47 wc w.heap.size (fun k_ => k_ ≠ gb365) u9 x9_5) := ⟨by rw [← hq_]; exact (by (with_reducible repeat (first | apply Kd.R_alloc | apply Kd.R_drewN | apply Kd.R_drew)); exact HO_9.out)⟩; have n2_ := Aside0.mk (bQ BK362.out hq_); have n3_ := Aside0.mk (bQ BK365.out hq_); have n4_ := Aside0.mk (bF HB.out hq_); clear HO_6 HO_9 BK362 BK365 HB hq_; have HO_6 := n0_; have HO_9 := n1_; have BK362 := n2_; have BK365 := n3_; have HB := n4_; clear n0_ n1_ n2_ n3_ n4_)); have hnb60 := rP NB365_362 NB362_365; obtain ⟨hcz61, hfz61⟩ := d4 BK365) | ((with_reducible refine gate_builtin (b := .append) (xs := #[.tmp 85, .tmp 87]) rfl ?_); (try (refine gate_guard (by rfl) ?_; dsimp only)); at_builtin; refine Kd.R_append k47 (w0 := w) w.heap.size rfl (.tmp 85) (.tmp 87) 22 47 (.agg #[(.string ⟨#[]⟩), (.int .u32 0), (.string ⟨#[]⟩), (.int .u64 0)]) 48 rfl Tryd.underlying22 info47 rfl (by decide) (by omega) u9 x9_5 (⟨((rd_T47 ((rd_T25 l1 x7_1).f1) x10_5).f0), ((rd_T47 ((rd_T25 l1 x7_1).f1) x10_5).f1), ((rd_T47 ((rd_T25 l1 x7_1).f1) x10_5).f2), 0⟩ : S47) [.string ((rd_T47 ((rd_T25 l1 x7_1).f1) x10_5).f0), .int .u32 ((rd_T47 ((rd_T25 l1 x7_1).f1) x10_5).f1), .string ((rd_T47 ((rd_T25 l1 x7_1).f1) x10_5).f2), .int .u64 0] (fun k_ => k_ ≠ gb365) (fun _ => False) rfl (by first | (go_simp; done) | (go_simp; rfl)) ?aP (fun _ hk => hk.elim) ?aF ?aO ?aB ?aS ?aL ?_; (case aP => exact k47_mkM _ _ _ (⟨((rd_T47 ((rd_T25 l1 x7_1).f1) x10_5).f0), ((rd_T47 ((rd_T25 l1 x7_1).f1) x10_5).f1), ((rd_T47 ((rd_T25 l1 x7_1).f1) x10_5).f2), 0⟩ : S47)); (case aB => exact (bH HB.out)); (case aF => exact (fun k_ hk => Kd.freshB (g := gb365) (o := .cells #[.string ((rd_T47 ((rd_T25 l1 x7_1).f1) x10_5).f0), .int .u32 ((rd_T47 ((rd_T25 l1 x7_1).f1) x10_5).f1), .string ((rd_T47 ((rd_T25 l1 x7_1).f1) x10_5).f2), .int .u64 0] 47 (0, 0)) (bV BK365.out) k_ hk)); (case aO => exact (by (with_reducible repeat (first | apply Kd.R_alloc | apply Kd.R_drewN | apply Kd.R_drew)); exact Kd.R_mono (Kd.R_far (p := ⟨gb365, 3, none⟩) (Kd.R_mono HO_9.out (fun k_ hk => (⟨hk, hk⟩ : _ ∧ k_ ≠ gb365))) (fun _ hk => hk.2) (.int .u64 0)) (fun _ hk => hk.1))); (case aS => exact (below_size (bH HB.out))); (case aL => have := LMc59.out; omega); intro v372 w62 ho hb hg hat; rw [← Ny371.out] at ho; replace HO_6 := Aside0.mk (Kd.S_after (ok := (fun k_ => k_ ≠ gb362 ∧ k_ ≠ gb365)) (by (with_reducible repeat (first | apply Kd.S_alloc | apply Kd.S_drewN | apply Kd.S_drew)); exact Kd.S_mono (Kd.S_far (p := ⟨gb365, 3, none⟩) (Kd.S_mono HO_6.out (fun k_ hk => (⟨hk, hk.2.2⟩ : _ ∧ k_ ≠ gb365))) (fun _ hk => hk.2) (.int .u64 0)) (fun _ hk => ⟨⟨hk.1.2.1, hk.1.2.2⟩, hk.1.1⟩)) hg hat); replace BK362 := Aside0.mk (blk_grown (g := gb362) (o := .cells #[.int .i64 ((rd_T25 l1 x7_1).f0), .slice (some ad364) ((rd_T25 l1 x7_1).f1).length c361_1, .int .u64 z0] 25 (0, 0)) (bK BK362.out) hg (Kd.R_ne HO_9.out BK362.out (by decide))); replace BK365 := Aside0.mk (blk_grown (g := gb365) (o := .cells #[.string ((rd_T47 ((rd_T25 l1 x7_1).f1) x10_5).f0), .int .u32 ((rd_T47 ((rd_T25 l1 x7_1).f1) x10_5).f1), .string ((rd_T47 ((rd_T25 l1 x7_1).f1) x10_5).f2), .int .u64 0] 47 (0, 0)) (bV BK365.out) hg (Kd.R_away HO_9.out (fun _ hk => hk))); replace HB := Aside0.mk (hb); have HO373 := Aside0.mk (ho); clear HO_9; clear ho hb hg hat))
                          go_roundg kj40
                          case measure => have := HK1.out; have := HJ5.out; have := HJ10.out; have := HJ29.out; have := HK5.out; have := HJ33.out; have := HJ40.out; omega
                          case rel => exact ⟨(y371), (wrap64 (x10_5 + 1)), (by first | rfl | (simp; done) | (simp [*]; done)), H', ⟨by have := HK1.out; have := HJ5.out; have := HJ10.out; have := HJ29.out; have := HK5.out; have := HJ33.out; have := HJ40.out; omega⟩, ⟨by (with_reducible repeat (first | apply Kd.S_alloc | apply Kd.S_drewN | apply Kd.S_drew)); exact Kd.S_mono HO_6.out (fun _ hk => ⟨hk.2, hk.1.1⟩)⟩, ⟨by (with_reducible repeat (first | apply Kd.R_alloc | apply Kd.R_drewN | apply Kd.R_drew)); exact Kd.R_mono HO373.out (fun _ hk => trivial)⟩, ⟨bK BK362.out⟩, ⟨bH HB.out⟩⟩
                         ·rw [if_neg c59] at H; exact absurd H (by simp)
                    ·rw [if_neg c40] at H; exact absurd H (by simp)
                   ·rw [if_neg c39] at H; exact absurd H (by simp)
                  ·replace c38 := Bool.eq_false_iff.mpr c38; subst c38; rw [if_neg (show ¬ (false = true) by decide)] at H
                   by_cases c63 : x6_1.length < 3518437208883
                   ·rw [if_pos c63] at H; have LMc63 := Aside0.mk c63; clear c63; obtain ⟨y374, hy374⟩ : ∃ y_ : List (S25), y_ = (x6_1 ++ [(⟨((rd_T25 l1 x7_1).f0), x9_5, z0⟩ : S25)]) := ⟨_, rfl⟩; replace H : ((tallboylaw18_To.f kj33 ((rd_T25 l1 x7_1).f0) x9_5 z0).bind fun bt377 => ((reply_Text.f a0 bt377.1 bt377.2.1 bt377.2.2).bind fun t382 => (if x5_1.size + t382.size ≤ 9223372036854775807 then (tallboylaw18_ReplyRow.l0 kj33 a0 l1 (x5_1 ++ t382) y374 (wrap64 (x7_1 + 1))) else (none)))) = some r := by first | (rw [hy374]; with_reducible exact H) | (have H2_ := (Option.bind_some _ _).symm.trans H; rw [hy374]; with_reducible exact H2_) | (have H2_ := (Option.bind_some _ _).symm.trans H; with_reducible exact H2_) | with_reducible exact H | (rw [hy374]; exact H) | exact H
                    have Ny374 := Aside0.mk hy374; clear hy374; replace H := Option.bind_eq_some_iff.mp H; obtain ⟨⟨t377, t378, t381⟩, A640, H⟩ := H; (try dsimp only at H); have A64 := Aside0.mk A640; clear A640; replace H := Option.bind_eq_some_iff.mp H; obtain ⟨t382, A650, H⟩ := H; (try dsimp only at H); have A65 := Aside0.mk A650; clear A650
                    by_cases c66 : x5_1.size + t382.size ≤ 9223372036854775807
                    ·rw [if_pos c66] at H; have c66b0 := eq_true c66; have c66b1 : decide (x5_1.size + t382.size ≤ 9223372036854775807) = true := decide_eq_true c66
                     try have c66b2 : (9223372036854775807 < x5_1.size + t382.size) = False := eq_false (Nat.not_lt.2 c66)
                     have H' := Aside0.mk H; clear H; obtain ⟨Ao67, co67, eo67⟩ := Kd.R_slice HO_9.out; subst eo67; obtain ⟨hcz68, hfz68⟩ := d3 BK362
                     go_wp2_with (first | ((with_reducible refine gate_store (t := 22) (p := 90) rfl ?_); refine store_event (t := 22) (p := 90) (v := ?vo_w69) (w1 := (wc.setCell ⟨gb362, 1, none⟩ (.slice Ao67 x9_5.length co67))) ?hg ?ho ?hn ?hr ?_; (case ho => rfl); (case hg => rfl); (case hn => rfl); (case hr => first | (go_simp; done) | (go_simp; rfl)); intro w69 hw; replace HO_6 : Aside0 (Kd.S k25 25 w69 w.heap.size (fun k_ => some k_ ≠ (.slice Ao67 x9_5.length co67 : Value).ownBlock ∧ k_ ≠ gb362) u6 x6_1) := ⟨(by rw [hw]; exact (by (with_reducible repeat (first | apply Kd.S_alloc | apply Kd.S_drewN | apply Kd.S_drew)); exact Kd.S_mono (Kd.S_far (p := ⟨gb362, 1, none⟩) (Kd.S_mono HO_6.out (fun k_ hk => (⟨hk, hk.2⟩ : _ ∧ k_ ≠ gb362))) (fun _ hk => hk.2) (.slice Ao67 x9_5.length co67)) (fun _ hk => ⟨hk.1.1, hk.1.2⟩)))⟩; replace HO_9 : Aside0 (Kd.R k47 47 w69 w.heap.size (fun _ => True) (.slice Ao67 x9_5.length co67) x9_5) := ⟨(by rw [hw]; exact (by (with_reducible repeat (first | apply Kd.R_alloc | apply Kd.R_drewN | apply Kd.R_drew)); exact Kd.R_mono (Kd.R_far (p := ⟨gb362, 1, none⟩) (Kd.R_types HO_9.out BK362.out (by decide)) (fun _ hk => hk.2) (.slice Ao67 x9_5.length co67)) (fun _ hk => trivial)))⟩; replace BK362 : Aside0 (w69.heap[gb362]? = some (.cells #[.int .i64 ((rd_T25 l1 x7_1).f0), .slice Ao67 x9_5.length co67, .int .u64 z0] 25 (0, 0))) := ⟨(by rw [hw]; exact (bV BK362.out))⟩; replace HB : Aside0 (Below w.heap.size w w69) := ⟨(by rw [hw]; exact (bH HB.out))⟩; clear hw; obtain ⟨hcz70, hfz70⟩ := d3 BK362) | ((with_reducible refine gate_builtin (b := .append) (xs := #[.tmp 91, .tmp 93]) rfl ?_); (try (refine gate_guard (by rfl) ?_; dsimp only)); at_builtin; refine Kd.S_append k25 (w0 := w) w.heap.size rfl (.tmp 91) (.tmp 93) 51 25 (.agg #[(.int .i64 0), (.slice none 0 0), (.int .u64 0)]) 40 rfl Tryd.underlying51 info25 rfl (by decide) (by omega) u6 x6_1 (⟨((rd_T25 l1 x7_1).f0), x9_5, z0⟩ : S25) [.int .i64 ((rd_T25 l1 x7_1).f0), .slice Ao67 x9_5.length co67, .int .u64 z0] (fun k_ => k_ ≠ gb362) (fun k_ => some k_ = (.slice Ao67 x9_5.length co67 : Value).ownBlock) rfl rfl ?aP (fun k_ hk_ => ((Kd.R_mono (ok' := fun k_ => ((fun k_ => k_ ≠ gb362)) k_ ∧ some k_ ≠ (u6 : Value).ownBlock) (Kd.R_types (Kd.R_apart' (HO_9.out) (Kd.S_typed HO_6.out) (by decide)) BK362.out (by decide)) (fun k_ hk => ⟨hk.2, hk.1.2⟩))).1 k_ hk_.symm) ?aF ?aO ?aB ?aS ?aL ?_; (case aP => exact k25_mkM _ _ _ (⟨((rd_T25 l1 x7_1).f0), x9_5, z0⟩ : S25) (Kd.R_mono (Kd.R_tight rfl (Kd.R_mono (ok' := fun k_ => ((fun k_ => k_ ≠ gb362)) k_ ∧ some k_ ≠ (u6 : Value).ownBlock) (Kd.R_types (Kd.R_apart' (HO_9.out) (Kd.S_typed HO_6.out) (by decide)) BK362.out (by decide)) (fun k_ hk => ⟨hk.2, hk.1.2⟩))) (fun _ h_ => h_))); (case aB => exact (bH HB.out)); (case aF => exact (fun k_ hk => Kd.freshB (g := gb362) (o := .cells #[.int .i64 ((rd_T25 l1 x7_1).f0), .slice Ao67 x9_5.length co67, .int .u64 z0] 25 (0, 0)) (bK BK362.out) k_ hk)); (case aO => exact (by (with_reducible repeat (first | apply Kd.S_alloc | apply Kd.S_drewN | apply Kd.S_drew)); exact Kd.S_mono HO_6.out (fun k_ hk => ⟨hk.2, fun e_ => hk.1 e_⟩))); (case aS => exact (below_size (bH HB.out))); (case aL => have := LMc63.out; omega); intro v375 w71 ho hb hg hat; rw [← Ny374.out] at ho; replace BK362 := Aside0.mk (blk_grown (g := gb362) (o := .cells #[.int .i64 ((rd_T25 l1 x7_1).f0), .slice Ao67 x9_5.length co67, .int .u64 z0] 25 (0, 0)) (bK BK362.out) hg (Kd.S_away HO_6.out (fun _ hk => hk.2))); replace HB := Aside0.mk (hb); have HO376 := Aside0.mk (ho); have ho9_ := Kd.R_over' HO_9.out (Kd.S_typed HO_6.out) (by decide) hg; clear HO_6 HO_9; have HO_9 := Aside0.mk ho9_; clear ho9_ ho hb hg hat; obtain ⟨hcz72, hfz72⟩ := d3 BK362) | ((with_reducible refine gate_callee (f := 10) rfl ?_); refine goesL_ (some 98) rfl rfl Tryd.func10 (by kernel_rfl) rfl #[.agg #[.int .i64 ((rd_T25 l1 x7_1).f0), .slice Ao67 x9_5.length co67, .int .u64 z0]] rfl (by (try simp only [List.map_toArray, List.map_cons, List.map_nil]); first | done | rfl | (simp only [List.length_drop, List.length_take]; rfl)) ?_; (with_reducible refine (tallboylaw18_To.calls kj33 ((rd_T25 l1 x7_1).f0) _ _ x9_5 z0 t377 t378 t381 _ ?side1 ?side2 A64.out).mono ?_); (case side1 => repeat (first | exact (Kd.R_reads' HO_9.out).2.2 | (with_reducible refine Kd.C_alloc ?_ _) | (with_reducible refine Kd.C_drewN ?_ _) | (with_reducible refine Kd.C_drew ?_))); (case side2 => exact (Kd.R_reads' HO_9.out).2.1); rintro e w73 ⟨v379, rfl, ho0, hb⟩; refine ⟨_, rfl, ?_⟩; replace HO376 := Aside0.mk (Kd.S_below (by (with_reducible repeat (first | apply Kd.S_alloc | apply Kd.S_drewN | apply Kd.S_drew)); exact HO376.out) hb); have HO380 := Aside0.mk (Kd.R_lower ho0 (below_size (bH HB.out))); replace BK362 := rB BK362 hb; replace HB := rS HB hb; (try clear hb); (try clear hk); (try clear ho0); obtain ⟨Ao74, co74, eo74⟩ := Kd.R_slice HO380.out; subst eo74) | ((with_reducible refine gate_callee (f := 9) rfl ?_); refine goesL_ (some 99) rfl rfl Tryd.func9 (by kernel_rfl) rfl #[.int .i64 a0, .agg #[.int .i64 t377, .slice Ao74 t378.length co74, .int .u64 t381]] rfl (by (try simp only [List.map_toArray, List.map_cons, List.map_nil]); first | done | rfl | (simp only [List.length_drop, List.length_take]; rfl)) ?_; (with_reducible refine (reply_Text.calls a0 t377 _ _ t378 t381 t382 _ ?side1 ?side2 A65.out (by first | exact (LdS.t (LdU.s HL.out)) | exact LdT.on (LdS.t (LdU.s HL.out)) (bH HB.out))).mono ?_); (case side1 => repeat (first | exact (Kd.R_reads' HO380.out).2.2 | (with_reducible refine Kd.C_alloc ?_ _) | (with_reducible refine Kd.C_drewN ?_ _) | (with_reducible refine Kd.C_drew ?_))); (case side2 => exact (Kd.R_reads' HO380.out).2.1); rintro e w75 ⟨rfl, hb⟩; refine ⟨_, rfl, ?_⟩; replace HO376 := Aside0.mk (Kd.S_below (by (with_reducible repeat (first | apply Kd.S_alloc | apply Kd.S_drewN | apply Kd.S_drew)); exact HO376.out) hb); replace HO380 := Aside0.mk (Kd.R_below (by (with_reducible repeat (first | apply Kd.R_alloc | apply Kd.R_drewN | apply Kd.R_drew)); exact HO380.out) hb); replace BK362 := rB BK362 hb; replace HB := rS HB hb; (try clear hb); (try clear hk); ))
                     go_roundg kj33
                     case measure => have := HK1.out; have := HJ5.out; have := HJ10.out; have := HJ29.out; have := HK5.out; have := HJ33.out; omega
                     case rel => exact ⟨(x5_1 ++ t382), (y374), (wrap64 (x7_1 + 1)), (by first | rfl | (simp; done) | (simp [*]; done)), (by first | rfl | (simp; done) | (simp [*]; done)), H', ⟨by have := HK1.out; have := HJ5.out; have := HJ10.out; have := HJ29.out; have := HK5.out; have := HJ33.out; omega⟩, ⟨by (with_reducible repeat (first | apply Kd.S_alloc | apply Kd.S_drewN | apply Kd.S_drew)); exact Kd.S_mono HO376.out (fun _ hk => trivial)⟩, ⟨bH HB.out⟩⟩
                    ·rw [if_neg c66] at H; exact absurd H (by simp)
                   ·rw [if_neg c63] at H; exact absurd H (by simp)
        ·rw [if_neg c10] at H; exact absurd H (by simp)
       ·rw [if_neg c9] at H; exact absurd H (by simp)
      ·replace c8 := Bool.eq_false_iff.mpr c8; subst c8; rw [if_neg (show ¬ (false = true) by decide)] at H; have H' := Aside0.mk H; clear H; go_wp2
       go_loopg [5, 12] kj5 (fun kq v5 v12 w' => ∃ (x5_3 : ByteArray) (x12_3 : Int), v5 = .string x5_3 ∧ v12 = .int .i64 x12_3 ∧ Aside0 (tallboylaw18_ReplyRow.l2 kq a0 x5_3 x6_1 x12_3 = some r) ∧ Aside0 (kq ≤ kj5) ∧ Aside0 (Kd.S k25 25 w' w.heap.size (fun _ => True) u6 x6_1) ∧ Aside0 (Below w.heap.size w w'))
       case atStart => exact ⟨(x5_1), (0), (by first | rfl | (simp; done) | (simp [*]; done)), (by first | rfl | (simp; done) | (simp [*]; done)), H', ⟨Nat.le_refl _⟩, ⟨by (with_reducible repeat (first | apply Kd.S_alloc | apply Kd.S_drewN | apply Kd.S_drew)); exact HO_6.out⟩, ⟨bH HB.out⟩⟩
       case round =>
        clear H'; (try clear c1); (try clear c4); (try clear c7b0); (try clear c8); (try clear c9); (try clear c9b0); (try clear c10); (try clear c10b0); (try clear c15); (try clear c18b0); (try clear c22b0); (try clear c29); (try clear c32); (try clear c32b0); (try clear c32b1); (try clear c35b0); (try clear c38); (try clear c39); (try clear c39b0); (try clear c40); (try clear c40b0); (try clear c47); (try clear c52); (try clear c54); (try clear c55); (try clear c59); (try clear c63); (try clear c66); (try clear c66b0); (try clear c66b1); (try clear c66b2); (try clear hcz13); (try clear hcz16); (try clear hcz19); (try clear hcz21); (try clear hcz23); (try clear hcz25); (try clear hcz26); (try clear hcz28); (try clear hcz31); (try clear hcz33); (try clear hcz36); (try clear hcz37); (try clear hcz42); (try clear hcz45); (try clear hcz49); (try clear hcz51); (try clear hcz57); (try clear hcz61); (try clear hcz68); (try clear hcz70); (try clear hcz72); (try clear hfz13); (try clear hfz16); (try clear hfz19); (try clear hfz21); (try clear hfz23); (try clear hfz25); (try clear hfz26); (try clear hfz28); (try clear hfz31); (try clear hfz33)
        (try clear hfz33); (try clear hfz36); (try clear hfz37); (try clear hfz42); (try clear hfz45); (try clear hfz49); (try clear hfz51); (try clear hfz57); (try clear hfz61); (try clear hfz68); (try clear hfz70); (try clear hfz72); (try clear hx361_0); (try clear hx361_1); (try clear hx361_2); (try clear hx364_0); (try clear hx364_1); (try clear hx364_2); (try clear hx364_3); (try clear p361); (try clear p364); (try clear q361); (try clear q364); obtain ⟨x5_3, x12_3, rfl, rfl, HA, HK3, HO_6, HB⟩ := hrel; cases gk with
        | zero => exact absurd HA.out (by simp [tallboylaw18_ReplyRow.l2])
        | succ k3 =>
         have H := HA.out; clear HA; simp only [tallboylaw18_ReplyRow.l2] at H
         by_cases c76 : x12_3 < (x6_1.length : Int)
         ·rw [if_pos c76] at H; have c76b0 : decide (x12_3 < (x6_1.length : Int)) = true := decide_eq_true c76; clear c76; replace H := Option.bind_eq_some_iff.mp H; obtain ⟨⟨t383, t384, t387, t388, t389⟩, A770, H⟩ := H; (try dsimp only at H); have A77 := Aside0.mk A770; clear A770; have HC78 := Aside0.mk H; clear H; obtain ⟨Ao79, co79, eo79⟩ := Kd.S_slice HO_6.out; subst eo79
          go_upto_region 30 with (first | ((with_reducible refine gate_callee (f := 14) rfl ?_); refine goesL_ (some 110) rfl rfl Tryd.func14 (by kernel_rfl) rfl #[.int .i64 a0, .string x5_3] rfl (by (try simp only [List.map_toArray, List.map_cons, List.map_nil]); first | done | rfl | (simp only [List.length_drop, List.length_take]; rfl)) ?_; (with_reducible refine (reply_Read.calls k3 a0 x5_3 t383 t384 t387 t388 t389 _ A77.out (by first | exact HL.out | exact LdU.on HL.out (bH HB.out))).mono ?_); rintro e w80 ⟨v385, rfl, ho0, hb⟩; refine ⟨_, rfl, ?_⟩; replace HO_6 := Aside0.mk (Kd.S_below (by (with_reducible repeat (first | apply Kd.S_alloc | apply Kd.S_drewN | apply Kd.S_drew)); exact HO_6.out) hb); have HO386 := Aside0.mk (Kd.R_lower ho0 (below_size (bH HB.out))); replace HB := rS HB hb; (try clear hb); (try clear hk); (try clear ho0)) | ((with_reducible refine gate_dst (N := 13) rfl ?_); (try (refine gate_guard (by rfl) ?_; dsimp only)); refine bE 13 #[.int .i64 0, .slice none 0 0, .int .u64 0] 30 rfl rfl ?_; intro gb390 hg w81 hbox hb; replace HO_6 := Aside0.mk (Kd.S_below (by (with_reducible repeat (first | apply Kd.S_alloc | apply Kd.S_drewN | apply Kd.S_drew)); exact HO_6.out) hb); replace HO386 := Aside0.mk (Kd.R_below (by (with_reducible repeat (first | apply Kd.R_alloc | apply Kd.R_drewN | apply Kd.R_drew)); exact HO386.out) hb); have BK390 := rM hbox; have GW390 := rG HB hg; replace HB := rS HB hb; have GE390 := GW390; clear hb hbox hg; obtain ⟨hcz82, hfz82⟩ := d3 BK390; obtain ⟨Ao83, co83, eo83⟩ := Kd.R_slice HO386.out; subst eo83))
          (try simp only [Act.put, sA, sB, sC])
          go_cut [135] (fun v135 wc => ∃ (kq : Nat) (x135_77 : Bool), v135 = .bool x135_77 ∧ Aside0 (tallboylaw18_ReplyRow.j8 kq a0 x5_3 x6_1 x12_3 t388 x135_77 = some r) ∧ Aside0 (kq ≤ k3) ∧ Aside0 (Kd.S k25 25 wc w.heap.size (fun _ => True) (.slice Ao79 x6_1.length co79) x6_1) ∧ Aside0 (Kd.R k60 60 wc w.heap.size (fun _ => True) (.slice Ao83 t384.length co83) t384) ∧ Aside0 (wc.heap[gb390]? = some (.cells #[.int .i64 t383, (.slice Ao83 t384.length co83), .int .u64 t387] 30 (0, 0))) ∧ Aside0 (Below w.heap.size w wc))
          case first =>
           have H := HC78.out; clear HC78
           by_cases c84 : t389 = 0
           ·rw [if_pos c84] at H; have c84b0 : (t389 == 0) = true := beq_iff_eq.mpr c84; have c84b1 : (t389 != 0) = false := bne_eq_false_iff_eq.mpr c84; clear c84
            (first | rw [c84b0] | (simp only [i64_w, i32_w]; rw [c84b0]) | skip)
            by_cases c85 : t388 < 1
            ·rw [if_pos c85] at H; have c85b0 : decide (t388 < 1) = true := decide_eq_true c85; clear c85; have H' := Aside0.mk H; clear H
             try go_wp2
             have n0_ : Aside0 (Kd.S k25 25 (((w81.setCell ⟨gb390, 0, none⟩ (.int .i64 t383)).setCell ⟨gb390, 1, none⟩ (.slice Ao83 t384.length co83)).setCell ⟨gb390, 2, none⟩ (.int .u64 t387)) w.heap.size (fun _ => True) (.slice Ao79 x6_1.length co79) x6_1) := ⟨by (with_reducible repeat (first | apply Kd.S_alloc | apply Kd.S_drewN | apply Kd.S_drew)); exact Kd.S_mono (Kd.S_far (p := ⟨gb390, 2, none⟩) (Kd.S_far (p := ⟨gb390, 1, none⟩) (Kd.S_far (p := ⟨gb390, 0, none⟩) (Kd.S_types HO_6.out BK390.out (by decide)) (fun _ hk => hk.2) (.int .i64 t383)) (fun _ hk => hk.2) (.slice Ao83 t384.length co83)) (fun _ hk => hk.2) (.int .u64 t387)) (fun _ hk => trivial)⟩; have n1_ : Aside0 (Kd.R k60 60 (((w81.setCell ⟨gb390, 0, none⟩ (.int .i64 t383)).setCell ⟨gb390, 1, none⟩ (.slice Ao83 t384.length co83)).setCell ⟨gb390, 2, none⟩ (.int .u64 t387)) w.heap.size (fun _ => True) (.slice Ao83 t384.length co83) t384) := ⟨by (with_reducible repeat (first | apply Kd.R_alloc | apply Kd.R_drewN | apply Kd.R_drew)); exact Kd.R_mono (Kd.R_far (p := ⟨gb390, 2, none⟩) (Kd.R_far (p := ⟨gb390, 1, none⟩) (Kd.R_far (p := ⟨gb390, 0, none⟩) (Kd.R_types HO386.out BK390.out (by decide)) (fun _ hk => hk.2) (.int .i64 t383)) (fun _ hk => hk.2) (.slice Ao83 t384.length co83)) (fun _ hk => hk.2) (.int .u64 t387)) (fun _ hk => trivial)⟩; have n2_ : Aside0 ((((w81.setCell ⟨gb390, 0, none⟩ (.int .i64 t383)).setCell ⟨gb390, 1, none⟩ (.slice Ao83 t384.length co83)).setCell ⟨gb390, 2, none⟩ (.int .u64 t387)).heap[gb390]? = some (.cells #[.int .i64 t383, .slice Ao83 t384.length co83, .int .u64 t387] 30 (0, 0))) := ⟨bV BK390.out⟩; have n3_ : Aside0 (Below w.heap.size w (((w81.setCell ⟨gb390, 0, none⟩ (.int .i64 t383)).setCell ⟨gb390, 1, none⟩ (.slice Ao83 t384.length co83)).setCell ⟨gb390, 2, none⟩ (.int .u64 t387))) := ⟨bH HB.out⟩
             (try clear HO_6)
             (try clear HO386)
             (try clear BK390)
             (try clear HB)
             generalize (((w81.setCell ⟨gb390, 0, none⟩ (.int .i64 t383)).setCell ⟨gb390, 1, none⟩ (.slice Ao83 t384.length co83)).setCell ⟨gb390, 2, none⟩ (.int .u64 t387)) = w86 at n0_ n1_ n2_ n3_ ⊢; have HO_6 := n0_; have HO386 := n1_; have BK390 := n2_; have HB := n3_; clear n0_ n1_ n2_ n3_; replace HO_6 := Aside0.mk (Kd.S_drew HO_6.out); replace HO386 := Aside0.mk (Kd.R_drew HO386.out); replace BK390 := Aside0.mk (bD BK390.out); replace HB := Aside0.mk (eD HB.out); refine start_ (n := 22) (S := fun w' => True) (ds := []) #[false, false, false, false, false, false, false, false, false, false, false, false, false, false, false, false, false, false, false, false, false, false] (by kernel_rfl) rfl rfl trivial (fun hHeld => ?_); refine with_tabW tallboylaw18_ReplyRow.tab30 tallboylaw18_ReplyRow.bits30 (fun HT_ HW_ => ?_)
             generalize w86.drew = w87 at HO_6 HO386 BK390 HB hHeld ⊢; refine pU HT_ 0 (some 114) ?_ #[true, false, false, false, false, false, false, false, false, false, false, false, false, false, false, false, false, false, false, false, false, false] rfl rfl ?_ ?_ ?_ ?_
             rotate_left
             ·intro w'
              go_simp
              with_reducible rfl
             rotate_left
             ·simp only [Act.put, sA, sB, sC, i64_w, i32_w]
              rfl
             refine pU HT_ 1 (some 115) ?_ #[true, true, false, false, false, false, false, false, false, false, false, false, false, false, false, false, false, false, false, false, false, false] rfl rfl ?_ ?_ ?_ ?_
             rotate_left
             ·intro w'
              go_simp
              with_reducible rfl
             rotate_left
             ·simp only [Act.put, sA, sB, sC, i64_w, i32_w]
              rfl
             refine pU HT_ 2 (some 116) ?_ #[true, true, true, false, false, false, false, false, false, false, false, false, false, false, false, false, false, false, false, false, false, false] rfl rfl ?_ ?_ ?_ ?_
             rotate_left
             ·intro w'
              go_simp
              with_reducible rfl
             rotate_left
             ·simp only [Act.put, sA, sB, sC, i64_w, i32_w]
              rfl
             refine pU HT_ 3 (some 117) ?_ #[true, true, true, true, false, false, false, false, false, false, false, false, false, false, false, false, false, false, false, false, false, false] rfl rfl ?_ ?_ ?_ ?_
             rotate_left
             ·intro w'
              go_simp
              with_reducible rfl
             rotate_left
             ·simp only [Act.put, sA, sB, sC, i64_w, i32_w]
              rfl
             refine pU HT_ 4 (some 118) ?_ #[true, true, true, true, true, false, false, false, false, false, false, false, false, false, false, false, false, false, false, false, false, false] rfl rfl ?_ ?_ ?_ ?_
             rotate_left
             ·intro w'
              go_simp
              with_reducible rfl
             rotate_left
             ·simp only [Act.put, sA, sB, sC, i64_w, i32_w]
              rfl
             refine pU HT_ 5 (some 119) ?_ #[true, true, true, true, true, true, false, false, false, false, false, false, false, false, false, false, false, false, false, false, false, false] rfl rfl ?_ ?_ ?_ ?_
             rotate_left
             ·intro w'
              go_simp
              with_reducible rfl
             rotate_left
             ·simp only [Act.put, sA, sB, sC, i64_w, i32_w]
              rfl
             refine pU HT_ 6 (some 120) ?_ #[true, true, true, true, true, true, true, false, false, false, false, false, false, false, false, false, false, false, false, false, false, false] rfl rfl ?_ ?_ ?_ ?_
             rotate_left
             ·intro w'
              go_simp
              with_reducible rfl
             rotate_left
             ·simp only [Act.put, sA, sB, sC, i64_w, i32_w]
              rfl
             refine pure_ (i := 7) (N := some 121) (v := undef) (a' := ?_) #[true, true, true, true, true, true, true, true, false, false, false, false, false, false, false, false, false, false, false, false, false, false] rfl rfl (any_of HT_.out (by kernel_rfl)) (fun _ _ _ h => h) (Or.inr ⟨by rfl, rfl⟩) ?_ ?_
             rotate_left
             ·simp only [Act.put, sA, sB, sC, i64_w, i32_w]
              rfl
             refine pure_ (i := 8) (N := some 122) (v := undef) (a' := ?_) #[true, true, true, true, true, true, true, true, true, false, false, false, false, false, false, false, false, false, false, false, false, false] rfl rfl (any_of HT_.out (by kernel_rfl)) (fun _ _ _ h => h) (Or.inr ⟨by rfl, rfl⟩) ?_ ?_
             rotate_left
             ·simp only [Act.put, sA, sB, sC, i64_w, i32_w]
              rfl
             refine pure_ (i := 9) (N := some 123) (v := undef) (a' := ?_) #[true, true, true, true, true, true, true, true, true, true, false, false, false, false, false, false, false, false, false, false, false, false] rfl rfl (any_of HT_.out (by kernel_rfl)) (fun _ _ _ h => h) (Or.inr ⟨by rfl, rfl⟩) ?_ ?_
             rotate_left
             ·simp only [Act.put, sA, sB, sC, i64_w, i32_w]
              rfl
             refine pure_ (i := 10) (N := some 124) (v := undef) (a' := ?_) #[true, true, true, true, true, true, true, true, true, true, true, false, false, false, false, false, false, false, false, false, false, false] rfl rfl (any_of HT_.out (by kernel_rfl)) (fun _ _ _ h => h) (Or.inr ⟨by rfl, rfl⟩) ?_ ?_
             rotate_left
             ·simp only [Act.put, sA, sB, sC, i64_w, i32_w]
              rfl
             refine pU HT_ 11 (some 125) ?_ #[true, true, true, true, true, true, true, true, true, true, true, true, false, false, false, false, false, false, false, false, false, false] rfl rfl ?_ ?_ ?_ ?_
             rotate_left
             ·intro w'
              go_simp
              with_reducible rfl
             rotate_left
             ·simp only [Act.put, sA, sB, sC, i64_w, i32_w]
              rfl
             refine pU HT_ 12 (some 126) ?_ #[true, true, true, true, true, true, true, true, true, true, true, true, true, false, false, false, false, false, false, false, false, false] rfl rfl ?_ ?_ ?_ ?_
             rotate_left
             ·intro w'
              go_simp
              with_reducible rfl
             rotate_left
             ·simp only [Act.put, sA, sB, sC, i64_w, i32_w]
              rfl
             refine pure_ (i := 13) (N := some 127) (v := undef) (a' := ?_) #[true, true, true, true, true, true, true, true, true, true, true, true, true, true, false, false, false, false, false, false, false, false] rfl rfl (any_of HT_.out (by kernel_rfl)) (fun _ _ _ h => h) (Or.inr ⟨by rfl, rfl⟩) ?_ ?_
             rotate_left
             ·simp only [Act.put, sA, sB, sC, i64_w, i32_w]
              rfl
             refine pure_ (i := 14) (N := some 128) (v := undef) (a' := ?_) #[true, true, true, true, true, true, true, true, true, true, true, true, true, true, true, false, false, false, false, false, false, false] rfl rfl (any_of HT_.out (by kernel_rfl)) (fun _ _ _ h => h) (Or.inr ⟨by rfl, rfl⟩) ?_ ?_
             rotate_left
             ·simp only [Act.put, sA, sB, sC, i64_w, i32_w]
              rfl
             refine pure_ (i := 15) (N := some 129) (v := undef) (a' := ?_) #[true, true, true, true, true, true, true, true, true, true, true, true, true, true, true, true, false, false, false, false, false, false] rfl rfl (any_of HT_.out (by kernel_rfl)) (fun _ _ _ h => h) (Or.inr ⟨by rfl, rfl⟩) ?_ ?_
             rotate_left
             ·simp only [Act.put, sA, sB, sC, i64_w, i32_w]
              rfl
             refine pure_ (i := 16) (N := some 130) (v := undef) (a' := ?_) #[true, true, true, true, true, true, true, true, true, true, true, true, true, true, true, true, true, false, false, false, false, false] rfl rfl (any_of HT_.out (by kernel_rfl)) (fun _ _ _ h => h) (Or.inr ⟨by rfl, rfl⟩) ?_ ?_
             rotate_left
             ·simp only [Act.put, sA, sB, sC, i64_w, i32_w]
              rfl
             refine pure_ (i := 17) (N := some 131) (v := undef) (a' := ?_) #[true, true, true, true, true, true, true, true, true, true, true, true, true, true, true, true, true, true, false, false, false, false] rfl rfl (any_of HT_.out (by kernel_rfl)) (fun _ _ _ h => h) (Or.inr ⟨by rfl, rfl⟩) ?_ ?_
             rotate_left
             ·simp only [Act.put, sA, sB, sC, i64_w, i32_w]
              rfl
             refine pure_ (i := 18) (N := some 132) (v := undef) (a' := ?_) #[true, true, true, true, true, true, true, true, true, true, true, true, true, true, true, true, true, true, true, false, false, false] rfl rfl (any_of HT_.out (by kernel_rfl)) (fun _ _ _ h => h) (Or.inr ⟨by rfl, rfl⟩) ?_ ?_
             rotate_left
             ·simp only [Act.put, sA, sB, sC, i64_w, i32_w]
              rfl
             refine pure_ (i := 19) (N := some 133) (v := undef) (a' := ?_) #[true, true, true, true, true, true, true, true, true, true, true, true, true, true, true, true, true, true, true, true, false, false] rfl rfl (any_of HT_.out (by kernel_rfl)) (fun _ _ _ h => h) (Or.inr ⟨by rfl, rfl⟩) ?_ ?_
             rotate_left
             ·simp only [Act.put, sA, sB, sC, i64_w, i32_w]
              rfl
             refine pure_ (i := 20) (N := some 134) (v := undef) (a' := ?_) #[true, true, true, true, true, true, true, true, true, true, true, true, true, true, true, true, true, true, true, true, true, false] rfl rfl (any_of HT_.out (by kernel_rfl)) (fun _ _ _ h => h) (Or.inr ⟨by rfl, rfl⟩) ?_ ?_
             rotate_left
             ·simp only [Act.put, sA, sB, sC, i64_w, i32_w]
              rfl
             refine pU HT_ 21 (some 135) ?_ #[true, true, true, true, true, true, true, true, true, true, true, true, true, true, true, true, true, true, true, true, true, true] rfl rfl ?_ ?_ ?_ ?_
             rotate_left
             ·intro w'
              go_simp
              with_reducible rfl
             rotate_left
             ·simp only [Act.put, sA, sB, sC, i64_w, i32_w]
              rfl
             refine done_ (done_of HT_.out (by kernel_rfl)) ?_
             try go_wp2
             go_meet
             case rel => exact ⟨_, (true), (by first | rfl | (simp; done) | (simp [*]; done)), H', ⟨by have := HK1.out; have := HJ5.out; have := HK3.out; first | omega | exact Nat.le_refl _⟩, ⟨by (with_reducible repeat (first | apply Kd.S_alloc | apply Kd.S_drewN | apply Kd.S_drew)); exact HO_6.out⟩, ⟨by (with_reducible repeat (first | apply Kd.R_alloc | apply Kd.R_drewN | apply Kd.R_drew)); exact HO386.out⟩, ⟨bK BK390.out⟩, ⟨bH HB.out⟩⟩
            ·rw [if_neg c85] at H; have c85b0 : decide (t388 < 1) = false := decide_eq_false c85; clear c85
             by_cases c88 : t388 > (x5_3.size : Int)
             ·rw [if_pos c88] at H; have c88b0 : decide ((x5_3.size : Int) < t388) = true := decide_eq_true c88; clear c88; have H' := Aside0.mk H; clear H
              try go_wp2
              have n0_ : Aside0 (Kd.S k25 25 (((w81.setCell ⟨gb390, 0, none⟩ (.int .i64 t383)).setCell ⟨gb390, 1, none⟩ (.slice Ao83 t384.length co83)).setCell ⟨gb390, 2, none⟩ (.int .u64 t387)) w.heap.size (fun _ => True) (.slice Ao79 x6_1.length co79) x6_1) := ⟨by (with_reducible repeat (first | apply Kd.S_alloc | apply Kd.S_drewN | apply Kd.S_drew)); exact Kd.S_mono (Kd.S_far (p := ⟨gb390, 2, none⟩) (Kd.S_far (p := ⟨gb390, 1, none⟩) (Kd.S_far (p := ⟨gb390, 0, none⟩) (Kd.S_types HO_6.out BK390.out (by decide)) (fun _ hk => hk.2) (.int .i64 t383)) (fun _ hk => hk.2) (.slice Ao83 t384.length co83)) (fun _ hk => hk.2) (.int .u64 t387)) (fun _ hk => trivial)⟩; have n1_ : Aside0 (Kd.R k60 60 (((w81.setCell ⟨gb390, 0, none⟩ (.int .i64 t383)).setCell ⟨gb390, 1, none⟩ (.slice Ao83 t384.length co83)).setCell ⟨gb390, 2, none⟩ (.int .u64 t387)) w.heap.size (fun _ => True) (.slice Ao83 t384.length co83) t384) := ⟨by (with_reducible repeat (first | apply Kd.R_alloc | apply Kd.R_drewN | apply Kd.R_drew)); exact Kd.R_mono (Kd.R_far (p := ⟨gb390, 2, none⟩) (Kd.R_far (p := ⟨gb390, 1, none⟩) (Kd.R_far (p := ⟨gb390, 0, none⟩) (Kd.R_types HO386.out BK390.out (by decide)) (fun _ hk => hk.2) (.int .i64 t383)) (fun _ hk => hk.2) (.slice Ao83 t384.length co83)) (fun _ hk => hk.2) (.int .u64 t387)) (fun _ hk => trivial)⟩; have n2_ : Aside0 ((((w81.setCell ⟨gb390, 0, none⟩ (.int .i64 t383)).setCell ⟨gb390, 1, none⟩ (.slice Ao83 t384.length co83)).setCell ⟨gb390, 2, none⟩ (.int .u64 t387)).heap[gb390]? = some (.cells #[.int .i64 t383, .slice Ao83 t384.length co83, .int .u64 t387] 30 (0, 0))) := ⟨bV BK390.out⟩; have n3_ : Aside0 (Below w.heap.size w (((w81.setCell ⟨gb390, 0, none⟩ (.int .i64 t383)).setCell ⟨gb390, 1, none⟩ (.slice Ao83 t384.length co83)).setCell ⟨gb390, 2, none⟩ (.int .u64 t387))) := ⟨bH HB.out⟩
              (try clear HO_6)
              (try clear HO386)
              (try clear BK390)
              (try clear HB)
              generalize (((w81.setCell ⟨gb390, 0, none⟩ (.int .i64 t383)).setCell ⟨gb390, 1, none⟩ (.slice Ao83 t384.length co83)).setCell ⟨gb390, 2, none⟩ (.int .u64 t387)) = w89 at n0_ n1_ n2_ n3_ ⊢; have HO_6 := n0_; have HO386 := n1_; have BK390 := n2_; have HB := n3_; clear n0_ n1_ n2_ n3_; replace HO_6 := Aside0.mk (Kd.S_drew HO_6.out); replace HO386 := Aside0.mk (Kd.R_drew HO386.out); replace BK390 := Aside0.mk (bD BK390.out); replace HB := Aside0.mk (eD HB.out); refine start_ (n := 22) (S := fun w' => True) (ds := []) #[false, false, false, false, false, false, false, false, false, false, false, false, false, false, false, false, false, false, false, false, false, false] (by kernel_rfl) rfl rfl trivial (fun hHeld => ?_); refine with_tabW tallboylaw18_ReplyRow.tab30 tallboylaw18_ReplyRow.bits30 (fun HT_ HW_ => ?_)
              generalize w89.drew = w90 at HO_6 HO386 BK390 HB hHeld ⊢; refine pU HT_ 0 (some 114) ?_ #[true, false, false, false, false, false, false, false, false, false, false, false, false, false, false, false, false, false, false, false, false, false] rfl rfl ?_ ?_ ?_ ?_
              rotate_left
              ·intro w'
               go_simp
               with_reducible rfl
              rotate_left
              ·simp only [Act.put, sA, sB, sC, i64_w, i32_w]
               rfl
              refine pU HT_ 1 (some 115) ?_ #[true, true, false, false, false, false, false, false, false, false, false, false, false, false, false, false, false, false, false, false, false, false] rfl rfl ?_ ?_ ?_ ?_
              rotate_left
              ·intro w'
               go_simp
               with_reducible rfl
              rotate_left
              ·simp only [Act.put, sA, sB, sC, i64_w, i32_w]
               rfl
              refine pU HT_ 2 (some 116) ?_ #[true, true, true, false, false, false, false, false, false, false, false, false, false, false, false, false, false, false, false, false, false, false] rfl rfl ?_ ?_ ?_ ?_
              rotate_left
              ·intro w'
               go_simp
               with_reducible rfl
              rotate_left
              ·simp only [Act.put, sA, sB, sC, i64_w, i32_w]
               rfl
              refine pU HT_ 3 (some 117) ?_ #[true, true, true, true, false, false, false, false, false, false, false, false, false, false, false, false, false, false, false, false, false, false] rfl rfl ?_ ?_ ?_ ?_
              rotate_left
              ·intro w'
               go_simp
               with_reducible rfl
              rotate_left
              ·simp only [Act.put, sA, sB, sC, i64_w, i32_w]
               rfl
              refine pU HT_ 4 (some 118) ?_ #[true, true, true, true, true, false, false, false, false, false, false, false, false, false, false, false, false, false, false, false, false, false] rfl rfl ?_ ?_ ?_ ?_
              rotate_left
              ·intro w'
               go_simp
               with_reducible rfl
              rotate_left
              ·simp only [Act.put, sA, sB, sC, i64_w, i32_w]
               rfl
              refine pU HT_ 5 (some 119) ?_ #[true, true, true, true, true, true, false, false, false, false, false, false, false, false, false, false, false, false, false, false, false, false] rfl rfl ?_ ?_ ?_ ?_
              rotate_left
              ·intro w'
               go_simp
               with_reducible rfl
              rotate_left
              ·simp only [Act.put, sA, sB, sC, i64_w, i32_w]
               rfl
              refine pU HT_ 6 (some 120) ?_ #[true, true, true, true, true, true, true, false, false, false, false, false, false, false, false, false, false, false, false, false, false, false] rfl rfl ?_ ?_ ?_ ?_
              rotate_left
              ·intro w'
               go_simp
               with_reducible rfl
              rotate_left
              ·simp only [Act.put, sA, sB, sC, i64_w, i32_w]
               rfl
              refine pU HT_ 7 (some 121) ?_ #[true, true, true, true, true, true, true, true, false, false, false, false, false, false, false, false, false, false, false, false, false, false] rfl rfl ?_ ?_ ?_ ?_
              rotate_left
              ·intro w'
               go_simp
               with_reducible rfl
              rotate_left
              ·simp only [Act.put, sA, sB, sC, i64_w, i32_w]
               rfl
              refine pU HT_ 8 (some 122) ?_ #[true, true, true, true, true, true, true, true, true, false, false, false, false, false, false, false, false, false, false, false, false, false] rfl rfl ?_ ?_ ?_ ?_
              rotate_left
              ·intro w'
               go_simp
               with_reducible rfl
              rotate_left
              ·simp only [Act.put, sA, sB, sC, i64_w, i32_w]
               rfl
              refine pU HT_ 9 (some 123) ?_ #[true, true, true, true, true, true, true, true, true, true, false, false, false, false, false, false, false, false, false, false, false, false] rfl rfl ?_ ?_ ?_ ?_
              rotate_left
              ·intro w'
               go_simp
               with_reducible rfl
              rotate_left
              ·simp only [Act.put, sA, sB, sC, i64_w, i32_w]
               rfl
              refine pU HT_ 10 (some 124) ?_ #[true, true, true, true, true, true, true, true, true, true, true, false, false, false, false, false, false, false, false, false, false, false] rfl rfl ?_ ?_ ?_ ?_
              rotate_left
              ·intro w'
               go_simp
               with_reducible rfl
              rotate_left
              ·simp only [Act.put, sA, sB, sC, i64_w, i32_w]
               rfl
              refine pU HT_ 11 (some 125) ?_ #[true, true, true, true, true, true, true, true, true, true, true, true, false, false, false, false, false, false, false, false, false, false] rfl rfl ?_ ?_ ?_ ?_
              rotate_left
              ·intro w'
               go_simp
               with_reducible rfl
              rotate_left
              ·simp only [Act.put, sA, sB, sC, i64_w, i32_w]
               rfl
              refine pU HT_ 12 (some 126) ?_ #[true, true, true, true, true, true, true, true, true, true, true, true, true, false, false, false, false, false, false, false, false, false] rfl rfl ?_ ?_ ?_ ?_
              rotate_left
              ·intro w'
               go_simp
               with_reducible rfl
              rotate_left
              ·simp only [Act.put, sA, sB, sC, i64_w, i32_w]
               rfl
              refine pure_ (i := 13) (N := some 127) (v := undef) (a' := ?_) #[true, true, true, true, true, true, true, true, true, true, true, true, true, true, false, false, false, false, false, false, false, false] rfl rfl (any_of HT_.out (by kernel_rfl)) (fun _ _ _ h => h) (Or.inr ⟨by rfl, rfl⟩) ?_ ?_
              rotate_left
              ·simp only [Act.put, sA, sB, sC, i64_w, i32_w]
               rfl
              refine pure_ (i := 14) (N := some 128) (v := undef) (a' := ?_) #[true, true, true, true, true, true, true, true, true, true, true, true, true, true, true, false, false, false, false, false, false, false] rfl rfl (any_of HT_.out (by kernel_rfl)) (fun _ _ _ h => h) (Or.inr ⟨by rfl, rfl⟩) ?_ ?_
              rotate_left
              ·simp only [Act.put, sA, sB, sC, i64_w, i32_w]
               rfl
              refine pure_ (i := 15) (N := some 129) (v := undef) (a' := ?_) #[true, true, true, true, true, true, true, true, true, true, true, true, true, true, true, true, false, false, false, false, false, false] rfl rfl (any_of HT_.out (by kernel_rfl)) (fun _ _ _ h => h) (Or.inr ⟨by rfl, rfl⟩) ?_ ?_
              rotate_left
              ·simp only [Act.put, sA, sB, sC, i64_w, i32_w]
               rfl
              refine pure_ (i := 16) (N := some 130) (v := undef) (a' := ?_) #[true, true, true, true, true, true, true, true, true, true, true, true, true, true, true, true, true, false, false, false, false, false] rfl rfl (any_of HT_.out (by kernel_rfl)) (fun _ _ _ h => h) (Or.inr ⟨by rfl, rfl⟩) ?_ ?_
              rotate_left
              ·simp only [Act.put, sA, sB, sC, i64_w, i32_w]
               rfl
              refine pure_ (i := 17) (N := some 131) (v := undef) (a' := ?_) #[true, true, true, true, true, true, true, true, true, true, true, true, true, true, true, true, true, true, false, false, false, false] rfl rfl (any_of HT_.out (by kernel_rfl)) (fun _ _ _ h => h) (Or.inr ⟨by rfl, rfl⟩) ?_ ?_
              rotate_left
              ·simp only [Act.put, sA, sB, sC, i64_w, i32_w]
               rfl
              refine pure_ (i := 18) (N := some 132) (v := undef) (a' := ?_) #[true, true, true, true, true, true, true, true, true, true, true, true, true, true, true, true, true, true, true, false, false, false] rfl rfl (any_of HT_.out (by kernel_rfl)) (fun _ _ _ h => h) (Or.inr ⟨by rfl, rfl⟩) ?_ ?_
              rotate_left
              ·simp only [Act.put, sA, sB, sC, i64_w, i32_w]
               rfl
              refine pure_ (i := 19) (N := some 133) (v := undef) (a' := ?_) #[true, true, true, true, true, true, true, true, true, true, true, true, true, true, true, true, true, true, true, true, false, false] rfl rfl (any_of HT_.out (by kernel_rfl)) (fun _ _ _ h => h) (Or.inr ⟨by rfl, rfl⟩) ?_ ?_
              rotate_left
              ·simp only [Act.put, sA, sB, sC, i64_w, i32_w]
               rfl
              refine pure_ (i := 20) (N := some 134) (v := undef) (a' := ?_) #[true, true, true, true, true, true, true, true, true, true, true, true, true, true, true, true, true, true, true, true, true, false] rfl rfl (any_of HT_.out (by kernel_rfl)) (fun _ _ _ h => h) (Or.inr ⟨by rfl, rfl⟩) ?_ ?_
              rotate_left
              ·simp only [Act.put, sA, sB, sC, i64_w, i32_w]
               rfl
              refine pU HT_ 21 (some 135) ?_ #[true, true, true, true, true, true, true, true, true, true, true, true, true, true, true, true, true, true, true, true, true, true] rfl rfl ?_ ?_ ?_ ?_
              rotate_left
              ·intro w'
               go_simp
               with_reducible rfl
              rotate_left
              ·simp only [Act.put, sA, sB, sC, i64_w, i32_w]
               rfl
              refine done_ (done_of HT_.out (by kernel_rfl)) ?_
              try go_wp2
              go_meet
              case rel => exact ⟨_, (true), (by first | rfl | (simp; done) | (simp [*]; done)), H', ⟨by have := HK1.out; have := HJ5.out; have := HK3.out; first | omega | exact Nat.le_refl _⟩, ⟨by (with_reducible repeat (first | apply Kd.S_alloc | apply Kd.S_drewN | apply Kd.S_drew)); exact HO_6.out⟩, ⟨by (with_reducible repeat (first | apply Kd.R_alloc | apply Kd.R_drewN | apply Kd.R_drew)); exact HO386.out⟩, ⟨bK BK390.out⟩, ⟨bH HB.out⟩⟩
             ·rw [if_neg c88] at H; have c88b0 : decide ((x5_3.size : Int) < t388) = false := decide_eq_false c88; clear c88; replace H := Option.bind_eq_some_iff.mp H; obtain ⟨⟨t391, t392, t395⟩, A910, H⟩ := H; (try dsimp only at H); have A91 := Aside0.mk A910; clear A910
              by_cases c92 : 0 ≤ x12_3
              ·rw [if_pos c92] at H; have c92b0 : decide (0 ≤ x12_3) = true := decide_eq_true c92; clear c92; replace H := Option.bind_eq_some_iff.mp H; obtain ⟨t397, A930, H⟩ := H; (try dsimp only at H); have A93 := Aside0.mk A930; clear A930; have H' := Aside0.mk H; clear H
               try go_wp2
               have n0_ : Aside0 (Kd.S k25 25 (((w81.setCell ⟨gb390, 0, none⟩ (.int .i64 t383)).setCell ⟨gb390, 1, none⟩ (.slice Ao83 t384.length co83)).setCell ⟨gb390, 2, none⟩ (.int .u64 t387)) w.heap.size (fun _ => True) (.slice Ao79 x6_1.length co79) x6_1) := ⟨by (with_reducible repeat (first | apply Kd.S_alloc | apply Kd.S_drewN | apply Kd.S_drew)); exact Kd.S_mono (Kd.S_far (p := ⟨gb390, 2, none⟩) (Kd.S_far (p := ⟨gb390, 1, none⟩) (Kd.S_far (p := ⟨gb390, 0, none⟩) (Kd.S_types HO_6.out BK390.out (by decide)) (fun _ hk => hk.2) (.int .i64 t383)) (fun _ hk => hk.2) (.slice Ao83 t384.length co83)) (fun _ hk => hk.2) (.int .u64 t387)) (fun _ hk => trivial)⟩; have n1_ : Aside0 (Kd.R k60 60 (((w81.setCell ⟨gb390, 0, none⟩ (.int .i64 t383)).setCell ⟨gb390, 1, none⟩ (.slice Ao83 t384.length co83)).setCell ⟨gb390, 2, none⟩ (.int .u64 t387)) w.heap.size (fun _ => True) (.slice Ao83 t384.length co83) t384) := ⟨by (with_reducible repeat (first | apply Kd.R_alloc | apply Kd.R_drewN | apply Kd.R_drew)); exact Kd.R_mono (Kd.R_far (p := ⟨gb390, 2, none⟩) (Kd.R_far (p := ⟨gb390, 1, none⟩) (Kd.R_far (p := ⟨gb390, 0, none⟩) (Kd.R_types HO386.out BK390.out (by decide)) (fun _ hk => hk.2) (.int .i64 t383)) (fun _ hk => hk.2) (.slice Ao83 t384.length co83)) (fun _ hk => hk.2) (.int .u64 t387)) (fun _ hk => trivial)⟩; have n2_ : Aside0 ((((w81.setCell ⟨gb390, 0, none⟩ (.int .i64 t383)).setCell ⟨gb390, 1, none⟩ (.slice Ao83 t384.length co83)).setCell ⟨gb390, 2, none⟩ (.int .u64 t387)).heap[gb390]? = some (.cells #[.int .i64 t383, .slice Ao83 t384.length co83, .int .u64 t387] 30 (0, 0))) := ⟨bV BK390.out⟩; have n3_ : Aside0 (Below w.heap.size w (((w81.setCell ⟨gb390, 0, none⟩ (.int .i64 t383)).setCell ⟨gb390, 1, none⟩ (.slice Ao83 t384.length co83)).setCell ⟨gb390, 2, none⟩ (.int .u64 t387))) := ⟨bH HB.out⟩
               (try clear HO_6)
               (try clear HO386)
               (try clear BK390)
               (try clear HB)
               generalize (((w81.setCell ⟨gb390, 0, none⟩ (.int .i64 t383)).setCell ⟨gb390, 1, none⟩ (.slice Ao83 t384.length co83)).setCell ⟨gb390, 2, none⟩ (.int .u64 t387)) = w94 at n0_ n1_ n2_ n3_ ⊢; have HO_6 := n0_; have HO386 := n1_; have BK390 := n2_; have HB := n3_; clear n0_ n1_ n2_ n3_; replace HO_6 := Aside0.mk (Kd.S_drew HO_6.out); replace HO386 := Aside0.mk (Kd.R_drew HO386.out); replace BK390 := Aside0.mk (bD BK390.out); replace HB := Aside0.mk (eD HB.out); have p396 : 0 ≤ (x12_3 : Int) := of_decide_eq_true (by first | (with_reducible assumption) | assumption); have q396 : x12_3 < (x6_1.length : Int) := of_decide_eq_true (by first | (with_reducible assumption) | assumption)
               obtain ⟨ad396, A396_1, c396_1, e396, hx396_0, hx396_1, hx396_2, hl396_1, hi396_1⟩ := at_T25 (Kd.S_reads' HO_6.out).2.2 x12_3 p396 q396; cases e396; obtain ⟨ce396, hce396, hMe396, hcc396⟩ := Kd.S_get HO_6.out z25 x12_3 p396 (by first | exact q396 | exact of_decide_eq_true (by first | (with_reducible assumption) | assumption) | (have e_ := (Kd.S_reads' HO_6.out).1; omega)); obtain ⟨ve396_1, rfl, ge396_1⟩ := k25_openM hMe396; have hv396_1 := hcc396 1 _ rfl; rw [add_field _ _ 1 (by omega)] at hv396_1; replace hv396_1 := Option.some.inj (hv396_1.symm.trans hx396_1); rw [hv396_1] at ge396_1; have HL396_1 := Aside0.mk (show Kd.R k47 47 _ _ _ _ ((rd_T25 x6_1 x12_3).f1) from ge396_1); clear hv396_1 ge396_1; clear hcc396 hce396; have HR396_1 := Aside0.mk hi396_1; have HC396_1 := Aside0.mk hl396_1; clear hi396_1 hl396_1; replace p396 := eq_true p396; replace q396 := eq_true q396; refine start_ (n := 22) (S := fun w' => w'.cell? ⟨gb390, 0, none⟩ = some (.int .i64 t383) ∧ w'.cell? ⟨gb390, 1, none⟩ = some (.slice Ao83 t384.length co83) ∧ w'.cell? ⟨gb390, 2, none⟩ = some (.int .u64 t387) ∧ w'.cell? (ad396.add ((x12_3).toNat * 3)) = some (.int .i64 ((rd_T25 x6_1 x12_3).f0)) ∧ w'.cell? ⟨(ad396.add ((x12_3).toNat * 3)).block, (ad396.add ((x12_3).toNat * 3)).off + 1, none⟩ = some (.slice A396_1 ((rd_T25 x6_1 x12_3).f1).length c396_1) ∧ w'.cell? ⟨(ad396.add ((x12_3).toNat * 3)).block, (ad396.add ((x12_3).toNat * 3)).off + 2, none⟩ = some (.int .u64 ((rd_T25 x6_1 x12_3).f2))) (ds := []) #[false, false, false, false, false, false, false, false, false, false, false, false, false, false, false, false, false, false, false, false, false, false] (by kernel_rfl) rfl rfl ⟨kC BK390 0, kC BK390 1, kC BK390 2, hx396_0, hx396_1, hx396_2⟩ (fun hHeld => ?_); refine with_tabW tallboylaw18_ReplyRow.tab30 tallboylaw18_ReplyRow.bits30 (fun HT_ HW_ => ?_)
               generalize w94.drew = w95 at HO_6 HO386 BK390 HB HL396_1 HR396_1 hx396_0 hx396_1 hx396_2 hHeld ⊢; refine pU HT_ 0 (some 114) ?_ #[true, false, false, false, false, false, false, false, false, false, false, false, false, false, false, false, false, false, false, false, false, false] rfl rfl ?_ ?_ ?_ ?_
               rotate_left
               ·intro w'
                go_simp
                with_reducible rfl
               rotate_left
               ·simp only [Act.put, sA, sB, sC, i64_w, i32_w]
                rfl
               refine pU HT_ 1 (some 115) ?_ #[true, true, false, false, false, false, false, false, false, false, false, false, false, false, false, false, false, false, false, false, false, false] rfl rfl ?_ ?_ ?_ ?_
               rotate_left
               ·intro w'
                go_simp
                with_reducible rfl
               rotate_left
               ·simp only [Act.put, sA, sB, sC, i64_w, i32_w]
                rfl
               refine pU HT_ 2 (some 116) ?_ #[true, true, true, false, false, false, false, false, false, false, false, false, false, false, false, false, false, false, false, false, false, false] rfl rfl ?_ ?_ ?_ ?_
               rotate_left
               ·intro w'
                go_simp
                with_reducible rfl
               rotate_left
               ·simp only [Act.put, sA, sB, sC, i64_w, i32_w]
                rfl
               refine pU HT_ 3 (some 117) ?_ #[true, true, true, true, false, false, false, false, false, false, false, false, false, false, false, false, false, false, false, false, false, false] rfl rfl ?_ ?_ ?_ ?_
               rotate_left
               ·intro w'
                go_simp
                with_reducible rfl
               rotate_left
               ·simp only [Act.put, sA, sB, sC, i64_w, i32_w]
                rfl
               refine pU HT_ 4 (some 118) ?_ #[true, true, true, true, true, false, false, false, false, false, false, false, false, false, false, false, false, false, false, false, false, false] rfl rfl ?_ ?_ ?_ ?_
               rotate_left
               ·intro w'
                go_simp
                with_reducible rfl
               rotate_left
               ·simp only [Act.put, sA, sB, sC, i64_w, i32_w]
                rfl
               refine pU HT_ 5 (some 119) ?_ #[true, true, true, true, true, true, false, false, false, false, false, false, false, false, false, false, false, false, false, false, false, false] rfl rfl ?_ ?_ ?_ ?_
               rotate_left
               ·intro w'
                go_simp
                with_reducible rfl
               rotate_left
               ·simp only [Act.put, sA, sB, sC, i64_w, i32_w]
                rfl
               refine pU HT_ 6 (some 120) ?_ #[true, true, true, true, true, true, true, false, false, false, false, false, false, false, false, false, false, false, false, false, false, false] rfl rfl ?_ ?_ ?_ ?_
               rotate_left
               ·intro w'
                go_simp
                with_reducible rfl
               rotate_left
               ·simp only [Act.put, sA, sB, sC, i64_w, i32_w]
                rfl
               refine pU HT_ 7 (some 121) ?_ #[true, true, true, true, true, true, true, true, false, false, false, false, false, false, false, false, false, false, false, false, false, false] rfl rfl ?_ ?_ ?_ ?_
               rotate_left
               ·intro w'
                go_simp
                with_reducible rfl
               rotate_left
               ·simp only [Act.put, sA, sB, sC, i64_w, i32_w]
                rfl
               refine pU HT_ 8 (some 122) ?_ #[true, true, true, true, true, true, true, true, true, false, false, false, false, false, false, false, false, false, false, false, false, false] rfl rfl ?_ ?_ ?_ ?_
               rotate_left
               ·intro w'
                go_simp
                with_reducible rfl
               rotate_left
               ·simp only [Act.put, sA, sB, sC, i64_w, i32_w]
                rfl
               refine pU HT_ 9 (some 123) ?_ #[true, true, true, true, true, true, true, true, true, true, false, false, false, false, false, false, false, false, false, false, false, false] rfl rfl ?_ ?_ ?_ ?_
               rotate_left
               ·intro w'
                go_simp
                with_reducible rfl
               rotate_left
               ·simp only [Act.put, sA, sB, sC, i64_w, i32_w]
                rfl
               refine pU HT_ 10 (some 124) ?_ #[true, true, true, true, true, true, true, true, true, true, true, false, false, false, false, false, false, false, false, false, false, false] rfl rfl ?_ ?_ ?_ ?_
               rotate_left
               ·intro w'
                go_simp
                with_reducible rfl
               rotate_left
               ·simp only [Act.put, sA, sB, sC, i64_w, i32_w]
                rfl
               refine pU HT_ 11 (some 125) ?_ #[true, true, true, true, true, true, true, true, true, true, true, true, false, false, false, false, false, false, false, false, false, false] rfl rfl ?_ ?_ ?_ ?_
               rotate_left
               ·intro w'
                go_simp
                with_reducible rfl
               rotate_left
               ·simp only [Act.put, sA, sB, sC, i64_w, i32_w]
                rfl
               refine pU HT_ 12 (some 126) ?_ #[true, true, true, true, true, true, true, true, true, true, true, true, true, false, false, false, false, false, false, false, false, false] rfl rfl ?_ ?_ ?_ ?_
               rotate_left
               ·intro w'
                go_simp
                with_reducible rfl
               rotate_left
               ·simp only [Act.put, sA, sB, sC, i64_w, i32_w]
                rfl
               refine pU HT_ 15 (some 129) ?_ #[true, true, true, true, true, true, true, true, true, true, true, true, true, false, false, true, false, false, false, false, false, false] rfl rfl ?_ ?_ ?_ ?_
               rotate_left
               ·intro w'
                go_simp
                with_reducible rfl
               rotate_left
               ·simp only [Act.put, sA, sB, sC, i64_w, i32_w]
                rfl
               refine pU HT_ 16 (some 130) ?_ #[true, true, true, true, true, true, true, true, true, true, true, true, true, false, false, true, true, false, false, false, false, false] rfl rfl ?_ ?_ ?_ ?_
               rotate_left
               ·intro w'
                go_simp
                with_reducible rfl
               rotate_left
               ·simp only [Act.put, sA, sB, sC, i64_w, i32_w]
                rfl
               refine pU HT_ 17 (some 131) ?_ #[true, true, true, true, true, true, true, true, true, true, true, true, true, false, false, true, true, true, false, false, false, false] rfl rfl ?_ ?_ ?_ ?_
               rotate_left
               ·intro w'
                go_simp
                with_reducible rfl
               rotate_left
               ·simp only [Act.put, sA, sB, sC, i64_w, i32_w]
                rfl
               refine tU HT_ HW_ hHeld 13 (some 127) ?_ #[true, true, true, true, true, true, true, true, true, true, true, true, true, true, false, true, true, true, false, false, false, false] rfl rfl ?_ ?_ ?_ ?_
               rotate_left
               ·rintro w' ⟨s0, s1, s2, s3, s4, s5⟩
                go_simp
                with_reducible rfl
               rotate_left
               ·simp only [Act.put, sA, sB, sC, i64_w, i32_w]
                rfl
               refine tU HT_ HW_ hHeld 18 (some 132) ?_ #[true, true, true, true, true, true, true, true, true, true, true, true, true, true, false, true, true, true, true, false, false, false] rfl rfl ?_ ?_ ?_ ?_
               rotate_left
               ·rintro w' ⟨s0, s1, s2, s3, s4, s5⟩
                go_simp
                with_reducible rfl
               rotate_left
               ·simp only [Act.put, sA, sB, sC, i64_w, i32_w]
                rfl
               refine one_ (i := 14) (N := some 128) #[true, true, true, true, true, true, true, true, true, true, true, true, true, true, true, true, true, true, true, false, false, false] rfl rfl (one_of HT_.out (by kernel_rfl)) (by decide) (fun K hK => ?_)
               refine goes_ Tryd.func17 (by kernel_rfl) rfl #[.agg #[.int .i64 t383, .slice Ao83 t384.length co83, .int .u64 t387]] (by rfl) rfl rfl (by (try simp only [List.map_toArray, List.map_cons, List.map_nil]); first | done | rfl | (simp only [List.length_drop, List.length_take]; rfl)) ?_
               with_reducible refine (tallboylaw16_From.calls k3 t383 _ _ t384 t387 t391 t392 t395 _ ?side1 ?side2 A91.out).mono ?_
               (case side1 => repeat (first | exact (Kd.R_reads' HO386.out).2.2 | (with_reducible refine Kd.C_alloc ?_ _) | (with_reducible refine Kd.C_drewN ?_ _) | (with_reducible refine Kd.C_drew ?_)))
               (case side2 => exact (Kd.R_reads' HO386.out).2.1)
               rintro e w96 ⟨v393, rfl, ho0, hb⟩
               have HS3_ := (hb.cell (World.block_lt_of_cell? _ _ (hHeld.2.2.2.1))).trans (hHeld.2.2.2.1); have HS4_ := (hb.cell (World.block_lt_of_cell? _ _ (hHeld.2.2.2.2.1))).trans (hHeld.2.2.2.2.1); have HS5_ := (hb.cell (World.block_lt_of_cell? _ _ (hHeld.2.2.2.2.2))).trans (hHeld.2.2.2.2.2); refine ⟨_, rfl, ?_⟩
               replace HO_6 := Aside0.mk (Kd.S_elder' (by (with_reducible repeat (first | apply Kd.S_alloc | apply Kd.S_drewN | apply Kd.S_drew)); exact HO_6.out) (Kd.R_base ho0) hb); replace HO386 := Aside0.mk (Kd.R_below (by (with_reducible repeat (first | apply Kd.R_alloc | apply Kd.R_drewN | apply Kd.R_drew)); exact HO386.out) hb); have HO394 := Aside0.mk (Kd.R_lower (Kd.R_new' ho0 (Kd.R_lt (by (with_reducible repeat (first | apply Kd.R_alloc | apply Kd.R_drewN | apply Kd.R_drew)); exact HL396_1.out))) (below_size (bH HB.out))); replace HL396_1 := Aside0.mk (Kd.R_elder' (by (with_reducible repeat (first | apply Kd.R_alloc | apply Kd.R_drewN | apply Kd.R_drew)); exact HL396_1.out) (Kd.R_base ho0) hb); replace BK390 := rB BK390 hb; replace HR396_1 := Aside0.mk (Kd.C_below (by repeat (first | (with_reducible exact HR396_1.out) | (with_reducible refine Kd.C_alloc ?_ _) | (with_reducible refine Kd.C_drewN ?_ _) | (with_reducible refine Kd.C_drew ?_) | exact HR396_1.out)) hb); replace HB := rS HB hb
               (try clear hb)
               
               (try clear hk)
               
               (try clear ho0)
               obtain ⟨Ao97, co97, eo97⟩ := Kd.R_slice HO394.out
               (first | subst eo97 | (injection eo97 with f1_ f2_ f3_; have f4_ := f1_.symm; have f5_ := f3_.symm; clear f1_ f2_ f3_; subst f4_; subst f5_))
               refine hK.out _ _ ⟨kC BK390 0, kC BK390 1, kC BK390 2, HS3_, HS4_, HS5_⟩ (fun hHeld => ?_)
               clear hK K; refine norm_ (a' := ?_) ?_ ?_
               rotate_left
               ·show Act.put _ (some 128) _ = _
                simp only [Act.put, sA, sB, sC, i64_w, i32_w]
                rfl
               refine one_ (i := 19) (N := some 133) #[true, true, true, true, true, true, true, true, true, true, true, true, true, true, true, true, true, true, true, true, false, false] rfl rfl (one_of HT_.out (by kernel_rfl)) (by decide) (fun K hK => ?_)
               refine goes_ Tryd.func16 (by kernel_rfl) rfl #[.agg #[.int .i64 t391, .slice Ao97 t392.length co97, .int .u64 t395], .agg #[.int .i64 ((rd_T25 x6_1 x12_3).f0), .slice A396_1 ((rd_T25 x6_1 x12_3).f1).length c396_1, .int .u64 ((rd_T25 x6_1 x12_3).f2)]] (by rfl) rfl rfl (by (try simp only [List.map_toArray, List.map_cons, List.map_nil]); first | done | rfl | (simp only [List.length_drop, List.length_take]; rfl)) ?_
               with_reducible refine (tallboyref15_Same.calls k3 t391 _ _ t392 t395 ((rd_T25 x6_1 x12_3).f0) _ _ ((rd_T25 x6_1 x12_3).f1) ((rd_T25 x6_1 x12_3).f2) t397 _ ?side1 ?side2 ?side3 ?side4 A93.out).mono ?_
               (case side1 => repeat (first | exact (Kd.R_reads' HO394.out).2.2 | (with_reducible refine Kd.C_alloc ?_ _) | (with_reducible refine Kd.C_drewN ?_ _) | (with_reducible refine Kd.C_drew ?_)))
               (case side2 => exact (Kd.R_reads' HO394.out).2.1)
               (case side3 => repeat (first | exact (by repeat (first | (with_reducible exact HR396_1.out) | (with_reducible refine Kd.C_alloc ?_ _) | (with_reducible refine Kd.C_drewN ?_ _) | (with_reducible refine Kd.C_drew ?_) | exact HR396_1.out)) | (with_reducible refine Kd.C_alloc ?_ _) | (with_reducible refine Kd.C_drewN ?_ _) | (with_reducible refine Kd.C_drew ?_)))
               (case side4 => exact HC396_1.out)
               rintro e w98 ⟨rfl, hb⟩
               have HS3_ := (hb.cell (World.block_lt_of_cell? _ _ (hHeld.2.2.2.1))).trans (hHeld.2.2.2.1); have HS4_ := (hb.cell (World.block_lt_of_cell? _ _ (hHeld.2.2.2.2.1))).trans (hHeld.2.2.2.2.1); have HS5_ := (hb.cell (World.block_lt_of_cell? _ _ (hHeld.2.2.2.2.2))).trans (hHeld.2.2.2.2.2); refine ⟨_, rfl, ?_⟩
               replace HO_6 := Aside0.mk (Kd.S_below (by (with_reducible repeat (first | apply Kd.S_alloc | apply Kd.S_drewN | apply Kd.S_drew)); exact HO_6.out) hb); replace HO386 := Aside0.mk (Kd.R_below (by (with_reducible repeat (first | apply Kd.R_alloc | apply Kd.R_drewN | apply Kd.R_drew)); exact HO386.out) hb); replace HL396_1 := Aside0.mk (Kd.R_below (by (with_reducible repeat (first | apply Kd.R_alloc | apply Kd.R_drewN | apply Kd.R_drew)); exact HL396_1.out) hb); replace HO394 := Aside0.mk (Kd.R_below (by (with_reducible repeat (first | apply Kd.R_alloc | apply Kd.R_drewN | apply Kd.R_drew)); exact HO394.out) hb); replace BK390 := rB BK390 hb; replace HR396_1 := Aside0.mk (Kd.C_below (by repeat (first | (with_reducible exact HR396_1.out) | (with_reducible refine Kd.C_alloc ?_ _) | (with_reducible refine Kd.C_drewN ?_ _) | (with_reducible refine Kd.C_drew ?_) | exact HR396_1.out)) hb); replace HB := rS HB hb
               (try clear hb)
               
               (try clear hk)
               
               refine hK.out _ _ ⟨kC BK390 0, kC BK390 1, kC BK390 2, HS3_, HS4_, HS5_⟩ (fun hHeld => ?_)
               clear hK K; refine norm_ (a' := ?_) ?_ ?_
               rotate_left
               ·show Act.put _ (some 133) _ = _
                simp only [Act.put, sA, sB, sC, i64_w, i32_w]
                rfl
               refine pU HT_ 20 (some 134) ?_ #[true, true, true, true, true, true, true, true, true, true, true, true, true, true, true, true, true, true, true, true, true, false] rfl rfl ?_ ?_ ?_ ?_
               rotate_left
               ·intro w'
                go_simp
                with_reducible rfl
               rotate_left
               ·simp only [Act.put, sA, sB, sC, i64_w, i32_w]
                rfl
               refine pU HT_ 21 (some 135) ?_ #[true, true, true, true, true, true, true, true, true, true, true, true, true, true, true, true, true, true, true, true, true, true] rfl rfl ?_ ?_ ?_ ?_
               rotate_left
               ·intro w'
                go_simp
                with_reducible rfl
               rotate_left
               ·simp only [Act.put, sA, sB, sC, i64_w, i32_w]
                rfl
               refine done_ (done_of HT_.out (by kernel_rfl)) ?_
               try go_wp2
               go_meet
               case rel => exact ⟨_, (!t397), (by first | rfl | (simp; done) | (simp [*]; done)), H', ⟨by have := HK1.out; have := HJ5.out; have := HK3.out; first | omega | exact Nat.le_refl _⟩, ⟨by (with_reducible repeat (first | apply Kd.S_alloc | apply Kd.S_drewN | apply Kd.S_drew)); exact Kd.S_mono HO_6.out (fun _ hk => trivial)⟩, ⟨by (with_reducible repeat (first | apply Kd.R_alloc | apply Kd.R_drewN | apply Kd.R_drew)); exact HO386.out⟩, ⟨bK BK390.out⟩, ⟨bH HB.out⟩⟩
              ·rw [if_neg c92] at H; exact absurd H (by simp)
           ·rw [if_neg c84] at H; have c84b0 : (t389 == 0) = false := beq_eq_false_iff_ne.mpr c84; have c84b1 : (t389 != 0) = true := bne_iff_ne.mpr c84
            (first | rw [c84b0] | (simp only [i64_w, i32_w]; rw [c84b0]) | skip)
            have H' := Aside0.mk H; clear H
            try go_wp2
            have n0_ : Aside0 (Kd.S k25 25 (((w81.setCell ⟨gb390, 0, none⟩ (.int .i64 t383)).setCell ⟨gb390, 1, none⟩ (.slice Ao83 t384.length co83)).setCell ⟨gb390, 2, none⟩ (.int .u64 t387)) w.heap.size (fun _ => True) (.slice Ao79 x6_1.length co79) x6_1) := ⟨by (with_reducible repeat (first | apply Kd.S_alloc | apply Kd.S_drewN | apply Kd.S_drew)); exact Kd.S_mono (Kd.S_far (p := ⟨gb390, 2, none⟩) (Kd.S_far (p := ⟨gb390, 1, none⟩) (Kd.S_far (p := ⟨gb390, 0, none⟩) (Kd.S_types HO_6.out BK390.out (by decide)) (fun _ hk => hk.2) (.int .i64 t383)) (fun _ hk => hk.2) (.slice Ao83 t384.length co83)) (fun _ hk => hk.2) (.int .u64 t387)) (fun _ hk => trivial)⟩; have n1_ : Aside0 (Kd.R k60 60 (((w81.setCell ⟨gb390, 0, none⟩ (.int .i64 t383)).setCell ⟨gb390, 1, none⟩ (.slice Ao83 t384.length co83)).setCell ⟨gb390, 2, none⟩ (.int .u64 t387)) w.heap.size (fun _ => True) (.slice Ao83 t384.length co83) t384) := ⟨by (with_reducible repeat (first | apply Kd.R_alloc | apply Kd.R_drewN | apply Kd.R_drew)); exact Kd.R_mono (Kd.R_far (p := ⟨gb390, 2, none⟩) (Kd.R_far (p := ⟨gb390, 1, none⟩) (Kd.R_far (p := ⟨gb390, 0, none⟩) (Kd.R_types HO386.out BK390.out (by decide)) (fun _ hk => hk.2) (.int .i64 t383)) (fun _ hk => hk.2) (.slice Ao83 t384.length co83)) (fun _ hk => hk.2) (.int .u64 t387)) (fun _ hk => trivial)⟩; have n2_ : Aside0 ((((w81.setCell ⟨gb390, 0, none⟩ (.int .i64 t383)).setCell ⟨gb390, 1, none⟩ (.slice Ao83 t384.length co83)).setCell ⟨gb390, 2, none⟩ (.int .u64 t387)).heap[gb390]? = some (.cells #[.int .i64 t383, .slice Ao83 t384.length co83, .int .u64 t387] 30 (0, 0))) := ⟨bV BK390.out⟩; have n3_ : Aside0 (Below w.heap.size w (((w81.setCell ⟨gb390, 0, none⟩ (.int .i64 t383)).setCell ⟨gb390, 1, none⟩ (.slice Ao83 t384.length co83)).setCell ⟨gb390, 2, none⟩ (.int .u64 t387))) := ⟨bH HB.out⟩
            (try clear HO_6)
            (try clear HO386)
            (try clear BK390)
            (try clear HB)
            generalize (((w81.setCell ⟨gb390, 0, none⟩ (.int .i64 t383)).setCell ⟨gb390, 1, none⟩ (.slice Ao83 t384.length co83)).setCell ⟨gb390, 2, none⟩ (.int .u64 t387)) = w99 at n0_ n1_ n2_ n3_ ⊢; have HO_6 := n0_; have HO386 := n1_; have BK390 := n2_; have HB := n3_; clear n0_ n1_ n2_ n3_; replace HO_6 := Aside0.mk (Kd.S_drew HO_6.out); replace HO386 := Aside0.mk (Kd.R_drew HO386.out); replace BK390 := Aside0.mk (bD BK390.out); replace HB := Aside0.mk (eD HB.out); refine start_ (n := 22) (S := fun w' => True) (ds := []) #[false, false, false, false, false, false, false, false, false, false, false, false, false, false, false, false, false, false, false, false, false, false] (by kernel_rfl) rfl rfl trivial (fun hHeld => ?_); refine with_tabW tallboylaw18_ReplyRow.tab30 tallboylaw18_ReplyRow.bits30 (fun HT_ HW_ => ?_)
            generalize w99.drew = w100 at HO_6 HO386 BK390 HB hHeld ⊢; refine pU HT_ 0 (some 114) ?_ #[true, false, false, false, false, false, false, false, false, false, false, false, false, false, false, false, false, false, false, false, false, false] rfl rfl ?_ ?_ ?_ ?_
            rotate_left
            ·intro w'
             go_simp
             with_reducible rfl
            rotate_left
            ·simp only [Act.put, sA, sB, sC, i64_w, i32_w]
             rfl
            refine pU HT_ 1 (some 115) ?_ #[true, true, false, false, false, false, false, false, false, false, false, false, false, false, false, false, false, false, false, false, false, false] rfl rfl ?_ ?_ ?_ ?_
            rotate_left
            ·intro w'
             go_simp
             with_reducible rfl
            rotate_left
            ·simp only [Act.put, sA, sB, sC, i64_w, i32_w]
             rfl
            refine pU HT_ 2 (some 116) ?_ #[true, true, true, false, false, false, false, false, false, false, false, false, false, false, false, false, false, false, false, false, false, false] rfl rfl ?_ ?_ ?_ ?_
            rotate_left
            ·intro w'
             go_simp
             with_reducible rfl
            rotate_left
            ·simp only [Act.put, sA, sB, sC, i64_w, i32_w]
             rfl
            refine pure_ (i := 3) (N := some 117) (v := undef) (a' := ?_) #[true, true, true, true, false, false, false, false, false, false, false, false, false, false, false, false, false, false, false, false, false, false] rfl rfl (any_of HT_.out (by kernel_rfl)) (fun _ _ _ h => h) (Or.inr ⟨by rfl, rfl⟩) ?_ ?_
            rotate_left
            ·simp only [Act.put, sA, sB, sC, i64_w, i32_w]
             rfl
            refine pure_ (i := 4) (N := some 118) (v := undef) (a' := ?_) #[true, true, true, true, true, false, false, false, false, false, false, false, false, false, false, false, false, false, false, false, false, false] rfl rfl (any_of HT_.out (by kernel_rfl)) (fun _ _ _ h => h) (Or.inr ⟨by rfl, rfl⟩) ?_ ?_
            rotate_left
            ·simp only [Act.put, sA, sB, sC, i64_w, i32_w]
             rfl
            refine pU HT_ 5 (some 119) ?_ #[true, true, true, true, true, true, false, false, false, false, false, false, false, false, false, false, false, false, false, false, false, false] rfl rfl ?_ ?_ ?_ ?_
            rotate_left
            ·intro w'
             go_simp
             with_reducible rfl
            rotate_left
            ·simp only [Act.put, sA, sB, sC, i64_w, i32_w]
             rfl
            refine pU HT_ 6 (some 120) ?_ #[true, true, true, true, true, true, true, false, false, false, false, false, false, false, false, false, false, false, false, false, false, false] rfl rfl ?_ ?_ ?_ ?_
            rotate_left
            ·intro w'
             go_simp
             with_reducible rfl
            rotate_left
            ·simp only [Act.put, sA, sB, sC, i64_w, i32_w]
             rfl
            refine pure_ (i := 7) (N := some 121) (v := undef) (a' := ?_) #[true, true, true, true, true, true, true, true, false, false, false, false, false, false, false, false, false, false, false, false, false, false] rfl rfl (any_of HT_.out (by kernel_rfl)) (fun _ _ _ h => h) (Or.inr ⟨by rfl, rfl⟩) ?_ ?_
            rotate_left
            ·simp only [Act.put, sA, sB, sC, i64_w, i32_w]
             rfl
            refine pure_ (i := 8) (N := some 122) (v := undef) (a' := ?_) #[true, true, true, true, true, true, true, true, true, false, false, false, false, false, false, false, false, false, false, false, false, false] rfl rfl (any_of HT_.out (by kernel_rfl)) (fun _ _ _ h => h) (Or.inr ⟨by rfl, rfl⟩) ?_ ?_
            rotate_left
            ·simp only [Act.put, sA, sB, sC, i64_w, i32_w]
             rfl
            refine pure_ (i := 9) (N := some 123) (v := undef) (a' := ?_) #[true, true, true, true, true, true, true, true, true, true, false, false, false, false, false, false, false, false, false, false, false, false] rfl rfl (any_of HT_.out (by kernel_rfl)) (fun _ _ _ h => h) (Or.inr ⟨by rfl, rfl⟩) ?_ ?_
            rotate_left
            ·simp only [Act.put, sA, sB, sC, i64_w, i32_w]
             rfl
            refine pure_ (i := 10) (N := some 124) (v := undef) (a' := ?_) #[true, true, true, true, true, true, true, true, true, true, true, false, false, false, false, false, false, false, false, false, false, false] rfl rfl (any_of HT_.out (by kernel_rfl)) (fun _ _ _ h => h) (Or.inr ⟨by rfl, rfl⟩) ?_ ?_
            rotate_left
            ·simp only [Act.put, sA, sB, sC, i64_w, i32_w]
             rfl
            refine pU HT_ 11 (some 125) ?_ #[true, true, true, true, true, true, true, true, true, true, true, true, false, false, false, false, false, false, false, false, false, false] rfl rfl ?_ ?_ ?_ ?_
            rotate_left
            ·intro w'
             go_simp
             with_reducible rfl
            rotate_left
            ·simp only [Act.put, sA, sB, sC, i64_w, i32_w]
             rfl
            refine pU HT_ 12 (some 126) ?_ #[true, true, true, true, true, true, true, true, true, true, true, true, true, false, false, false, false, false, false, false, false, false] rfl rfl ?_ ?_ ?_ ?_
            rotate_left
            ·intro w'
             go_simp
             with_reducible rfl
            rotate_left
            ·simp only [Act.put, sA, sB, sC, i64_w, i32_w]
             rfl
            refine pure_ (i := 13) (N := some 127) (v := undef) (a' := ?_) #[true, true, true, true, true, true, true, true, true, true, true, true, true, true, false, false, false, false, false, false, false, false] rfl rfl (any_of HT_.out (by kernel_rfl)) (fun _ _ _ h => h) (Or.inr ⟨by rfl, rfl⟩) ?_ ?_
            rotate_left
            ·simp only [Act.put, sA, sB, sC, i64_w, i32_w]
             rfl
            refine pure_ (i := 14) (N := some 128) (v := undef) (a' := ?_) #[true, true, true, true, true, true, true, true, true, true, true, true, true, true, true, false, false, false, false, false, false, false] rfl rfl (any_of HT_.out (by kernel_rfl)) (fun _ _ _ h => h) (Or.inr ⟨by rfl, rfl⟩) ?_ ?_
            rotate_left
            ·simp only [Act.put, sA, sB, sC, i64_w, i32_w]
             rfl
            refine pure_ (i := 15) (N := some 129) (v := undef) (a' := ?_) #[true, true, true, true, true, true, true, true, true, true, true, true, true, true, true, true, false, false, false, false, false, false] rfl rfl (any_of HT_.out (by kernel_rfl)) (fun _ _ _ h => h) (Or.inr ⟨by rfl, rfl⟩) ?_ ?_
            rotate_left
            ·simp only [Act.put, sA, sB, sC, i64_w, i32_w]
             rfl
            refine pure_ (i := 16) (N := some 130) (v := undef) (a' := ?_) #[true, true, true, true, true, true, true, true, true, true, true, true, true, true, true, true, true, false, false, false, false, false] rfl rfl (any_of HT_.out (by kernel_rfl)) (fun _ _ _ h => h) (Or.inr ⟨by rfl, rfl⟩) ?_ ?_
            rotate_left
            ·simp only [Act.put, sA, sB, sC, i64_w, i32_w]
             rfl
            refine pure_ (i := 17) (N := some 131) (v := undef) (a' := ?_) #[true, true, true, true, true, true, true, true, true, true, true, true, true, true, true, true, true, true, false, false, false, false] rfl rfl (any_of HT_.out (by kernel_rfl)) (fun _ _ _ h => h) (Or.inr ⟨by rfl, rfl⟩) ?_ ?_
            rotate_left
            ·simp only [Act.put, sA, sB, sC, i64_w, i32_w]
             rfl
            refine pure_ (i := 18) (N := some 132) (v := undef) (a' := ?_) #[true, true, true, true, true, true, true, true, true, true, true, true, true, true, true, true, true, true, true, false, false, false] rfl rfl (any_of HT_.out (by kernel_rfl)) (fun _ _ _ h => h) (Or.inr ⟨by rfl, rfl⟩) ?_ ?_
            rotate_left
            ·simp only [Act.put, sA, sB, sC, i64_w, i32_w]
             rfl
            refine pure_ (i := 19) (N := some 133) (v := undef) (a' := ?_) #[true, true, true, true, true, true, true, true, true, true, true, true, true, true, true, true, true, true, true, true, false, false] rfl rfl (any_of HT_.out (by kernel_rfl)) (fun _ _ _ h => h) (Or.inr ⟨by rfl, rfl⟩) ?_ ?_
            rotate_left
            ·simp only [Act.put, sA, sB, sC, i64_w, i32_w]
             rfl
            refine pure_ (i := 20) (N := some 134) (v := undef) (a' := ?_) #[true, true, true, true, true, true, true, true, true, true, true, true, true, true, true, true, true, true, true, true, true, false] rfl rfl (any_of HT_.out (by kernel_rfl)) (fun _ _ _ h => h) (Or.inr ⟨by rfl, rfl⟩) ?_ ?_
            rotate_left
            ·simp only [Act.put, sA, sB, sC, i64_w, i32_w]
             rfl
            refine pU HT_ 21 (some 135) ?_ #[true, true, true, true, true, true, true, true, true, true, true, true, true, true, true, true, true, true, true, true, true, true] rfl rfl ?_ ?_ ?_ ?_
            rotate_left
            ·intro w'
             go_simp
             with_reducible rfl
            rotate_left
            ·simp only [Act.put, sA, sB, sC, i64_w, i32_w]
             rfl
            refine done_ (done_of HT_.out (by kernel_rfl)) ?_
            try go_wp2
            go_meet
            case rel => exact ⟨_, (true), (by first | rfl | (simp; done) | (simp [*]; done)), H', ⟨by have := HK1.out; have := HJ5.out; have := HK3.out; first | omega | exact Nat.le_refl _⟩, ⟨by (with_reducible repeat (first | apply Kd.S_alloc | apply Kd.S_drewN | apply Kd.S_drew)); exact HO_6.out⟩, ⟨by (with_reducible repeat (first | apply Kd.R_alloc | apply Kd.R_drewN | apply Kd.R_drew)); exact HO386.out⟩, ⟨bK BK390.out⟩, ⟨bH HB.out⟩⟩
          case rest =>
           clear HC78; (try clear c1); (try clear c8); (try clear c9); (try clear c39); (try clear c84); (try clear c84b0); (try clear c84b1); (try clear c88b0); (try clear c92); (try clear c92b0); (try clear hx396_0); (try clear hx396_1); (try clear hx396_2); (try clear p396); (try clear q396); obtain ⟨kq, x135_77, rfl, HA, HJ77, HO_6, HO_391001, BK390, HB⟩ := hcut; cases kq with
           | zero => exact absurd HA.out (by simp [tallboylaw18_ReplyRow.j8])
           | succ kj77 =>
            have H := HA.out; clear HA; simp only [tallboylaw18_ReplyRow.j8] at H
            by_cases c101 : x135_77 = true
            ·subst c101; rw [if_pos rfl] at H; exact absurd H (by simp)
            ·replace c101 := Bool.eq_false_iff.mpr c101; subst c101; rw [if_neg (show ¬ (false = true) by decide)] at H
             by_cases c102 : 0 ≤ t388
             ·rw [if_pos c102] at H; have c102b0 := eq_true c102; have c102b1 : decide (0 ≤ t388) = true := decide_eq_true c102; clear c102
              by_cases c103 : t388 ≤ (x5_3.size : Int)
              ·rw [if_pos c103] at H; have c103b0 := eq_true c103; have c103b1 : decide (t388 ≤ (x5_3.size : Int)) = true := decide_eq_true c103; clear c103; have H' := Aside0.mk H; clear H; go_wp2
               go_roundg kj77
               case measure => have := HK1.out; have := HJ5.out; have := HK3.out; have := HJ77.out; omega
               case rel => exact ⟨(x5_3.extract (t388 : Int).toNat x5_3.size), (wrap64 (x12_3 + 1)), (by first | rfl | (simp; done) | (simp [*]; done)), (by first | rfl | (simp; done) | (simp [*]; done)), H', ⟨by have := HK1.out; have := HJ5.out; have := HK3.out; have := HJ77.out; omega⟩, ⟨by (with_reducible repeat (first | apply Kd.S_alloc | apply Kd.S_drewN | apply Kd.S_drew)); exact HO_6.out⟩, ⟨bH HB.out⟩⟩
              ·rw [if_neg c103] at H; exact absurd H (by simp)
             ·rw [if_neg c102] at H; exact absurd H (by simp)
         ·rw [if_neg c76] at H; have c76b0 : decide (x12_3 < (x6_1.length : Int)) = false := decide_eq_false c76; clear c76; obtain rfl := Option.some.inj H; obtain ⟨Ao104, co104, eo104⟩ := Kd.S_slice HO_6.out; subst eo104; go_wp2; go_ret
          exact ⟨xR, bH HB.out⟩
 ·replace c4 := Bool.eq_false_iff.mpr c4; subst c4; rw [if_neg (show ¬ (false = true) by decide)] at H; exact absurd H (by simp)

end Go.Proofs.YtdgpagocccabdaaDoor.P
