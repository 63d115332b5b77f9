/- Lean functions for the Go functions that the laws of this seat use, and the proofs that the Go code computes them; conditions: the readings that each theorem names. Written by a program. -/
import Derived.Test.YtdepkgikdmlgiaaPx0
import Derived.Test.YtdepkgikdmlgiaaPx24
import Derived.Test.YtdepkgikdmlgiaaPx26
import Derived.Test.YtdepkgikdmlgiaaPx27
import Derived.Test.YtdepkgikdmlgiaaShort
namespace Go.Proofs.Ytdepkgikdmlgiaa.P
open Go.RowKit Go.Proofs.YtdepkgikdmlgiaaW.PrintWords Go.Proofs.YtdepkgikdmlgiaaW.PrintLast Go.Proofs.YtdepkgikdmlgiaaW.PrintMore
set_option linter.unusedVariables false
set_option linter.unusedSimpArgs false

/-! ### verb_Check: function 51 -/
set_option maxHeartbeats 8000000 in
set_option maxRecDepth 100000 in
theorem verb_Check.calls (k : Nat) (a0_0 : Int) (A0_1 : Option Addr) (c0_1 : Nat) (l0_1 : List ByteArray) (a0_2 : Int) (a0_3 : Int) (a0_4 : ByteArray) (a0_5 : Int) (a0_6 : Int) (a0_7 : Bool) (r : Int) (w : World) (hr0_1 : Kd.C Kd.string w A0_1 l0_1.length l0_1) (hc0_1 : l0_1.length ≤ c0_1) (h : verb_Check.f k a0_0 l0_1 a0_2 a0_3 a0_4 a0_5 a0_6 a0_7 = some r) :
  Calls Try.prog 51 #[.agg #[.int .i64 a0_0, .slice A0_1 l0_1.length c0_1, .int .u32 a0_2, .int .i64 a0_3, .string a0_4, .int .u64 a0_5, .int .u64 a0_6, .bool a0_7]] w fun e w' => e = .returned (.int .i64 r) ∧ Below w.heap.size w w' := by
 have hu70 := Try.underlying70; have HR0_1 := Aside0.mk hr0_1; have HC0_1 := Aside0.mk hc0_1; clear hr0_1 hc0_1; have HB := Aside0.mk (Below.refl w.heap.size w); have H : ((verb_kind.f a0_0).bind fun t346 => (if t346 = true then ((verb_Stores.f a0_0).bind fun t348 => (if t348 = true then (verb_Check.j0 k a0_0 a0_0 l0_1 a0_2 a0_3 a0_4 a0_5 a0_6 a0_7 a0_0 l0_1 a0_2 a0_3 a0_4 a0_5 a0_6 a0_7) else (verb_Check.j0 k a0_0 a0_0 l0_1 a0_2 a0_3 a0_4 a0_5 a0_6 a0_7 a0_0 l0_1 a0_2 a0_3 (⟨#[]⟩ : ByteArray) a0_5 a0_6 a0_7))) else (some 70))) = some r := h; clear h; replace H := Option.bind_eq_some_iff.mp H; obtain ⟨t346, A20, H⟩ := H; (try dsimp only at H); have A2 := Aside0.mk A20; clear A20
 by_cases c3 : t346 = true
 ·subst c3; rw [if_pos rfl] at H; replace H := Option.bind_eq_some_iff.mp H; obtain ⟨t348, A40, H⟩ := H; (try dsimp only at H); have A4 := Aside0.mk A40; clear A40; have HC5 := Aside0.mk H; clear H; go_enter Try.func51, Try.ntmps51
  go_upto_if 15 with (first | ((with_reducible refine gate_dst (N := 1) rfl ?_); refine bE 1 #[.int .i64 a0_0, .slice A0_1 l0_1.length c0_1, .int .u32 a0_2, .int .i64 a0_3, .string a0_4, .int .u64 a0_5, .int .u64 a0_6, .bool a0_7] 70 rfl rfl ?_; intro gb345 hg w6 hbox hb; have BK345 := rM hbox; have GW345 := rG HB hg; replace HB := rS HB hb; have GE345 := GW345; clear hb hbox hg; obtain ⟨hcz7, hfz7⟩ := d8 BK345) | ((with_reducible refine gate_callee (f := 58) rfl ?_); refine gL (some 10) rfl rfl Try.func58 #[.int .i64 a0_0] rfl ?_; (with_reducible refine (verb_kind.calls a0_0 true _ A2.out).mono ?_); rintro e w' ⟨rfl, ⟨nd, rfl⟩⟩; refine ⟨_, rfl, ?_⟩; (try simp only [World.drewN_drewN]); (try (rw [drewN_self w6]; generalize hq_ : World.drewN w6 _ = w6; have n0_ := Aside0.mk (bQ BK345.out hq_); have n1_ := Aside0.mk (bF HB.out hq_); clear BK345 HB hq_; have BK345 := n0_; have HB := n1_; clear n0_ n1_; have hcr345_0 : w6.cell? ⟨gb345, 0, none⟩ = some (.int .i64 a0_0) := (blk_cell BK345.out 0).trans rfl; have hfr345_0 := blk_frozen BK345.out 0; have hcr345_1 : w6.cell? ⟨gb345, 1, none⟩ = some (.slice A0_1 l0_1.length c0_1) := (blk_cell BK345.out 1).trans rfl; have hfr345_1 := blk_frozen BK345.out 1; have hcr345_2 : w6.cell? ⟨gb345, 2, none⟩ = some (.int .u32 a0_2) := (blk_cell BK345.out 2).trans rfl; have hfr345_2 := blk_frozen BK345.out 2; have hcr345_3 : w6.cell? ⟨gb345, 3, none⟩ = some (.int .i64 a0_3) := (blk_cell BK345.out 3).trans rfl; have hfr345_3 := blk_frozen BK345.out 3; have hcr345_4 : w6.cell? ⟨gb345, 4, none⟩ = some (.string a0_4) := (blk_cell BK345.out 4).trans rfl; have hfr345_4 := blk_frozen BK345.out 4; have hcr345_5 : w6.cell? ⟨gb345, 5, none⟩ = some (.int .u64 a0_5) := (blk_cell BK345.out 5).trans rfl; have hfr345_5 := blk_frozen BK345.out 5; have hcr345_6 : w6.cell? ⟨gb345, 6, none⟩ = some (.int .u64 a0_6) := (blk_cell BK345.out 6).trans rfl; have hfr345_6 := blk_frozen BK345.out 6; have hcr345_7 : w6.cell? ⟨gb345, 7, none⟩ = some (.bool a0_7) := (blk_cell BK345.out 7).trans rfl; have hfr345_7 := blk_frozen BK345.out 7))) | ((with_reducible refine gate_dst (N := 4) rfl ?_); refine bE 4 #[.int .i64 0, .slice none 0 0, .int .u32 0, .int .i64 0, .string (⟨#[]⟩ : ByteArray), .int .u64 0, .int .u64 0, .bool false] 70 rfl rfl ?_; intro gb347 hg w8 hbox hb; have BK347 := rM hbox; have GW347 := rG HB hg; replace HB := rS HB hb; have GE347 := GW347; have NB345_347 := rN BK345 hg; replace BK345 := rB BK345 hb; have NB347_345 := rY NB345_347; clear hb hbox hg; have hnb9 := rP NB347_345 NB345_347; obtain ⟨hcz10, hfz10⟩ := d8 BK347) | ((with_reducible refine gate_callee (f := 59) rfl ?_); refine gL (some 14) rfl rfl Try.func59 #[.int .i64 a0_0] rfl ?_; (with_reducible refine (verb_Stores.calls a0_0 t348 _ A4.out).mono ?_); rintro e w' ⟨rfl, ⟨nd, rfl⟩⟩; refine ⟨_, rfl, ?_⟩))
  (try simp only [Act.put, sA, sB, sC])
  go_cut [] (fun wc => ∃ (kq : Nat) (z0 : ByteArray), Aside0 (verb_Check.j0 kq a0_0 a0_0 l0_1 a0_2 a0_3 a0_4 a0_5 a0_6 a0_7 a0_0 l0_1 a0_2 a0_3 z0 a0_5 a0_6 a0_7 = some r) ∧ Aside0 (kq ≤ k) ∧ Aside0 (wc.heap[gb345]? = some (.cells #[.int .i64 a0_0, (.slice A0_1 l0_1.length c0_1), .int .u32 a0_2, .int .i64 a0_3, .string a0_4, .int .u64 a0_5, .int .u64 a0_6, .bool a0_7] 70 (0, 0))) ∧ Aside0 (wc.heap[gb347]? = some (.cells #[.int .i64 a0_0, (.slice A0_1 l0_1.length c0_1), .int .u32 a0_2, .int .i64 a0_3, .string z0, .int .u64 a0_5, .int .u64 a0_6, .bool a0_7] 70 (0, 0))) ∧ Aside0 (Below w.heap.size w wc))
  case first =>
   have H := HC5.out; clear HC5
   by_cases c11 : t348 = true
   ·subst c11; rw [if_pos rfl] at H; have H' := Aside0.mk H; clear H; go_wp2
    go_meet
    case rel => exact ⟨_, (a0_4), H', ⟨by first | omega | exact Nat.le_refl _⟩, ⟨bK BK345.out⟩, ⟨bV BK347.out⟩, ⟨bH HB.out⟩⟩
   ·replace c11 := Bool.eq_false_iff.mpr c11; subst c11; rw [if_neg (show ¬ (false = true) by decide)] at H; have H' := Aside0.mk H; clear H; have hnb12 := rP NB347_345 NB345_347; obtain ⟨hcz13, hfz13⟩ := d8 BK347; go_wp2
    go_meet
    case rel => exact ⟨_, ((⟨#[]⟩ : ByteArray)), H', ⟨by first | omega | exact Nat.le_refl _⟩, ⟨bK BK345.out⟩, ⟨bV BK347.out⟩, ⟨bH HB.out⟩⟩
  case rest =>
   clear HC5; (try clear c3); (try clear c11); (try clear hcz10); (try clear hcz13); (try clear hcz7); (try clear hfz10); (try clear hfz13); (try clear hfz7); obtain ⟨kq, z0, HA, HJ4, BK345, BK347, HB⟩ := hcut; cases kq with
   | zero => exact absurd HA.out (by simp [verb_Check.j0])
   | succ kj4 =>
    have H := HA.out; clear HA; simp only [verb_Check.j0] at H; have HC14 := Aside0.mk H; clear H
    go_upto_region 7 with (fail)
    go_cut [24] (fun v24 wc => ∃ (kq : Nat) (x24_13 : Bool), v24 = .bool x24_13 ∧ Aside0 (verb_Check.j1 kq a0_0 x24_13 a0_0 l0_1 a0_2 a0_3 a0_4 a0_5 a0_6 a0_7 a0_0 l0_1 a0_2 a0_3 z0 a0_5 a0_6 a0_7 = some r) ∧ Aside0 (kq ≤ kj4) ∧ Aside0 (wc.heap[gb345]? = some (.cells #[.int .i64 a0_0, (.slice A0_1 l0_1.length c0_1), .int .u32 a0_2, .int .i64 a0_3, .string a0_4, .int .u64 a0_5, .int .u64 a0_6, .bool a0_7] 70 (0, 0))) ∧ Aside0 (wc.heap[gb347]? = some (.cells #[.int .i64 a0_0, (.slice A0_1 l0_1.length c0_1), .int .u32 a0_2, .int .i64 a0_3, .string z0, .int .u64 a0_5, .int .u64 a0_6, .bool a0_7] 70 (0, 0))) ∧ Aside0 (Below w.heap.size w wc))
    case first =>
     have H := HC14.out; clear HC14; replace H := Option.bind_eq_some_iff.mp H; obtain ⟨t349, A150, H⟩ := H; (try dsimp only at H); have A15 := Aside0.mk A150; clear A150
     by_cases c16 : t349 = true
     ·subst c16; rw [if_pos rfl] at H; replace H := Option.bind_eq_some_iff.mp H; obtain ⟨t350, A170, H⟩ := H; (try dsimp only at H); have A17 := Aside0.mk A170; clear A170; have H' := Aside0.mk H; clear H
      go_wp2_with (first | ((with_reducible refine gate_callee (f := 59) rfl ?_); refine gL (some 18) rfl rfl Try.func59 #[.int .i64 a0_0] rfl ?_; (with_reducible refine (verb_Stores.calls a0_0 true _ A15.out).mono ?_); rintro e w' ⟨rfl, ⟨nd, rfl⟩⟩; refine ⟨_, rfl, ?_⟩) | (go_at_call 60; (with_reducible refine (verb_ends.calls kj4 a0_0 t350 _ A17.out).mono ?_); rintro e w' ⟨rfl, ⟨nd, rfl⟩⟩))
      go_meet
      case rel => exact ⟨_, (!t350), (by first | rfl | (simp; done) | (simp [*]; done)), H', ⟨by have := HJ4.out; first | omega | exact Nat.le_refl _⟩, ⟨bK BK345.out⟩, ⟨bK BK347.out⟩, ⟨bH HB.out⟩⟩
     ·replace c16 := Bool.eq_false_iff.mpr c16; subst c16; rw [if_neg (show ¬ (false = true) by decide)] at H; have H' := Aside0.mk H; clear H
      go_wp2_with (first | ((with_reducible refine gate_callee (f := 59) rfl ?_); refine gL (some 18) rfl rfl Try.func59 #[.int .i64 a0_0] rfl ?_; (with_reducible refine (verb_Stores.calls a0_0 false _ A15.out).mono ?_); rintro e w' ⟨rfl, ⟨nd, rfl⟩⟩; refine ⟨_, rfl, ?_⟩))
      go_meet
      case rel => exact ⟨_, (true), (by first | rfl | (simp; done) | (simp [*]; done)), H', ⟨by have := HJ4.out; first | omega | exact Nat.le_refl _⟩, ⟨bK BK345.out⟩, ⟨bK BK347.out⟩, ⟨bH HB.out⟩⟩
    case rest =>
     clear HC14; (try clear c3); (try clear c11); (try clear c16); (try clear hcz10); (try clear hcz13); (try clear hcz7); (try clear hfz10); (try clear hfz13); (try clear hfz7); obtain ⟨kq, x24_13, rfl, HA, HJ13, BK345, BK347, HB⟩ := hcut; cases kq with
     | zero => exact absurd HA.out (by simp [verb_Check.j1])
     | succ kj13 =>
      have H := HA.out; clear HA; simp only [verb_Check.j1] at H; have HC18 := Aside0.mk H; clear H
      go_upto_if 24 with (fail)
      go_cut [] (fun wc => ∃ (kq : Nat) (z1 : Int), Aside0 (verb_Check.j2 kq a0_0 a0_0 l0_1 a0_2 a0_3 a0_4 a0_5 a0_6 a0_7 a0_0 l0_1 z1 a0_3 z0 a0_5 a0_6 a0_7 = some r) ∧ Aside0 (kq ≤ kj13) ∧ Aside0 (wc.heap[gb345]? = some (.cells #[.int .i64 a0_0, (.slice A0_1 l0_1.length c0_1), .int .u32 a0_2, .int .i64 a0_3, .string a0_4, .int .u64 a0_5, .int .u64 a0_6, .bool a0_7] 70 (0, 0))) ∧ Aside0 (wc.heap[gb347]? = some (.cells #[.int .i64 a0_0, (.slice A0_1 l0_1.length c0_1), .int .u32 z1, .int .i64 a0_3, .string z0, .int .u64 a0_5, .int .u64 a0_6, .bool a0_7] 70 (0, 0))) ∧ Aside0 (Below w.heap.size w wc))
      case first =>
       have H := HC18.out; clear HC18
       by_cases c19 : x24_13 = true
       ·subst c19; rw [if_pos rfl] at H; have H' := Aside0.mk H; clear H; have hnb20 := rP NB347_345 NB345_347; obtain ⟨hcz21, hfz21⟩ := d8 BK347; go_wp2
        go_meet
        case rel => exact ⟨_, (0), H', ⟨by have := HJ4.out; have := HJ13.out; first | omega | exact Nat.le_refl _⟩, ⟨bK BK345.out⟩, ⟨bV BK347.out⟩, ⟨bH HB.out⟩⟩
       ·replace c19 := Bool.eq_false_iff.mpr c19; subst c19; rw [if_neg (show ¬ (false = true) by decide)] at H; have H' := Aside0.mk H; clear H; go_wp2
        go_meet
        case rel => exact ⟨_, (a0_2), H', ⟨by have := HJ4.out; have := HJ13.out; first | omega | exact Nat.le_refl _⟩, ⟨bK BK345.out⟩, ⟨bK BK347.out⟩, ⟨bH HB.out⟩⟩
      case rest =>
       clear HC18; (try clear c3); (try clear c11); (try clear c16); (try clear c19); (try clear hcz10); (try clear hcz13); (try clear hcz21); (try clear hcz7); (try clear hfz10); (try clear hfz13); (try clear hfz21); (try clear hfz7); obtain ⟨kq, z1, HA, HJ17, BK345, BK347, HB⟩ := hcut; cases kq with
       | zero => exact absurd HA.out (by simp [verb_Check.j2])
       | succ kj17 =>
        have H := HA.out; clear HA; simp only [verb_Check.j2] at H; replace H := Option.bind_eq_some_iff.mp H; obtain ⟨t351, A220, H⟩ := H; (try dsimp only at H); have A22 := Aside0.mk A220; clear A220; have HC23 := Aside0.mk H; clear H
        go_upto_if 28 with (first | ((with_reducible refine gate_callee (f := 60) rfl ?_); refine gL (some 27) rfl rfl Try.func60 #[.int .i64 a0_0] rfl ?_; (with_reducible refine (verb_ends.calls kj17 a0_0 t351 _ A22.out).mono ?_); rintro e w' ⟨rfl, ⟨nd, rfl⟩⟩; refine ⟨_, rfl, ?_⟩))
        (try simp only [Act.put, sA, sB, sC])
        go_cut [] (fun wc => ∃ (kq : Nat) (z2 : Int), Aside0 (verb_Check.j3 kq a0_0 a0_0 l0_1 a0_2 a0_3 a0_4 a0_5 a0_6 a0_7 a0_0 l0_1 z1 z2 z0 a0_5 a0_6 a0_7 = some r) ∧ Aside0 (kq ≤ kj17) ∧ Aside0 (wc.heap[gb345]? = some (.cells #[.int .i64 a0_0, (.slice A0_1 l0_1.length c0_1), .int .u32 a0_2, .int .i64 a0_3, .string a0_4, .int .u64 a0_5, .int .u64 a0_6, .bool a0_7] 70 (0, 0))) ∧ Aside0 (wc.heap[gb347]? = some (.cells #[.int .i64 a0_0, (.slice A0_1 l0_1.length c0_1), .int .u32 z1, .int .i64 z2, .string z0, .int .u64 a0_5, .int .u64 a0_6, .bool a0_7] 70 (0, 0))) ∧ Aside0 (Below w.heap.size w wc))
        case first =>
         have H := HC23.out; clear HC23
         by_cases c24 : t351 = true
         ·subst c24; rw [if_pos rfl] at H; have H' := Aside0.mk H; clear H; go_wp2
          go_meet
          case rel => exact ⟨_, (a0_3), H', ⟨by have := HJ4.out; have := HJ13.out; have := HJ17.out; first | omega | exact Nat.le_refl _⟩, ⟨bK BK345.out⟩, ⟨bK BK347.out⟩, ⟨bH HB.out⟩⟩
         ·replace c24 := Bool.eq_false_iff.mpr c24; subst c24; rw [if_neg (show ¬ (false = true) by decide)] at H; have H' := Aside0.mk H; clear H; have hnb25 := rP NB347_345 NB345_347; obtain ⟨hcz26, hfz26⟩ := d8 BK347; go_wp2
          go_meet
          case rel => exact ⟨_, (0), H', ⟨by have := HJ4.out; have := HJ13.out; have := HJ17.out; first | omega | exact Nat.le_refl _⟩, ⟨bK BK345.out⟩, ⟨bV BK347.out⟩, ⟨bH HB.out⟩⟩
        case rest =>
         clear HC23; (try clear c3); (try clear c11); (try clear c16); (try clear c19); (try clear c24); (try clear hcz10); (try clear hcz13); (try clear hcz21); (try clear hcz26); (try clear hcz7); (try clear hfz10); (try clear hfz13); (try clear hfz21); (try clear hfz26); (try clear hfz7); obtain ⟨kq, z2, HA, HJ22, BK345, BK347, HB⟩ := hcut; cases kq with
         | zero => exact absurd HA.out (by simp [verb_Check.j3])
         | succ kj22 =>
          have H := HA.out; clear HA; simp only [verb_Check.j3] at H; have HC27 := Aside0.mk H; clear H
          go_upto_if 31 with (fail)
          go_cut [] (fun wc => ∃ (kq : Nat) (z3 : Int), Aside0 (verb_Check.j4 kq a0_0 a0_0 l0_1 a0_2 a0_3 a0_4 a0_5 a0_6 a0_7 a0_0 l0_1 z1 z2 z0 z3 a0_6 a0_7 = some r) ∧ Aside0 (kq ≤ kj22) ∧ Aside0 (wc.heap[gb345]? = some (.cells #[.int .i64 a0_0, (.slice A0_1 l0_1.length c0_1), .int .u32 a0_2, .int .i64 a0_3, .string a0_4, .int .u64 a0_5, .int .u64 a0_6, .bool a0_7] 70 (0, 0))) ∧ Aside0 (wc.heap[gb347]? = some (.cells #[.int .i64 a0_0, (.slice A0_1 l0_1.length c0_1), .int .u32 z1, .int .i64 z2, .string z0, .int .u64 z3, .int .u64 a0_6, .bool a0_7] 70 (0, 0))) ∧ Aside0 (Below w.heap.size w wc))
          case first =>
           have H := HC27.out; clear HC27
           by_cases c28 : a0_0 = 10
           ·rw [if_pos c28] at H; have c28b0 : (a0_0 == 10) = true := beq_iff_eq.mpr c28; have c28b1 : (a0_0 != 10) = false := bne_eq_false_iff_eq.mpr c28; clear c28
            (first | rw [c28b0] | (simp only [i64_w, i32_w]; rw [c28b0]) | skip)
            have H' := Aside0.mk H; clear H; go_wp2
            go_meet
            case rel => exact ⟨_, (a0_5), H', ⟨by have := HJ4.out; have := HJ13.out; have := HJ17.out; have := HJ22.out; first | omega | exact Nat.le_refl _⟩, ⟨bK BK345.out⟩, ⟨bK BK347.out⟩, ⟨bH HB.out⟩⟩
           ·rw [if_neg c28] at H; have c28b0 : (a0_0 == 10) = false := beq_eq_false_iff_ne.mpr c28; have c28b1 : (a0_0 != 10) = true := bne_iff_ne.mpr c28
            (first | rw [c28b0] | (simp only [i64_w, i32_w]; rw [c28b0]) | skip)
            have H' := Aside0.mk H; clear H; have hnb29 := rP NB347_345 NB345_347; obtain ⟨hcz30, hfz30⟩ := d8 BK347; go_wp2
            go_meet
            case rel => exact ⟨_, (0), H', ⟨by have := HJ4.out; have := HJ13.out; have := HJ17.out; have := HJ22.out; first | omega | exact Nat.le_refl _⟩, ⟨bK BK345.out⟩, ⟨bV BK347.out⟩, ⟨bH HB.out⟩⟩
          case rest =>
           clear HC27; (try clear c3); (try clear c11); (try clear c16); (try clear c19); (try clear c24); (try clear c28); (try clear c28b0); (try clear c28b1); (try clear hcz10); (try clear hcz13); (try clear hcz21); (try clear hcz26); (try clear hcz30); (try clear hcz7); (try clear hfz10); (try clear hfz13); (try clear hfz21); (try clear hfz26); (try clear hfz30); (try clear hfz7); obtain ⟨kq, z3, HA, HJ26, BK345, BK347, HB⟩ := hcut; cases kq with
           | zero => exact absurd HA.out (by simp [verb_Check.j4])
           | succ kj26 =>
            have H := HA.out; clear HA; simp only [verb_Check.j4] at H; have HC31 := Aside0.mk H; clear H
            go_upto_region 13 with (fail)
            go_cut [38] (fun v38 wc => ∃ (kq : Nat) (x38_30 : Bool), v38 = .bool x38_30 ∧ Aside0 (verb_Check.j5 kq a0_0 x38_30 a0_0 l0_1 a0_2 a0_3 a0_4 a0_5 a0_6 a0_7 a0_0 l0_1 z1 z2 z0 z3 a0_6 a0_7 = some r) ∧ Aside0 (kq ≤ kj26) ∧ Aside0 (wc.heap[gb345]? = some (.cells #[.int .i64 a0_0, (.slice A0_1 l0_1.length c0_1), .int .u32 a0_2, .int .i64 a0_3, .string a0_4, .int .u64 a0_5, .int .u64 a0_6, .bool a0_7] 70 (0, 0))) ∧ Aside0 (wc.heap[gb347]? = some (.cells #[.int .i64 a0_0, (.slice A0_1 l0_1.length c0_1), .int .u32 z1, .int .i64 z2, .string z0, .int .u64 z3, .int .u64 a0_6, .bool a0_7] 70 (0, 0))) ∧ Aside0 (Below w.heap.size w wc))
            case first =>
             have H := HC31.out; clear HC31
             by_cases c32 : a0_0 = 12
             ·rw [if_pos c32] at H; have c32b0 : (a0_0 == 12) = true := beq_iff_eq.mpr c32; have c32b1 : (a0_0 != 12) = false := bne_eq_false_iff_eq.mpr c32; clear c32
              (first | rw [c32b0] | (simp only [i64_w, i32_w]; rw [c32b0]) | skip)
              have H' := Aside0.mk H; clear H; go_wp2
              go_meet
              case rel => exact ⟨_, (false), (by first | rfl | (simp; done) | (simp [*]; done)), H', ⟨by have := HJ4.out; have := HJ13.out; have := HJ17.out; have := HJ22.out; have := HJ26.out; first | omega | exact Nat.le_refl _⟩, ⟨bK BK345.out⟩, ⟨bK BK347.out⟩, ⟨bH HB.out⟩⟩
             ·rw [if_neg c32] at H; have c32b0 : (a0_0 == 12) = false := beq_eq_false_iff_ne.mpr c32; have c32b1 : (a0_0 != 12) = true := bne_iff_ne.mpr c32
              (first | rw [c32b0] | (simp only [i64_w, i32_w]; rw [c32b0]) | skip)
              have H' := Aside0.mk H; clear H; go_wp2
              go_meet
              case rel => exact ⟨_, ((a0_0 != 13)), (by first | rfl | (simp; done) | (simp [*]; done)), H', ⟨by have := HJ4.out; have := HJ13.out; have := HJ17.out; have := HJ22.out; have := HJ26.out; first | omega | exact Nat.le_refl _⟩, ⟨bK BK345.out⟩, ⟨bK BK347.out⟩, ⟨bH HB.out⟩⟩
            case rest =>
             clear HC31; (try clear c3); (try clear c11); (try clear c16); (try clear c19); (try clear c24); (try clear c28); (try clear c28b0); (try clear c28b1); (try clear c32); (try clear c32b0); (try clear c32b1); (try clear hcz10); (try clear hcz13); (try clear hcz21); (try clear hcz26); (try clear hcz30); (try clear hcz7); (try clear hfz10); (try clear hfz13); (try clear hfz21); (try clear hfz26); (try clear hfz30); (try clear hfz7); obtain ⟨kq, x38_30, rfl, HA, HJ30, BK345, BK347, HB⟩ := hcut; cases kq with
             | zero => exact absurd HA.out (by simp [verb_Check.j5])
             | succ kj30 =>
              have H := HA.out; clear HA; simp only [verb_Check.j5] at H; have HC33 := Aside0.mk H; clear H
              go_upto_if 38 with (fail)
              go_cut [] (fun wc => ∃ (kq : Nat) (z4 : Int), Aside0 (verb_Check.j6 kq a0_0 a0_0 l0_1 a0_2 a0_3 a0_4 a0_5 a0_6 a0_7 a0_0 l0_1 z1 z2 z0 z3 z4 a0_7 = some r) ∧ Aside0 (kq ≤ kj30) ∧ Aside0 (wc.heap[gb345]? = some (.cells #[.int .i64 a0_0, (.slice A0_1 l0_1.length c0_1), .int .u32 a0_2, .int .i64 a0_3, .string a0_4, .int .u64 a0_5, .int .u64 a0_6, .bool a0_7] 70 (0, 0))) ∧ Aside0 (wc.heap[gb347]? = some (.cells #[.int .i64 a0_0, (.slice A0_1 l0_1.length c0_1), .int .u32 z1, .int .i64 z2, .string z0, .int .u64 z3, .int .u64 z4, .bool a0_7] 70 (0, 0))) ∧ Aside0 (Below w.heap.size w wc))
              case first =>
               have H := HC33.out; clear HC33
               by_cases c34 : x38_30 = true
               ·subst c34; rw [if_pos rfl] at H; have H' := Aside0.mk H; clear H; have hnb35 := rP NB347_345 NB345_347; obtain ⟨hcz36, hfz36⟩ := d8 BK347; go_wp2
                go_meet
                case rel => exact ⟨_, (0), H', ⟨by have := HJ4.out; have := HJ13.out; have := HJ17.out; have := HJ22.out; have := HJ26.out; have := HJ30.out; first | omega | exact Nat.le_refl _⟩, ⟨bK BK345.out⟩, ⟨bV BK347.out⟩, ⟨bH HB.out⟩⟩
               ·replace c34 := Bool.eq_false_iff.mpr c34; subst c34; rw [if_neg (show ¬ (false = true) by decide)] at H; have H' := Aside0.mk H; clear H; go_wp2
                go_meet
                case rel => exact ⟨_, (a0_6), H', ⟨by have := HJ4.out; have := HJ13.out; have := HJ17.out; have := HJ22.out; have := HJ26.out; have := HJ30.out; first | omega | exact Nat.le_refl _⟩, ⟨bK BK345.out⟩, ⟨bK BK347.out⟩, ⟨bH HB.out⟩⟩
              case rest =>
               clear HC33; (try clear c3); (try clear c11); (try clear c16); (try clear c19); (try clear c24); (try clear c28); (try clear c28b0); (try clear c28b1); (try clear c32); (try clear c32b0); (try clear c32b1); (try clear c34); (try clear hcz10); (try clear hcz13); (try clear hcz21); (try clear hcz26); (try clear hcz30); (try clear hcz36); (try clear hcz7); (try clear hfz10); (try clear hfz13); (try clear hfz21); (try clear hfz26); (try clear hfz30); (try clear hfz36); (try clear hfz7); obtain ⟨kq, z4, HA, HJ32, BK345, BK347, HB⟩ := hcut; cases kq with
               | zero => exact absurd HA.out (by simp [verb_Check.j6])
               | succ kj32 =>
                have H := HA.out; clear HA; simp only [verb_Check.j6] at H; replace H := Option.bind_eq_some_iff.mp H; obtain ⟨t352, A370, H⟩ := H; (try dsimp only at H); have A37 := Aside0.mk A370; clear A370; have HC38 := Aside0.mk H; clear H
                go_upto_if 41 with (first | ((with_reducible refine gate_callee (f := 61) rfl ?_); refine gL (some 41) rfl rfl Try.func61 #[.int .i64 a0_0] rfl ?_; (with_reducible refine (verb_reads.calls a0_0 t352 _ A37.out).mono ?_); rintro e w' ⟨rfl, ⟨nd, rfl⟩⟩; refine ⟨_, rfl, ?_⟩))
                (try simp only [Act.put, sA, sB, sC])
                go_cut [] (fun wc => ∃ (kq : Nat) (z5 : Bool), Aside0 (verb_Check.j7 kq a0_0 a0_0 l0_1 a0_2 a0_3 a0_4 a0_5 a0_6 a0_7 a0_0 l0_1 z1 z2 z0 z3 z4 z5 = some r) ∧ Aside0 (kq ≤ kj32) ∧ Aside0 (wc.heap[gb345]? = some (.cells #[.int .i64 a0_0, (.slice A0_1 l0_1.length c0_1), .int .u32 a0_2, .int .i64 a0_3, .string a0_4, .int .u64 a0_5, .int .u64 a0_6, .bool a0_7] 70 (0, 0))) ∧ Aside0 (wc.heap[gb347]? = some (.cells #[.int .i64 a0_0, (.slice A0_1 l0_1.length c0_1), .int .u32 z1, .int .i64 z2, .string z0, .int .u64 z3, .int .u64 z4, .bool z5] 70 (0, 0))) ∧ Aside0 (Below w.heap.size w wc))
                case first =>
                 have H := HC38.out; clear HC38
                 by_cases c39 : t352 = true
                 ·subst c39; rw [if_pos rfl] at H; have H' := Aside0.mk H; clear H; have hnb40 := rP NB347_345 NB345_347; obtain ⟨hcz41, hfz41⟩ := d8 BK347; go_wp2
                  go_meet
                  case rel => exact ⟨_, (false), H', ⟨by have := HJ4.out; have := HJ13.out; have := HJ17.out; have := HJ22.out; have := HJ26.out; have := HJ30.out; have := HJ32.out; first | omega | exact Nat.le_refl _⟩, ⟨bK BK345.out⟩, ⟨bV BK347.out⟩, ⟨bH HB.out⟩⟩
                 ·replace c39 := Bool.eq_false_iff.mpr c39; subst c39; rw [if_neg (show ¬ (false = true) by decide)] at H; have H' := Aside0.mk H; clear H; go_wp2
                  go_meet
                  case rel => exact ⟨_, (a0_7), H', ⟨by have := HJ4.out; have := HJ13.out; have := HJ17.out; have := HJ22.out; have := HJ26.out; have := HJ30.out; have := HJ32.out; first | omega | exact Nat.le_refl _⟩, ⟨bK BK345.out⟩, ⟨bK BK347.out⟩, ⟨bH HB.out⟩⟩
                case rest =>
                 clear HC38; (try clear c3); (try clear c11); (try clear c16); (try clear c19); (try clear c24); (try clear c28); (try clear c28b0); (try clear c28b1); (try clear c32); (try clear c32b0); (try clear c32b1); (try clear c34); (try clear c39); (try clear hcz10); (try clear hcz13); (try clear hcz21); (try clear hcz26); (try clear hcz30); (try clear hcz36); (try clear hcz41); (try clear hcz7); (try clear hfz10); (try clear hfz13); (try clear hfz21); (try clear hfz26); (try clear hfz30); (try clear hfz36); (try clear hfz41); (try clear hfz7)
                 (try clear hfz7); obtain ⟨kq, z5, HA, HJ37, BK345, BK347, HB⟩ := hcut; cases kq with
                 | zero => exact absurd HA.out (by simp [verb_Check.j7])
                 | succ kj37 =>
                  have H := HA.out; clear HA; simp only [verb_Check.j7] at H; have HC42 := Aside0.mk H; clear H
                  go_upto_region 17 with (fail)
                  go_cut [5] (fun v5 wc => ∃ (kq : Nat) (x5_41 : Bool), v5 = .bool x5_41 ∧ Aside0 (verb_Check.j8 kq a0_0 x5_41 a0_0 l0_1 a0_2 a0_3 a0_4 a0_5 a0_6 a0_7 = some r) ∧ Aside0 (kq ≤ kj37) ∧ Aside0 (wc.heap[gb345]? = some (.cells #[.int .i64 a0_0, (.slice A0_1 l0_1.length c0_1), .int .u32 a0_2, .int .i64 a0_3, .string a0_4, .int .u64 a0_5, .int .u64 a0_6, .bool a0_7] 70 (0, 0))) ∧ Aside0 (wc.heap[gb347]? = some (.cells #[.int .i64 a0_0, (.slice A0_1 l0_1.length c0_1), .int .u32 z1, .int .i64 z2, .string z0, .int .u64 z3, .int .u64 z4, .bool z5] 70 (0, 0))) ∧ Aside0 (Below w.heap.size w wc))
                  case first =>
                   have H := HC42.out; clear HC42
                   by_cases c43 : z1 = a0_2
                   ·rw [if_pos c43] at H; have c43b0 : (z1 == a0_2) = true := beq_iff_eq.mpr c43; have c43b1 : (z1 != a0_2) = false := bne_eq_false_iff_eq.mpr c43; clear c43
                    (first | rw [c43b0] | (simp only [i64_w, i32_w]; rw [c43b0]) | skip)
                    by_cases c44 : z0.toList = a0_4.toList
                    ·rw [if_pos c44] at H; have c44b0 : (z0.toList == a0_4.toList) = true := beq_iff_eq.mpr c44; have c44b1 : (z0.toList != a0_4.toList) = false := bne_eq_false_iff_eq.mpr c44; clear c44
                     by_cases c45 : z2 = a0_3
                     ·rw [if_pos c45] at H; have c45b0 : (z2 == a0_3) = true := beq_iff_eq.mpr c45; have c45b1 : (z2 != a0_3) = false := bne_eq_false_iff_eq.mpr c45; clear c45
                      by_cases c46 : z3 = a0_5
                      ·rw [if_pos c46] at H; have c46b0 : (z3 == a0_5) = true := beq_iff_eq.mpr c46; have c46b1 : (z3 != a0_5) = false := bne_eq_false_iff_eq.mpr c46; clear c46
                       by_cases c47 : z4 = a0_6
                       ·rw [if_pos c47] at H; have c47b0 : (z4 == a0_6) = true := beq_iff_eq.mpr c47; have c47b1 : (z4 != a0_6) = false := bne_eq_false_iff_eq.mpr c47; clear c47; have H' := Aside0.mk H; clear H; have hnb48 := rP NB347_345 NB345_347; obtain ⟨hcz49, hfz49⟩ := d8 BK347; obtain ⟨hcz50, hfz50⟩ := d8 BK345; go_wp2
                        go_meet
                        case rel => exact ⟨_, ((z5 == a0_7)), (by first | rfl | (simp; done) | (simp [*]; done)), H', ⟨by have := HJ4.out; have := HJ13.out; have := HJ17.out; have := HJ22.out; have := HJ26.out; have := HJ30.out; have := HJ32.out; have := HJ37.out; first | omega | exact Nat.le_refl _⟩, ⟨bK BK345.out⟩, ⟨bK BK347.out⟩, ⟨bH HB.out⟩⟩
                       ·rw [if_neg c47] at H; have c47b0 : (z4 == a0_6) = false := beq_eq_false_iff_ne.mpr c47; have c47b1 : (z4 != a0_6) = true := bne_iff_ne.mpr c47; have H' := Aside0.mk H; clear H; have hnb51 := rP NB347_345 NB345_347; obtain ⟨hcz52, hfz52⟩ := d8 BK347; obtain ⟨hcz53, hfz53⟩ := d8 BK345; go_wp2
                        go_meet
                        case rel => exact ⟨_, (false), (by first | rfl | (simp; done) | (simp [*]; done)), H', ⟨by have := HJ4.out; have := HJ13.out; have := HJ17.out; have := HJ22.out; have := HJ26.out; have := HJ30.out; have := HJ32.out; have := HJ37.out; first | omega | exact Nat.le_refl _⟩, ⟨bK BK345.out⟩, ⟨bK BK347.out⟩, ⟨bH HB.out⟩⟩
                      ·rw [if_neg c46] at H; have c46b0 : (z3 == a0_5) = false := beq_eq_false_iff_ne.mpr c46; have c46b1 : (z3 != a0_5) = true := bne_iff_ne.mpr c46; have H' := Aside0.mk H; clear H; have hnb54 := rP NB347_345 NB345_347; obtain ⟨hcz55, hfz55⟩ := d8 BK347; obtain ⟨hcz56, hfz56⟩ := d8 BK345; go_wp2
                       go_meet
                       case rel => exact ⟨_, (false), (by first | rfl | (simp; done) | (simp [*]; done)), H', ⟨by have := HJ4.out; have := HJ13.out; have := HJ17.out; have := HJ22.out; have := HJ26.out; have := HJ30.out; have := HJ32.out; have := HJ37.out; first | omega | exact Nat.le_refl _⟩, ⟨bK BK345.out⟩, ⟨bK BK347.out⟩, ⟨bH HB.out⟩⟩
                     ·rw [if_neg c45] at H; have c45b0 : (z2 == a0_3) = false := beq_eq_false_iff_ne.mpr c45; have c45b1 : (z2 != a0_3) = true := bne_iff_ne.mpr c45; have H' := Aside0.mk H; clear H; have hnb57 := rP NB347_345 NB345_347; obtain ⟨hcz58, hfz58⟩ := d8 BK347; obtain ⟨hcz59, hfz59⟩ := d8 BK345; go_wp2
                      go_meet
                      case rel => exact ⟨_, (false), (by first | rfl | (simp; done) | (simp [*]; done)), H', ⟨by have := HJ4.out; have := HJ13.out; have := HJ17.out; have := HJ22.out; have := HJ26.out; have := HJ30.out; have := HJ32.out; have := HJ37.out; first | omega | exact Nat.le_refl _⟩, ⟨bK BK345.out⟩, ⟨bK BK347.out⟩, ⟨bH HB.out⟩⟩
                    ·rw [if_neg c44] at H; have c44b0 : (z0.toList == a0_4.toList) = false := beq_eq_false_iff_ne.mpr c44; have c44b1 : (z0.toList != a0_4.toList) = true := bne_iff_ne.mpr c44; have H' := Aside0.mk H; clear H; have hnb60 := rP NB347_345 NB345_347; obtain ⟨hcz61, hfz61⟩ := d8 BK347; obtain ⟨hcz62, hfz62⟩ := d8 BK345; go_wp2
                     go_meet
                     case rel => exact ⟨_, (false), (by first | rfl | (simp; done) | (simp [*]; done)), H', ⟨by have := HJ4.out; have := HJ13.out; have := HJ17.out; have := HJ22.out; have := HJ26.out; have := HJ30.out; have := HJ32.out; have := HJ37.out; first | omega | exact Nat.le_refl _⟩, ⟨bK BK345.out⟩, ⟨bK BK347.out⟩, ⟨bH HB.out⟩⟩
                   ·rw [if_neg c43] at H; have c43b0 : (z1 == a0_2) = false := beq_eq_false_iff_ne.mpr c43; have c43b1 : (z1 != a0_2) = true := bne_iff_ne.mpr c43
                    (first | rw [c43b0] | (simp only [i64_w, i32_w]; rw [c43b0]) | skip)
                    have H' := Aside0.mk H; clear H; have hnb63 := rP NB347_345 NB345_347; obtain ⟨hcz64, hfz64⟩ := d8 BK347; obtain ⟨hcz65, hfz65⟩ := d8 BK345; go_wp2
                    go_meet
                    case rel => exact ⟨_, (false), (by first | rfl | (simp; done) | (simp [*]; done)), H', ⟨by have := HJ4.out; have := HJ13.out; have := HJ17.out; have := HJ22.out; have := HJ26.out; have := HJ30.out; have := HJ32.out; have := HJ37.out; first | omega | exact Nat.le_refl _⟩, ⟨bK BK345.out⟩, ⟨bK BK347.out⟩, ⟨bH HB.out⟩⟩
                  case rest =>
                   clear HC42; (try clear c3); (try clear c11); (try clear c16); (try clear c19); (try clear c24); (try clear c28); (try clear c28b0); (try clear c28b1); (try clear c32); (try clear c32b0); (try clear c32b1); (try clear c34); (try clear c39); (try clear c43); (try clear c43b0); (try clear c43b1); (try clear c44); (try clear c44b0); (try clear c44b1); (try clear c45); (try clear c45b0); (try clear c45b1); (try clear c46); (try clear c46b0); (try clear c46b1); (try clear c47); (try clear c47b0); (try clear c47b1); (try clear hcz10); (try clear hcz13); (try clear hcz21); (try clear hcz26); (try clear hcz30); (try clear hcz36); (try clear hcz41); (try clear hcz49); (try clear hcz50); (try clear hcz52); (try clear hcz53); (try clear hcz55); (try clear hcz56)
                   (try clear hcz56); (try clear hcz58); (try clear hcz59); (try clear hcz61); (try clear hcz62); (try clear hcz64); (try clear hcz65); (try clear hcz7); (try clear hfz10); (try clear hfz13); (try clear hfz21); (try clear hfz26); (try clear hfz30); (try clear hfz36); (try clear hfz41); (try clear hfz49); (try clear hfz50); (try clear hfz52); (try clear hfz53)
                   (try clear hfz53); (try clear hfz55); (try clear hfz56); (try clear hfz58); (try clear hfz59); (try clear hfz61); (try clear hfz62); (try clear hfz64); (try clear hfz65); (try clear hfz7); obtain ⟨kq, x5_41, rfl, HA, HJ41, BK345, BK347, HB⟩ := hcut; cases kq with
                   | zero => exact absurd HA.out (by simp [verb_Check.j8])
                   | succ kj41 =>
                    have H := HA.out; clear HA; simp only [verb_Check.j8] at H; have HC66 := Aside0.mk H; clear H
                    go_upto_if 83 with (fail)
                    go_cut [83] (fun v83 wc => ∃ (kq : Nat) (x83_65 : Bool), v83 = .bool x83_65 ∧ Aside0 (verb_Check.j9 kq x83_65 a0_0 l0_1 a0_2 a0_3 a0_4 a0_5 a0_6 a0_7 = some r) ∧ Aside0 (kq ≤ kj41) ∧ Aside0 (wc.heap[gb345]? = some (.cells #[.int .i64 a0_0, (.slice A0_1 l0_1.length c0_1), .int .u32 a0_2, .int .i64 a0_3, .string a0_4, .int .u64 a0_5, .int .u64 a0_6, .bool a0_7] 70 (0, 0))) ∧ Aside0 (wc.heap[gb347]? = some (.cells #[.int .i64 a0_0, (.slice A0_1 l0_1.length c0_1), .int .u32 z1, .int .i64 z2, .string z0, .int .u64 z3, .int .u64 z4, .bool z5] 70 (0, 0))) ∧ Aside0 (Below w.heap.size w wc))
                    case first =>
                     have H := HC66.out; clear HC66
                     by_cases c67 : x5_41 = true
                     ·subst c67; rw [if_pos rfl] at H; replace H := Option.bind_eq_some_iff.mp H; obtain ⟨t353, A680, H⟩ := H; (try dsimp only at H); have A68 := Aside0.mk A680; clear A680
                      by_cases c69 : t353 = true
                      ·subst c69; rw [if_pos rfl] at H; replace H := Option.bind_eq_some_iff.mp H; obtain ⟨t354, A700, H⟩ := H; (try dsimp only at H); have A70 := Aside0.mk A700; clear A700; have H' := Aside0.mk H; clear H; have hnb71 := rP NB345_347 NB347_345; obtain ⟨hcz72, hfz72⟩ := d8 BK345
                       go_wp2_with (first | ((with_reducible refine gate_callee (f := 64) rfl ?_); refine gL (some 90) rfl rfl Try.func64 #[.int .i64 a0_0, .int .i64 (l0_1.length : Int)] rfl ?_; (with_reducible refine (verb_keys.calls a0_0 (l0_1.length : Int) true _ A68.out).mono ?_); rintro e w' ⟨rfl, ⟨nd, rfl⟩⟩; refine ⟨_, rfl, ?_⟩) | ((with_reducible refine gate_callee (f := 65) rfl ?_); refine gL (some 95) rfl rfl Try.func65 #[.slice A0_1 l0_1.length c0_1, .func (.func 62) #[] #[]] rfl ?_; (with_reducible refine (slices_ContainsFunc_string_string.calls kj41 _ _ l0_1 t354 _ ?side1 ?side2 A70.out).mono ?_); (case side1 => repeat (first | exact (Kd.C_below HR0_1.out (bH HB.out)) | (with_reducible refine Kd.C_alloc ?_ _) | (with_reducible refine Kd.C_drewN ?_ _) | (with_reducible refine Kd.C_drew ?_))); (case side2 => exact HC0_1.out); rintro e w' ⟨rfl, ⟨nd, rfl⟩⟩; refine ⟨_, rfl, ?_⟩))
                       go_meet
                       case rel => exact ⟨_, (t354), (by first | rfl | (simp; done) | (simp [*]; done)), H', ⟨by have := HJ4.out; have := HJ13.out; have := HJ17.out; have := HJ22.out; have := HJ26.out; have := HJ30.out; have := HJ32.out; have := HJ37.out; have := HJ41.out; first | omega | exact Nat.le_refl _⟩, ⟨bK BK345.out⟩, ⟨bK BK347.out⟩, ⟨bH HB.out⟩⟩
                      ·replace c69 := Bool.eq_false_iff.mpr c69; subst c69; rw [if_neg (show ¬ (false = true) by decide)] at H; have H' := Aside0.mk H; clear H; have hnb73 := rP NB345_347 NB347_345; obtain ⟨hcz74, hfz74⟩ := d8 BK345
                       go_wp2_with (first | ((with_reducible refine gate_callee (f := 64) rfl ?_); refine gL (some 90) rfl rfl Try.func64 #[.int .i64 a0_0, .int .i64 (l0_1.length : Int)] rfl ?_; (with_reducible refine (verb_keys.calls a0_0 (l0_1.length : Int) false _ A68.out).mono ?_); rintro e w' ⟨rfl, ⟨nd, rfl⟩⟩; refine ⟨_, rfl, ?_⟩))
                       go_meet
                       case rel => exact ⟨_, (!false), (by first | rfl | (simp; done) | (simp [*]; done)), H', ⟨by have := HJ4.out; have := HJ13.out; have := HJ17.out; have := HJ22.out; have := HJ26.out; have := HJ30.out; have := HJ32.out; have := HJ37.out; have := HJ41.out; first | omega | exact Nat.le_refl _⟩, ⟨bK BK345.out⟩, ⟨bK BK347.out⟩, ⟨bH HB.out⟩⟩
                     ·replace c67 := Bool.eq_false_iff.mpr c67; subst c67; rw [if_neg (show ¬ (false = true) by decide)] at H; have H' := Aside0.mk H; clear H; go_wp2
                      go_meet
                      case rel => exact ⟨_, (!false), (by first | rfl | (simp; done) | (simp [*]; done)), H', ⟨by have := HJ4.out; have := HJ13.out; have := HJ17.out; have := HJ22.out; have := HJ26.out; have := HJ30.out; have := HJ32.out; have := HJ37.out; have := HJ41.out; first | omega | exact Nat.le_refl _⟩, ⟨bK BK345.out⟩, ⟨bK BK347.out⟩, ⟨bH HB.out⟩⟩
                    case rest =>
                     clear HC66; (try clear c3); (try clear c11); (try clear c16); (try clear c19); (try clear c24); (try clear c28); (try clear c28b0); (try clear c28b1); (try clear c32); (try clear c32b0); (try clear c32b1); (try clear c34); (try clear c39); (try clear c43); (try clear c43b0); (try clear c43b1); (try clear c44); (try clear c44b0); (try clear c44b1); (try clear c45); (try clear c45b0); (try clear c45b1); (try clear c46); (try clear c46b0); (try clear c46b1); (try clear c47); (try clear c47b0); (try clear c47b1); (try clear c67); (try clear c69); (try clear hcz10); (try clear hcz13); (try clear hcz21); (try clear hcz26); (try clear hcz30); (try clear hcz36); (try clear hcz41); (try clear hcz49); (try clear hcz50); (try clear hcz52); (try clear hcz53); (try clear hcz55)
                     (try clear hcz56); (try clear hcz58); (try clear hcz59); (try clear hcz61); (try clear hcz62); (try clear hcz64); (try clear hcz65); (try clear hcz72); (try clear hcz74); (try clear hcz7); (try clear hfz10); (try clear hfz13); (try clear hfz21); (try clear hfz26); (try clear hfz30); (try clear hfz36); (try clear hfz41); (try clear hfz49)
                     (try clear hfz49); (try clear hfz50); (try clear hfz52); (try clear hfz53); (try clear hfz55); (try clear hfz56); (try clear hfz58); (try clear hfz59); (try clear hfz61); (try clear hfz62); (try clear hfz64); (try clear hfz65); (try clear hfz72); (try clear hfz74); (try clear hfz7); obtain ⟨kq, x83_65, rfl, HA, HJ65, BK345, BK347, HB⟩ := hcut; cases kq with
                     | zero => exact absurd HA.out (by simp [verb_Check.j9])
                     | succ kj65 =>
                      have H := HA.out; clear HA; simp only [verb_Check.j9] at H
                      by_cases c75 : x83_65 = true
                      ·subst c75; rw [if_pos rfl] at H; obtain rfl := Option.some.inj H; go_wp2; go_ret
                       exact ⟨xR, bH HB.out⟩
                      ·replace c75 := Bool.eq_false_iff.mpr c75; subst c75; rw [if_neg (show ¬ (false = true) by decide)] at H
                       by_cases c76 : (a0_4.size : Int) > 2000
                       ·rw [if_pos c76] at H; have c76b0 : decide (2000 < (a0_4.size : Int)) = true := decide_eq_true c76; have c76b1 : decide (2000 < a0_4.size) = true := decide_eq_true (by omega); clear c76; obtain rfl := Option.some.inj H; have hnb77 := rP NB345_347 NB347_345; obtain ⟨hcz78, hfz78⟩ := d8 BK345; go_wp2; go_ret
                        exact ⟨xR, bH HB.out⟩
                       ·rw [if_neg c76] at H; have c76b0 : decide (2000 < (a0_4.size : Int)) = false := decide_eq_false c76; have c76b1 : decide (2000 < a0_4.size) = false := decide_eq_false (by omega); clear c76; obtain rfl := Option.some.inj H; have hnb79 := rP NB345_347 NB347_345; obtain ⟨hcz80, hfz80⟩ := d8 BK345; go_wp2; go_ret
                        exact ⟨xR, bH HB.out⟩
 ·replace c3 := Bool.eq_false_iff.mpr c3; subst c3; rw [if_neg (show ¬ (false = true) by decide)] at H; obtain rfl := Option.some.inj H; go_enter Try.func51, Try.ntmps51
  go_wp2_with (first | ((with_reducible refine gate_dst (N := 1) rfl ?_); refine bE 1 #[.int .i64 a0_0, .slice A0_1 l0_1.length c0_1, .int .u32 a0_2, .int .i64 a0_3, .string a0_4, .int .u64 a0_5, .int .u64 a0_6, .bool a0_7] 70 rfl rfl ?_; intro gb345 hg w81 hbox hb; have BK345 := rM hbox; have GW345 := rG HB hg; replace HB := rS HB hb; have GE345 := GW345; clear hb hbox hg; obtain ⟨hcz82, hfz82⟩ := d8 BK345) | ((with_reducible refine gate_callee (f := 58) rfl ?_); refine gL (some 10) rfl rfl Try.func58 #[.int .i64 a0_0] rfl ?_; (with_reducible refine (verb_kind.calls a0_0 false _ A2.out).mono ?_); rintro e w' ⟨rfl, ⟨nd, rfl⟩⟩; refine ⟨_, rfl, ?_⟩))
  go_ret
  exact ⟨xR, bH HB.out⟩

end Go.Proofs.Ytdepkgikdmlgiaa.P
