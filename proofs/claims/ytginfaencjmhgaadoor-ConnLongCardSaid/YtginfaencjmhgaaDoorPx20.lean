/- Lean functions for the Go functions that the laws of this seat use, and the proofs that the Go code computes them; conditions: the readings that each theorem names. Written by a program. -/
import Derived.Test.YtginfaencjmhgaaDoorPx0
import Derived.Test.YtginfaencjmhgaaDoorPx19
import Derived.Test.YtginfaencjmhgaaDoorShort
namespace Go.Proofs.YtginfaencjmhgaaDoor.P
open Go.RowKit Go.Proofs.YtginfaencjmhgaaDoorW.PrintWords Go.Proofs.YtginfaencjmhgaaDoorW.PrintLast Go.Proofs.YtginfaencjmhgaaDoorW.PrintMore
attribute [local go_sem] min2_int min_two
set_option linter.unusedVariables false
set_option linter.unusedSimpArgs false

/-! ### tallboyref15_Check: function 15 -/
set_option maxHeartbeats 8000000 in
set_option maxRecDepth 100000 in
theorem tallboyref15_Check.calls (k : Nat) (a0_0 : Int) (A0_1 : Option Addr) (c0_1 : Nat) (l0_1 : List ByteArray) (a0_2 : Int) (a0_3 : Int) (a0_4 : ByteArray) (a0_5 : Int) (a0_6 : Int) (a0_7 : Bool) (r : Int) (w : World) (hr0_1 : Kd.C Kd.string w A0_1 l0_1.length l0_1) (hc0_1 : l0_1.length ≤ c0_1) (h : tallboyref15_Check.f k a0_0 l0_1 a0_2 a0_3 a0_4 a0_5 a0_6 a0_7 = some r) :
  Calls Tryd.prog 15 #[.agg #[.int .i64 a0_0, .slice A0_1 l0_1.length c0_1, .int .u32 a0_2, .int .i64 a0_3, .string a0_4, .int .u64 a0_5, .int .u64 a0_6, .bool a0_7]] w fun e w' => e = .returned (.int .i64 r) ∧ Below w.heap.size w w' := by
 have hu37 := Tryd.underlying37; have HR0_1 := Aside0.mk hr0_1; have HC0_1 := Aside0.mk hc0_1; clear hr0_1 hc0_1; have HB := Aside0.mk (Below.refl w.heap.size w); have H : (if a0_0 < 1 then (tallboyref15_Check.j0 k a0_0 true a0_0 l0_1 a0_2 a0_3 a0_4 a0_5 a0_6 a0_7) else (tallboyref15_Check.j0 k a0_0 (decide (a0_0 > 15)) a0_0 l0_1 a0_2 a0_3 a0_4 a0_5 a0_6 a0_7)) = some r := h; clear h; have HC2 := Aside0.mk H; clear H; go_enter Tryd.func15, Tryd.ntmps15
 go_upto_region 2 with (first | ((with_reducible refine gate_dst (N := 1) rfl ?_); refine bE 1 #[.int .i64 a0_0, .slice A0_1 l0_1.length c0_1, .int .u32 a0_2, .int .i64 a0_3, .string a0_4, .int .u64 a0_5, .int .u64 a0_6, .bool a0_7] 37 rfl rfl ?_; intro gb133 hg w3 hbox hb; have BK133 := rM hbox; have GW133 := rG HB hg; replace HB := rS HB hb; have GE133 := GW133; clear hb hbox hg; obtain ⟨hcz4, hfz4⟩ := d8 BK133))
 (try simp only [Act.put, sA, sB, sC])
 go_cut [16] (fun v16 wc => ∃ (kq : Nat) (x16_1 : Bool), v16 = .bool x16_1 ∧ Aside0 (tallboyref15_Check.j0 kq a0_0 x16_1 a0_0 l0_1 a0_2 a0_3 a0_4 a0_5 a0_6 a0_7 = some r) ∧ Aside0 (kq ≤ k) ∧ Aside0 (wc.heap[gb133]? = some (.cells #[.int .i64 a0_0, (.slice A0_1 l0_1.length c0_1), .int .u32 a0_2, .int .i64 a0_3, .string a0_4, .int .u64 a0_5, .int .u64 a0_6, .bool a0_7] 37 (0, 0))) ∧ Aside0 (Below w.heap.size w wc))
 case first =>
  have H := HC2.out; clear HC2
  by_cases c5 : a0_0 < 1
  ·rw [if_pos c5] at H; have c5b0 : decide (a0_0 < 1) = true := decide_eq_true c5; clear c5
   (first | rw [c5b0] | (simp only [i64_w, i32_w]; rw [c5b0]) | skip)
   have H' := Aside0.mk H; clear H; go_wp2
   go_meet
   case rel => exact ⟨_, (true), (by first | rfl | (simp; done) | (simp [*]; done)), H', ⟨by first | omega | exact Nat.le_refl _⟩, ⟨bK BK133.out⟩, ⟨bH HB.out⟩⟩
  ·rw [if_neg c5] at H; have c5b0 : decide (a0_0 < 1) = false := decide_eq_false c5; clear c5
   (first | rw [c5b0] | (simp only [i64_w, i32_w]; rw [c5b0]) | skip)
   have H' := Aside0.mk H; clear H; go_wp2
   go_meet
   case rel => exact ⟨_, (decide (a0_0 > 15)), (by first | rfl | (simp; done) | (simp [*]; done)), H', ⟨by first | omega | exact Nat.le_refl _⟩, ⟨bK BK133.out⟩, ⟨bH HB.out⟩⟩
 case rest =>
  clear HC2; (try clear c5b0); (try clear hcz4); (try clear hfz4); obtain ⟨kq, x16_1, rfl, HA, HJ1, BK133, HB⟩ := hcut; cases kq with
  | zero => exact absurd HA.out (by simp [tallboyref15_Check.j0])
  | succ kj1 =>
   have H := HA.out; clear HA; simp only [tallboyref15_Check.j0] at H
   by_cases c6 : x16_1 = true
   ·subst c6; rw [if_pos rfl] at H; obtain rfl := Option.some.inj H; go_wp2; go_ret
    exact ⟨xR, bH HB.out⟩
   ·replace c6 := Bool.eq_false_iff.mpr c6; subst c6; rw [if_neg (show ¬ (false = true) by decide)] at H; replace H := Option.bind_eq_some_iff.mp H; obtain ⟨t134, A70, H⟩ := H; (try dsimp only at H); have A7 := Aside0.mk A70; clear A70; have HC8 := Aside0.mk H; clear H; obtain ⟨hcz9, hfz9⟩ := d8 BK133
    go_upto_if 23 with (first | ((with_reducible refine gate_callee (f := 25) rfl ?_); refine goesL_ (some 23) rfl rfl Tryd.func25 (by kernel_rfl) rfl #[.int .i64 a0_0] rfl (by (try simp only [List.map_toArray, List.map_cons, List.map_nil]); first | done | rfl | (simp only [List.length_drop, List.length_take]; rfl)) ?_; (with_reducible refine (tallboyref15_Reads.calls a0_0 t134 _ A7.out).mono ?_); rintro e w' ⟨rfl, ⟨nd, rfl⟩⟩; refine ⟨_, rfl, ?_⟩))
    (try simp only [Act.put, sA, sB, sC])
    go_cut [5] (fun v5 wc => ∃ (kq : Nat) (x5_7 : Bool), v5 = .bool x5_7 ∧ Aside0 (tallboyref15_Check.j1 kq a0_0 (l0_1.length : Int) x5_7 a0_0 l0_1 a0_2 a0_3 a0_4 a0_5 a0_6 a0_7 = some r) ∧ Aside0 (kq ≤ kj1) ∧ Aside0 (wc.heap[gb133]? = some (.cells #[.int .i64 a0_0, (.slice A0_1 l0_1.length c0_1), .int .u32 a0_2, .int .i64 a0_3, .string a0_4, .int .u64 a0_5, .int .u64 a0_6, .bool a0_7] 37 (0, 0))) ∧ Aside0 (Below w.heap.size w wc))
    case first =>
     have H := HC8.out; clear HC8
     by_cases c10 : t134 = true
     ·subst c10; rw [if_pos rfl] at H
      by_cases c11 : (l0_1.length : Int) ≥ 1
      ·rw [if_pos c11] at H; have c11b0 : decide (1 ≤ (l0_1.length : Int)) = true := decide_eq_true c11; have c11b1 : decide (1 ≤ l0_1.length) = true := decide_eq_true (by omega); clear c11
       (first | rw [c11b0] | (simp only [i64_w, i32_w]; rw [c11b0]) | skip)
       have H' := Aside0.mk H; clear H; go_wp2
       go_meet
       case rel => exact ⟨_, (decide ((l0_1.length : Int) ≤ 8)), (by first | rfl | (simp; done) | (simp [*]; done)), H', ⟨by have := HJ1.out; first | omega | exact Nat.le_refl _⟩, ⟨bK BK133.out⟩, ⟨bH HB.out⟩⟩
      ·rw [if_neg c11] at H; have c11b0 : decide (1 ≤ (l0_1.length : Int)) = false := decide_eq_false c11; have c11b1 : decide (1 ≤ l0_1.length) = false := decide_eq_false (by omega); clear c11
       (first | rw [c11b0] | (simp only [i64_w, i32_w]; rw [c11b0]) | skip)
       have H' := Aside0.mk H; clear H; go_wp2
       go_meet
       case rel => exact ⟨_, (false), (by first | rfl | (simp; done) | (simp [*]; done)), H', ⟨by have := HJ1.out; first | omega | exact Nat.le_refl _⟩, ⟨bK BK133.out⟩, ⟨bH HB.out⟩⟩
     ·replace c10 := Bool.eq_false_iff.mpr c10; subst c10; rw [if_neg (show ¬ (false = true) by decide)] at H; have H' := Aside0.mk H; clear H; go_wp2
      go_meet
      case rel => exact ⟨_, (((l0_1.length : Int) == 1)), (by first | rfl | (simp; done) | (simp [*]; done)), H', ⟨by have := HJ1.out; first | omega | exact Nat.le_refl _⟩, ⟨bK BK133.out⟩, ⟨bH HB.out⟩⟩
    case rest =>
     clear HC8; (try clear c5b0); (try clear c6); (try clear c10); (try clear c11b0); (try clear c11b1); (try clear hcz4); (try clear hcz9); (try clear hfz4); (try clear hfz9); obtain ⟨kq, x5_7, rfl, HA, HJ7, BK133, HB⟩ := hcut; cases kq with
     | zero => exact absurd HA.out (by simp [tallboyref15_Check.j1])
     | succ kj7 =>
      have H := HA.out; clear HA; simp only [tallboyref15_Check.j1] at H; have HC12 := Aside0.mk H; clear H
      go_upto_if 31 with (fail)
      go_cut [5] (fun v5 wc => ∃ (kq : Nat) (x5_11 : Bool), v5 = .bool x5_11 ∧ Aside0 (tallboyref15_Check.j2 kq a0_0 (l0_1.length : Int) x5_11 a0_0 l0_1 a0_2 a0_3 a0_4 a0_5 a0_6 a0_7 = some r) ∧ Aside0 (kq ≤ kj7) ∧ Aside0 (wc.heap[gb133]? = some (.cells #[.int .i64 a0_0, (.slice A0_1 l0_1.length c0_1), .int .u32 a0_2, .int .i64 a0_3, .string a0_4, .int .u64 a0_5, .int .u64 a0_6, .bool a0_7] 37 (0, 0))) ∧ Aside0 (Below w.heap.size w wc))
      case first =>
       have H := HC12.out; clear HC12
       by_cases c13 : a0_0 = 15
       ·rw [if_pos c13] at H; have c13b0 : (a0_0 == 15) = true := beq_iff_eq.mpr c13; have c13b1 : (a0_0 != 15) = false := bne_eq_false_iff_eq.mpr c13; clear c13
        (first | rw [c13b0] | (simp only [i64_w, i32_w]; rw [c13b0]) | skip)
        have H' := Aside0.mk H; clear H; go_wp2
        go_meet
        case rel => exact ⟨_, (((l0_1.length : Int) == 0)), (by first | rfl | (simp; done) | (simp [*]; done)), H', ⟨by have := HJ1.out; have := HJ7.out; first | omega | exact Nat.le_refl _⟩, ⟨bK BK133.out⟩, ⟨bH HB.out⟩⟩
       ·rw [if_neg c13] at H; have c13b0 : (a0_0 == 15) = false := beq_eq_false_iff_ne.mpr c13; have c13b1 : (a0_0 != 15) = true := bne_iff_ne.mpr c13
        (first | rw [c13b0] | (simp only [i64_w, i32_w]; rw [c13b0]) | skip)
        have H' := Aside0.mk H; clear H; go_wp2
        go_meet
        case rel => exact ⟨_, (x5_7), (by first | rfl | (simp; done) | (simp [*]; done)), H', ⟨by have := HJ1.out; have := HJ7.out; first | omega | exact Nat.le_refl _⟩, ⟨bK BK133.out⟩, ⟨bH HB.out⟩⟩
      case rest =>
       clear HC12; (try clear c5b0); (try clear c6); (try clear c10); (try clear c11b0); (try clear c11b1); (try clear c13); (try clear c13b0); (try clear c13b1); (try clear hcz4); (try clear hcz9); (try clear hfz4); (try clear hfz9); obtain ⟨kq, x5_11, rfl, HA, HJ11, BK133, HB⟩ := hcut; cases kq with
       | zero => exact absurd HA.out (by simp [tallboyref15_Check.j2])
       | succ kj11 =>
        have H := HA.out; clear HA; simp only [tallboyref15_Check.j2] at H; have HC14 := Aside0.mk H; clear H
        go_upto_block 0 with (fail)
        go_cut [5] (fun v5 wc => ∃ (kq : Nat) (x5_13 : Bool), v5 = .bool x5_13 ∧ Aside0 (tallboyref15_Check.j4 kq a0_0 x5_13 a0_0 l0_1 a0_2 a0_3 a0_4 a0_5 a0_6 a0_7 = some r) ∧ Aside0 (kq ≤ kj11) ∧ Aside0 (wc.heap[gb133]? = some (.cells #[.int .i64 a0_0, (.slice A0_1 l0_1.length c0_1), .int .u32 a0_2, .int .i64 a0_3, .string a0_4, .int .u64 a0_5, .int .u64 a0_6, .bool a0_7] 37 (0, 0))) ∧ Aside0 (Below w.heap.size w wc))
        case first =>
         have H := HC14.out; clear HC14; have H' := Aside0.mk H; clear H; go_wp2
         go_loopg [5, 6] kj11 (fun kq v5 v6 w' => ∃ (x5_4 : Bool) (x6_4 : Int), v5 = .bool x5_4 ∧ v6 = .int .i64 x6_4 ∧ Aside0 (tallboyref15_Check.l0 kq a0_0 (l0_1.length : Int) x5_4 x6_4 a0_0 l0_1 a0_2 a0_3 a0_4 a0_5 a0_6 a0_7 = some r) ∧ Aside0 (kq ≤ kj11) ∧ Aside0 (w'.heap[gb133]? = some (.cells #[.int .i64 a0_0, (.slice A0_1 l0_1.length c0_1), .int .u32 a0_2, .int .i64 a0_3, .string a0_4, .int .u64 a0_5, .int .u64 a0_6, .bool a0_7] 37 (0, 0))) ∧ Aside0 (Below w.heap.size w w'))
         case atStart => exact ⟨(x5_11), (0), (by first | rfl | (simp; done) | (simp [*]; done)), (by first | rfl | (simp; done) | (simp [*]; done)), H', ⟨Nat.le_refl _⟩, ⟨bK BK133.out⟩, ⟨bH HB.out⟩⟩
         case round =>
          clear H'; (try clear c5b0); (try clear c6); (try clear c10); (try clear c11b0); (try clear c11b1); (try clear c13); (try clear c13b0); (try clear c13b1); (try clear hcz4); (try clear hcz9); (try clear hfz4); (try clear hfz9); obtain ⟨x5_4, x6_4, rfl, rfl, HA, HK4, BK133, HB⟩ := hrel; cases gk with
          | zero => exact absurd HA.out (by simp [tallboyref15_Check.l0])
          | succ k4 =>
           have H := HA.out; clear HA; simp only [tallboyref15_Check.l0] at H
           by_cases c15 : x6_4 < (l0_1.length : Int)
           ·rw [if_pos c15] at H; have c15b0 : decide (x6_4 < (l0_1.length : Int)) = true := decide_eq_true c15; clear c15
            (first | rw [c15b0] | (simp only [i64_w, i32_w]; rw [c15b0]) | skip)
            by_cases c16 : x5_4 = true
            ·subst c16; rw [if_pos rfl] at H
             by_cases c17 : 0 ≤ x6_4
             ·rw [if_pos c17] at H; have c17b0 : decide (0 ≤ x6_4) = true := decide_eq_true c17; clear c17
              by_cases c18 : x6_4 < (l0_1.length : Int)
              ·rw [if_pos c18] at H; have c18b0 : decide (x6_4 < (l0_1.length : Int)) = true := decide_eq_true c18; clear c18; replace H := Option.bind_eq_some_iff.mp H; obtain ⟨t136, A190, H⟩ := H; (try dsimp only at H); have A19 := Aside0.mk A190; clear A190; have H' := Aside0.mk H; clear H; obtain ⟨hcz20, hfz20⟩ := d8 BK133; have p135 : 0 ≤ (x6_4 : Int) := of_decide_eq_true (by first | (with_reducible assumption) | assumption); have q135 : x6_4 < (l0_1.length : Int) := of_decide_eq_true (by first | (with_reducible assumption) | assumption)
               obtain ⟨ad135, e135, hx135_0⟩ := Kd.at_string HR0_1.out x6_4 p135 q135; cases e135; replace hx135_0 := (HB.out.cell (World.block_lt_of_cell? w _ hx135_0)).trans hx135_0; replace p135 := eq_true p135; replace q135 := eq_true q135
               go_wp2_with (first | ((with_reducible refine gate_callee (f := 26) rfl ?_); refine goesL_ (some 47) rfl rfl Tryd.func26 (by kernel_rfl) rfl #[.string (rdOf ByteArray.empty l0_1 x6_4)] rfl (by (try simp only [List.map_toArray, List.map_cons, List.map_nil]); first | done | rfl | (simp only [List.length_drop, List.length_take]; rfl)) ?_; (with_reducible refine (tallboyref04_Key.calls k4 (rdOf ByteArray.empty l0_1 x6_4) t136 _ A19.out).mono ?_); rintro e w' ⟨rfl, ⟨nd, rfl⟩⟩; refine ⟨_, rfl, ?_⟩))
               go_roundg k4
               case measure => have := HJ1.out; have := HJ7.out; have := HJ11.out; have := HK4.out; omega
               case rel => exact ⟨(t136), (wrap64 (x6_4 + 1)), (by first | rfl | (simp; done) | (simp [*]; done)), (by first | rfl | (simp; done) | (simp [*]; done)), H', ⟨by have := HJ1.out; have := HJ7.out; have := HJ11.out; have := HK4.out; omega⟩, ⟨bK BK133.out⟩, ⟨bH HB.out⟩⟩
              ·rw [if_neg c18] at H; exact absurd H (by simp)
             ·rw [if_neg c17] at H; exact absurd H (by simp)
            ·replace c16 := Bool.eq_false_iff.mpr c16; subst c16; rw [if_neg (show ¬ (false = true) by decide)] at H; have H' := Aside0.mk H; clear H; go_wp2
             go_meet
             case rel => exact ⟨_, (false), (by first | rfl | (simp; done) | (simp [*]; done)), H', ⟨by have := HJ1.out; have := HJ7.out; have := HJ11.out; have := HK4.out; first | omega | exact Nat.le_refl _⟩, ⟨bK BK133.out⟩, ⟨bH HB.out⟩⟩
           ·rw [if_neg c15] at H; have c15b0 : decide (x6_4 < (l0_1.length : Int)) = false := decide_eq_false c15; clear c15
            (first | rw [c15b0] | (simp only [i64_w, i32_w]; rw [c15b0]) | skip)
            have H' := Aside0.mk H; clear H; go_wp2
            go_meet
            case rel => exact ⟨_, (x5_4), (by first | rfl | (simp; done) | (simp [*]; done)), H', ⟨by have := HJ1.out; have := HJ7.out; have := HJ11.out; have := HK4.out; first | omega | exact Nat.le_refl _⟩, ⟨bK BK133.out⟩, ⟨bH HB.out⟩⟩
        case rest =>
         clear HC14; (try clear c5b0); (try clear c6); (try clear c10); (try clear c11b0); (try clear c11b1); (try clear c13); (try clear c13b0); (try clear c13b1); (try clear c15b0); (try clear c16); (try clear c17); (try clear c17b0); (try clear c18); (try clear c18b0); (try clear hcz20); (try clear hcz4); (try clear hcz9); (try clear hfz20); (try clear hfz4); (try clear hfz9); (try clear hx135_0); (try clear p135); (try clear q135); obtain ⟨kq, x5_13, rfl, HA, HJ13, BK133, HB⟩ := hcut; cases kq with
         | zero => exact absurd HA.out (by simp [tallboyref15_Check.j4])
         | succ kj13 =>
          have H := HA.out; clear HA; simp only [tallboyref15_Check.j4] at H; replace H := Option.bind_eq_some_iff.mp H; obtain ⟨t137, A210, H⟩ := H; (try dsimp only at H); have A21 := Aside0.mk A210; clear A210; have HC22 := Aside0.mk H; clear H
          go_upto_if 50 with (first | ((with_reducible refine gate_callee (f := 27) rfl ?_); refine goesL_ (some 49) rfl rfl Tryd.func27 (by kernel_rfl) rfl #[.int .i64 a0_0] rfl (by (try simp only [List.map_toArray, List.map_cons, List.map_nil]); first | done | rfl | (simp only [List.length_drop, List.length_take]; rfl)) ?_; (with_reducible refine (tallboyref15_Stores.calls a0_0 t137 _ A21.out).mono ?_); rintro e w' ⟨rfl, ⟨nd, rfl⟩⟩; refine ⟨_, rfl, ?_⟩))
          (try simp only [Act.put, sA, sB, sC])
          go_cut [5] (fun v5 wc => ∃ (kq : Nat) (x5_21 : Bool), v5 = .bool x5_21 ∧ Aside0 (tallboyref15_Check.j5 kq a0_0 x5_21 a0_0 l0_1 a0_2 a0_3 a0_4 a0_5 a0_6 a0_7 = some r) ∧ Aside0 (kq ≤ kj13) ∧ Aside0 (wc.heap[gb133]? = some (.cells #[.int .i64 a0_0, (.slice A0_1 l0_1.length c0_1), .int .u32 a0_2, .int .i64 a0_3, .string a0_4, .int .u64 a0_5, .int .u64 a0_6, .bool a0_7] 37 (0, 0))) ∧ Aside0 (Below w.heap.size w wc))
          case first =>
           have H := HC22.out; clear HC22
           by_cases c23 : t137 = true
           ·subst c23; rw [if_pos rfl] at H; have H' := Aside0.mk H; clear H; go_wp2
            go_meet
            case rel => exact ⟨_, (x5_13), (by first | rfl | (simp; done) | (simp [*]; done)), H', ⟨by have := HJ1.out; have := HJ7.out; have := HJ11.out; have := HJ13.out; first | omega | exact Nat.le_refl _⟩, ⟨bK BK133.out⟩, ⟨bH HB.out⟩⟩
           ·replace c23 := Bool.eq_false_iff.mpr c23; subst c23; rw [if_neg (show ¬ (false = true) by decide)] at H
            by_cases c24 : x5_13 = true
            ·subst c24; rw [if_pos rfl] at H; have H' := Aside0.mk H; clear H; obtain ⟨hcz25, hfz25⟩ := d8 BK133; go_wp2
             go_meet
             case rel => exact ⟨_, ((a0_4.toList == ([] : List UInt8))), (by first | rfl | (simp; done) | (simp [*]; done)), H', ⟨by have := HJ1.out; have := HJ7.out; have := HJ11.out; have := HJ13.out; first | omega | exact Nat.le_refl _⟩, ⟨bK BK133.out⟩, ⟨bH HB.out⟩⟩
            ·replace c24 := Bool.eq_false_iff.mpr c24; subst c24; rw [if_neg (show ¬ (false = true) by decide)] at H; have H' := Aside0.mk H; clear H; go_wp2
             go_meet
             case rel => exact ⟨_, (false), (by first | rfl | (simp; done) | (simp [*]; done)), H', ⟨by have := HJ1.out; have := HJ7.out; have := HJ11.out; have := HJ13.out; first | omega | exact Nat.le_refl _⟩, ⟨bK BK133.out⟩, ⟨bH HB.out⟩⟩
          case rest =>
           clear HC22; (try clear c5b0); (try clear c6); (try clear c10); (try clear c11b0); (try clear c11b1); (try clear c13); (try clear c13b0); (try clear c13b1); (try clear c15b0); (try clear c16); (try clear c17); (try clear c17b0); (try clear c18); (try clear c18b0); (try clear c23); (try clear c24); (try clear hcz20); (try clear hcz25); (try clear hcz4); (try clear hcz9); (try clear hfz20); (try clear hfz25); (try clear hfz4); (try clear hfz9); (try clear hx135_0); (try clear p135); (try clear q135); obtain ⟨kq, x5_21, rfl, HA, HJ21, BK133, HB⟩ := hcut; cases kq with
           | zero => exact absurd HA.out (by simp [tallboyref15_Check.j5])
           | succ kj21 =>
            have H := HA.out; clear HA; simp only [tallboyref15_Check.j5] at H; have HC26 := Aside0.mk H; clear H
            go_upto_region 16 with (fail)
            go_cut [7] (fun v7 wc => ∃ (kq : Nat) (x7_25 : Bool), v7 = .bool x7_25 ∧ Aside0 (tallboyref15_Check.j6 kq a0_0 x5_21 x7_25 a0_0 l0_1 a0_2 a0_3 a0_4 a0_5 a0_6 a0_7 = some r) ∧ Aside0 (kq ≤ kj21) ∧ Aside0 (wc.heap[gb133]? = some (.cells #[.int .i64 a0_0, (.slice A0_1 l0_1.length c0_1), .int .u32 a0_2, .int .i64 a0_3, .string a0_4, .int .u64 a0_5, .int .u64 a0_6, .bool a0_7] 37 (0, 0))) ∧ Aside0 (Below w.heap.size w wc))
            case first =>
             have H := HC26.out; clear HC26; replace H := Option.bind_eq_some_iff.mp H; obtain ⟨t138, A270, H⟩ := H; (try dsimp only at H); have A27 := Aside0.mk A270; clear A270
             by_cases c28 : t138 = true
             ·subst c28; rw [if_pos rfl] at H
              by_cases c29 : a0_0 = 8
              ·rw [if_pos c29] at H; have c29b0 : (a0_0 == 8) = true := beq_iff_eq.mpr c29; have c29b1 : (a0_0 != 8) = false := bne_eq_false_iff_eq.mpr c29; clear c29
               (first | rw [c29b0] | (simp only [i64_w, i32_w]; rw [c29b0]) | skip)
               have H' := Aside0.mk H; clear H
               go_wp2_with (first | ((with_reducible refine gate_callee (f := 27) rfl ?_); refine goesL_ (some 58) rfl rfl Tryd.func27 (by kernel_rfl) rfl #[.int .i64 a0_0] rfl (by (try simp only [List.map_toArray, List.map_cons, List.map_nil]); first | done | rfl | (simp only [List.length_drop, List.length_take]; rfl)) ?_; (with_reducible refine (tallboyref15_Stores.calls a0_0 true _ A27.out).mono ?_); rintro e w' ⟨rfl, ⟨nd, rfl⟩⟩; refine ⟨_, rfl, ?_⟩))
               go_meet
               case rel => exact ⟨_, (false), (by first | rfl | (simp; done) | (simp [*]; done)), H', ⟨by have := HJ1.out; have := HJ7.out; have := HJ11.out; have := HJ13.out; have := HJ21.out; first | omega | exact Nat.le_refl _⟩, ⟨bK BK133.out⟩, ⟨bH HB.out⟩⟩
              ·rw [if_neg c29] at H; have c29b0 : (a0_0 == 8) = false := beq_eq_false_iff_ne.mpr c29; have c29b1 : (a0_0 != 8) = true := bne_iff_ne.mpr c29
               (first | rw [c29b0] | (simp only [i64_w, i32_w]; rw [c29b0]) | skip)
               have H' := Aside0.mk H; clear H
               go_wp2_with (first | ((with_reducible refine gate_callee (f := 27) rfl ?_); refine goesL_ (some 58) rfl rfl Tryd.func27 (by kernel_rfl) rfl #[.int .i64 a0_0] rfl (by (try simp only [List.map_toArray, List.map_cons, List.map_nil]); first | done | rfl | (simp only [List.length_drop, List.length_take]; rfl)) ?_; (with_reducible refine (tallboyref15_Stores.calls a0_0 true _ A27.out).mono ?_); rintro e w' ⟨rfl, ⟨nd, rfl⟩⟩; refine ⟨_, rfl, ?_⟩))
               go_meet
               case rel => exact ⟨_, ((a0_0 != 9)), (by first | rfl | (simp; done) | (simp [*]; done)), H', ⟨by have := HJ1.out; have := HJ7.out; have := HJ11.out; have := HJ13.out; have := HJ21.out; first | omega | exact Nat.le_refl _⟩, ⟨bK BK133.out⟩, ⟨bH HB.out⟩⟩
             ·replace c28 := Bool.eq_false_iff.mpr c28; subst c28; rw [if_neg (show ¬ (false = true) by decide)] at H; have H' := Aside0.mk H; clear H
              go_wp2_with (first | ((with_reducible refine gate_callee (f := 27) rfl ?_); refine goesL_ (some 58) rfl rfl Tryd.func27 (by kernel_rfl) rfl #[.int .i64 a0_0] rfl (by (try simp only [List.map_toArray, List.map_cons, List.map_nil]); first | done | rfl | (simp only [List.length_drop, List.length_take]; rfl)) ?_; (with_reducible refine (tallboyref15_Stores.calls a0_0 false _ A27.out).mono ?_); rintro e w' ⟨rfl, ⟨nd, rfl⟩⟩; refine ⟨_, rfl, ?_⟩))
              go_meet
              case rel => exact ⟨_, (false), (by first | rfl | (simp; done) | (simp [*]; done)), H', ⟨by have := HJ1.out; have := HJ7.out; have := HJ11.out; have := HJ13.out; have := HJ21.out; first | omega | exact Nat.le_refl _⟩, ⟨bK BK133.out⟩, ⟨bH HB.out⟩⟩
            case rest =>
             clear HC26; (try clear c5b0); (try clear c6); (try clear c10); (try clear c11b0); (try clear c11b1); (try clear c13); (try clear c13b0); (try clear c13b1); (try clear c15b0); (try clear c16); (try clear c17); (try clear c17b0); (try clear c18); (try clear c18b0); (try clear c23); (try clear c24); (try clear c28); (try clear c29); (try clear c29b0); (try clear c29b1); (try clear hcz20); (try clear hcz25); (try clear hcz4); (try clear hcz9); (try clear hfz20); (try clear hfz25); (try clear hfz4); (try clear hfz9); (try clear hx135_0); (try clear p135); (try clear q135); obtain ⟨kq, x7_25, rfl, HA, HJ25, BK133, HB⟩ := hcut; cases kq with
             | zero => exact absurd HA.out (by simp [tallboyref15_Check.j6])
             | succ kj25 =>
              have H := HA.out; clear HA; simp only [tallboyref15_Check.j6] at H; have HC30 := Aside0.mk H; clear H
              go_upto_if 68 with (fail)
              go_cut [5] (fun v5 wc => ∃ (kq : Nat) (x5_29 : Bool), v5 = .bool x5_29 ∧ Aside0 (tallboyref15_Check.j7 kq a0_0 x5_29 x7_25 a0_0 l0_1 a0_2 a0_3 a0_4 a0_5 a0_6 a0_7 = some r) ∧ Aside0 (kq ≤ kj25) ∧ Aside0 (wc.heap[gb133]? = some (.cells #[.int .i64 a0_0, (.slice A0_1 l0_1.length c0_1), .int .u32 a0_2, .int .i64 a0_3, .string a0_4, .int .u64 a0_5, .int .u64 a0_6, .bool a0_7] 37 (0, 0))) ∧ Aside0 (Below w.heap.size w wc))
              case first =>
               have H := HC30.out; clear HC30
               by_cases c31 : x7_25 = true
               ·subst c31; rw [if_pos rfl] at H; have H' := Aside0.mk H; clear H; go_wp2
                go_meet
                case rel => exact ⟨_, (x5_21), (by first | rfl | (simp; done) | (simp [*]; done)), H', ⟨by have := HJ1.out; have := HJ7.out; have := HJ11.out; have := HJ13.out; have := HJ21.out; have := HJ25.out; first | omega | exact Nat.le_refl _⟩, ⟨bK BK133.out⟩, ⟨bH HB.out⟩⟩
               ·replace c31 := Bool.eq_false_iff.mpr c31; subst c31; rw [if_neg (show ¬ (false = true) by decide)] at H
                by_cases c32 : x5_21 = true
                ·subst c32; rw [if_pos rfl] at H; have H' := Aside0.mk H; clear H; obtain ⟨hcz33, hfz33⟩ := d8 BK133; go_wp2
                 go_meet
                 case rel => exact ⟨_, ((a0_2 == 0)), (by first | rfl | (simp; done) | (simp [*]; done)), H', ⟨by have := HJ1.out; have := HJ7.out; have := HJ11.out; have := HJ13.out; have := HJ21.out; have := HJ25.out; first | omega | exact Nat.le_refl _⟩, ⟨bK BK133.out⟩, ⟨bH HB.out⟩⟩
                ·replace c32 := Bool.eq_false_iff.mpr c32; subst c32; rw [if_neg (show ¬ (false = true) by decide)] at H; have H' := Aside0.mk H; clear H; go_wp2
                 go_meet
                 case rel => exact ⟨_, (false), (by first | rfl | (simp; done) | (simp [*]; done)), H', ⟨by have := HJ1.out; have := HJ7.out; have := HJ11.out; have := HJ13.out; have := HJ21.out; have := HJ25.out; first | omega | exact Nat.le_refl _⟩, ⟨bK BK133.out⟩, ⟨bH HB.out⟩⟩
              case rest =>
               clear HC30; (try clear c5b0); (try clear c6); (try clear c10); (try clear c11b0); (try clear c11b1); (try clear c13); (try clear c13b0); (try clear c13b1); (try clear c15b0); (try clear c16); (try clear c17); (try clear c17b0); (try clear c18); (try clear c18b0); (try clear c23); (try clear c24); (try clear c28); (try clear c29); (try clear c29b0); (try clear c29b1); (try clear c31); (try clear c32); (try clear hcz20); (try clear hcz25); (try clear hcz33); (try clear hcz4); (try clear hcz9); (try clear hfz20); (try clear hfz25); (try clear hfz33); (try clear hfz4); (try clear hfz9); (try clear hx135_0); (try clear p135); (try clear q135); obtain ⟨kq, x5_29, rfl, HA, HJ29, BK133, HB⟩ := hcut; cases kq with
               | zero => exact absurd HA.out (by simp [tallboyref15_Check.j7])
               | succ kj29 =>
                have H := HA.out; clear HA; simp only [tallboyref15_Check.j7] at H; have HC34 := Aside0.mk H; clear H
                go_upto_region 19 with (fail)
                go_cut [8] (fun v8 wc => ∃ (kq : Nat) (x8_33 : Bool), v8 = .bool x8_33 ∧ Aside0 (tallboyref15_Check.j8 kq a0_0 x5_29 x8_33 a0_0 l0_1 a0_2 a0_3 a0_4 a0_5 a0_6 a0_7 = some r) ∧ Aside0 (kq ≤ kj29) ∧ Aside0 (wc.heap[gb133]? = some (.cells #[.int .i64 a0_0, (.slice A0_1 l0_1.length c0_1), .int .u32 a0_2, .int .i64 a0_3, .string a0_4, .int .u64 a0_5, .int .u64 a0_6, .bool a0_7] 37 (0, 0))) ∧ Aside0 (Below w.heap.size w wc))
                case first =>
                 have H := HC34.out; clear HC34
                 by_cases c35 : x7_25 = true
                 ·subst c35; rw [if_pos rfl] at H; have H' := Aside0.mk H; clear H; go_wp2
                  go_meet
                  case rel => exact ⟨_, (true), (by first | rfl | (simp; done) | (simp [*]; done)), H', ⟨by have := HJ1.out; have := HJ7.out; have := HJ11.out; have := HJ13.out; have := HJ21.out; have := HJ25.out; have := HJ29.out; first | omega | exact Nat.le_refl _⟩, ⟨bK BK133.out⟩, ⟨bH HB.out⟩⟩
                 ·replace c35 := Bool.eq_false_iff.mpr c35; subst c35; rw [if_neg (show ¬ (false = true) by decide)] at H
                  by_cases c36 : a0_0 = 3
                  ·rw [if_pos c36] at H; have c36b0 : (a0_0 == 3) = true := beq_iff_eq.mpr c36; have c36b1 : (a0_0 != 3) = false := bne_eq_false_iff_eq.mpr c36; clear c36
                   (first | rw [c36b0] | (simp only [i64_w, i32_w]; rw [c36b0]) | skip)
                   have H' := Aside0.mk H; clear H; go_wp2
                   go_meet
                   case rel => exact ⟨_, (true), (by first | rfl | (simp; done) | (simp [*]; done)), H', ⟨by have := HJ1.out; have := HJ7.out; have := HJ11.out; have := HJ13.out; have := HJ21.out; have := HJ25.out; have := HJ29.out; first | omega | exact Nat.le_refl _⟩, ⟨bK BK133.out⟩, ⟨bH HB.out⟩⟩
                  ·rw [if_neg c36] at H; have c36b0 : (a0_0 == 3) = false := beq_eq_false_iff_ne.mpr c36; have c36b1 : (a0_0 != 3) = true := bne_iff_ne.mpr c36
                   (first | rw [c36b0] | (simp only [i64_w, i32_w]; rw [c36b0]) | skip)
                   by_cases c37 : a0_0 = 4
                   ·rw [if_pos c37] at H; have c37b0 : (a0_0 == 4) = true := beq_iff_eq.mpr c37; have c37b1 : (a0_0 != 4) = false := bne_eq_false_iff_eq.mpr c37; clear c37; have H' := Aside0.mk H; clear H; go_wp2
                    go_meet
                    case rel => exact ⟨_, (true), (by first | rfl | (simp; done) | (simp [*]; done)), H', ⟨by have := HJ1.out; have := HJ7.out; have := HJ11.out; have := HJ13.out; have := HJ21.out; have := HJ25.out; have := HJ29.out; first | omega | exact Nat.le_refl _⟩, ⟨bK BK133.out⟩, ⟨bH HB.out⟩⟩
                   ·rw [if_neg c37] at H; have c37b0 : (a0_0 == 4) = false := beq_eq_false_iff_ne.mpr c37; have c37b1 : (a0_0 != 4) = true := bne_iff_ne.mpr c37; have H' := Aside0.mk H; clear H; go_wp2
                    go_meet
                    case rel => exact ⟨_, ((a0_0 == 14)), (by first | rfl | (simp; done) | (simp [*]; done)), H', ⟨by have := HJ1.out; have := HJ7.out; have := HJ11.out; have := HJ13.out; have := HJ21.out; have := HJ25.out; have := HJ29.out; first | omega | exact Nat.le_refl _⟩, ⟨bK BK133.out⟩, ⟨bH HB.out⟩⟩
                case rest =>
                 clear HC34; (try clear c5b0); (try clear c6); (try clear c10); (try clear c11b0); (try clear c11b1); (try clear c13); (try clear c13b0); (try clear c13b1); (try clear c15b0); (try clear c16); (try clear c17); (try clear c17b0); (try clear c18); (try clear c18b0); (try clear c23); (try clear c24); (try clear c28); (try clear c29); (try clear c29b0); (try clear c29b1); (try clear c31); (try clear c32); (try clear c35); (try clear c36); (try clear c36b0); (try clear c36b1); (try clear c37); (try clear c37b0); (try clear c37b1); (try clear hcz20); (try clear hcz25); (try clear hcz33); (try clear hcz4); (try clear hcz9); (try clear hfz20); (try clear hfz25); (try clear hfz33); (try clear hfz4); (try clear hfz9); (try clear hx135_0); (try clear p135); (try clear q135); obtain ⟨kq, x8_33, rfl, HA, HJ33, BK133, HB⟩ := hcut; cases kq with
                 | zero => exact absurd HA.out (by simp [tallboyref15_Check.j8])
                 | succ kj33 =>
                  have H := HA.out; clear HA; simp only [tallboyref15_Check.j8] at H; have HC38 := Aside0.mk H; clear H
                  go_upto_if 89 with (fail)
                  go_cut [5] (fun v5 wc => ∃ (kq : Nat) (x5_37 : Bool), v5 = .bool x5_37 ∧ Aside0 (tallboyref15_Check.j9 kq a0_0 x5_37 a0_0 l0_1 a0_2 a0_3 a0_4 a0_5 a0_6 a0_7 = some r) ∧ Aside0 (kq ≤ kj33) ∧ Aside0 (wc.heap[gb133]? = some (.cells #[.int .i64 a0_0, (.slice A0_1 l0_1.length c0_1), .int .u32 a0_2, .int .i64 a0_3, .string a0_4, .int .u64 a0_5, .int .u64 a0_6, .bool a0_7] 37 (0, 0))) ∧ Aside0 (Below w.heap.size w wc))
                  case first =>
                   have H := HC38.out; clear HC38
                   by_cases c39 : x8_33 = true
                   ·subst c39; rw [if_pos rfl] at H; have H' := Aside0.mk H; clear H; go_wp2
                    go_meet
                    case rel => exact ⟨_, (x5_29), (by first | rfl | (simp; done) | (simp [*]; done)), H', ⟨by have := HJ1.out; have := HJ7.out; have := HJ11.out; have := HJ13.out; have := HJ21.out; have := HJ25.out; have := HJ29.out; have := HJ33.out; first | omega | exact Nat.le_refl _⟩, ⟨bK BK133.out⟩, ⟨bH HB.out⟩⟩
                   ·replace c39 := Bool.eq_false_iff.mpr c39; subst c39; rw [if_neg (show ¬ (false = true) by decide)] at H
                    by_cases c40 : x5_29 = true
                    ·subst c40; rw [if_pos rfl] at H; have H' := Aside0.mk H; clear H; obtain ⟨hcz41, hfz41⟩ := d8 BK133; go_wp2
                     go_meet
                     case rel => exact ⟨_, ((a0_3 == 0)), (by first | rfl | (simp; done) | (simp [*]; done)), H', ⟨by have := HJ1.out; have := HJ7.out; have := HJ11.out; have := HJ13.out; have := HJ21.out; have := HJ25.out; have := HJ29.out; have := HJ33.out; first | omega | exact Nat.le_refl _⟩, ⟨bK BK133.out⟩, ⟨bH HB.out⟩⟩
                    ·replace c40 := Bool.eq_false_iff.mpr c40; subst c40; rw [if_neg (show ¬ (false = true) by decide)] at H; have H' := Aside0.mk H; clear H; go_wp2
                     go_meet
                     case rel => exact ⟨_, (false), (by first | rfl | (simp; done) | (simp [*]; done)), H', ⟨by have := HJ1.out; have := HJ7.out; have := HJ11.out; have := HJ13.out; have := HJ21.out; have := HJ25.out; have := HJ29.out; have := HJ33.out; first | omega | exact Nat.le_refl _⟩, ⟨bK BK133.out⟩, ⟨bH HB.out⟩⟩
                  case rest =>
                   clear HC38; (try clear c5b0); (try clear c6); (try clear c10); (try clear c11b0); (try clear c11b1); (try clear c13); (try clear c13b0); (try clear c13b1); (try clear c15b0); (try clear c16); (try clear c17); (try clear c17b0); (try clear c18); (try clear c18b0); (try clear c23); (try clear c24); (try clear c28); (try clear c29); (try clear c29b0); (try clear c29b1); (try clear c31); (try clear c32); (try clear c35); (try clear c36); (try clear c36b0); (try clear c36b1); (try clear c37); (try clear c37b0); (try clear c37b1); (try clear c39); (try clear c40); (try clear hcz20); (try clear hcz25); (try clear hcz33); (try clear hcz41); (try clear hcz4); (try clear hcz9); (try clear hfz20); (try clear hfz25); (try clear hfz33); (try clear hfz41); (try clear hfz4); (try clear hfz9); (try clear hx135_0); (try clear p135); 
                   (try clear q135); obtain ⟨kq, x5_37, rfl, HA, HJ37, BK133, HB⟩ := hcut; cases kq with
                   | zero => exact absurd HA.out (by simp [tallboyref15_Check.j9])
                   | succ kj37 =>
                    have H := HA.out; clear HA; simp only [tallboyref15_Check.j9] at H; have HC42 := Aside0.mk H; clear H
                    go_upto_if 97 with (fail)
                    go_cut [5] (fun v5 wc => ∃ (kq : Nat) (x5_41 : Bool), v5 = .bool x5_41 ∧ Aside0 (tallboyref15_Check.j10 kq a0_0 x5_41 a0_0 l0_1 a0_2 a0_3 a0_4 a0_5 a0_6 a0_7 = some r) ∧ Aside0 (kq ≤ kj37) ∧ Aside0 (wc.heap[gb133]? = some (.cells #[.int .i64 a0_0, (.slice A0_1 l0_1.length c0_1), .int .u32 a0_2, .int .i64 a0_3, .string a0_4, .int .u64 a0_5, .int .u64 a0_6, .bool a0_7] 37 (0, 0))) ∧ Aside0 (Below w.heap.size w wc))
                    case first =>
                     have H := HC42.out; clear HC42
                     by_cases c43 : a0_0 = 10
                     ·rw [if_pos c43] at H; have c43b0 : (a0_0 == 10) = true := beq_iff_eq.mpr c43; have c43b1 : (a0_0 != 10) = false := bne_eq_false_iff_eq.mpr c43; clear c43
                      (first | rw [c43b0] | (simp only [i64_w, i32_w]; rw [c43b0]) | skip)
                      have H' := Aside0.mk H; clear H; go_wp2
                      go_meet
                      case rel => exact ⟨_, (x5_37), (by first | rfl | (simp; done) | (simp [*]; done)), H', ⟨by have := HJ1.out; have := HJ7.out; have := HJ11.out; have := HJ13.out; have := HJ21.out; have := HJ25.out; have := HJ29.out; have := HJ33.out; have := HJ37.out; first | omega | exact Nat.le_refl _⟩, ⟨bK BK133.out⟩, ⟨bH HB.out⟩⟩
                     ·rw [if_neg c43] at H; have c43b0 : (a0_0 == 10) = false := beq_eq_false_iff_ne.mpr c43; have c43b1 : (a0_0 != 10) = true := bne_iff_ne.mpr c43
                      (first | rw [c43b0] | (simp only [i64_w, i32_w]; rw [c43b0]) | skip)
                      by_cases c44 : x5_37 = true
                      ·subst c44; rw [if_pos rfl] at H; have H' := Aside0.mk H; clear H; obtain ⟨hcz45, hfz45⟩ := d8 BK133; go_wp2
                       go_meet
                       case rel => exact ⟨_, ((a0_5 == 0)), (by first | rfl | (simp; done) | (simp [*]; done)), H', ⟨by have := HJ1.out; have := HJ7.out; have := HJ11.out; have := HJ13.out; have := HJ21.out; have := HJ25.out; have := HJ29.out; have := HJ33.out; have := HJ37.out; first | omega | exact Nat.le_refl _⟩, ⟨bK BK133.out⟩, ⟨bH HB.out⟩⟩
                      ·replace c44 := Bool.eq_false_iff.mpr c44; subst c44; rw [if_neg (show ¬ (false = true) by decide)] at H; have H' := Aside0.mk H; clear H; go_wp2
                       go_meet
                       case rel => exact ⟨_, (false), (by first | rfl | (simp; done) | (simp [*]; done)), H', ⟨by have := HJ1.out; have := HJ7.out; have := HJ11.out; have := HJ13.out; have := HJ21.out; have := HJ25.out; have := HJ29.out; have := HJ33.out; have := HJ37.out; first | omega | exact Nat.le_refl _⟩, ⟨bK BK133.out⟩, ⟨bH HB.out⟩⟩
                    case rest =>
                     clear HC42; (try clear c5b0); (try clear c6); (try clear c10); (try clear c11b0); (try clear c11b1); (try clear c13); (try clear c13b0); (try clear c13b1); (try clear c15b0); (try clear c16); (try clear c17); (try clear c17b0); (try clear c18); (try clear c18b0); (try clear c23); (try clear c24); (try clear c28); (try clear c29); (try clear c29b0); (try clear c29b1); (try clear c31); (try clear c32); (try clear c35); (try clear c36); (try clear c36b0); (try clear c36b1); (try clear c37); (try clear c37b0); (try clear c37b1); (try clear c39); (try clear c40); (try clear c43); (try clear c43b0); (try clear c43b1); (try clear c44); (try clear hcz20); (try clear hcz25); (try clear hcz33); (try clear hcz41); (try clear hcz45); (try clear hcz4); (try clear hcz9); (try clear hfz20); (try clear hfz25); (try clear hfz33); (try clear hfz41); (try clear hfz45); (try clear hfz4)
                     (try clear hfz4); (try clear hfz9); (try clear hx135_0); (try clear p135); (try clear q135); obtain ⟨kq, x5_41, rfl, HA, HJ41, BK133, HB⟩ := hcut; cases kq with
                     | zero => exact absurd HA.out (by simp [tallboyref15_Check.j10])
                     | succ kj41 =>
                      have H := HA.out; clear HA; simp only [tallboyref15_Check.j10] at H; have HC46 := Aside0.mk H; clear H
                      go_upto_region 24 with (fail)
                      go_cut [109] (fun v109 wc => ∃ (kq : Nat) (x109_45 : Bool), v109 = .bool x109_45 ∧ Aside0 (tallboyref15_Check.j11 kq a0_0 x5_41 x109_45 a0_0 l0_1 a0_2 a0_3 a0_4 a0_5 a0_6 a0_7 = some r) ∧ Aside0 (kq ≤ kj41) ∧ Aside0 (wc.heap[gb133]? = some (.cells #[.int .i64 a0_0, (.slice A0_1 l0_1.length c0_1), .int .u32 a0_2, .int .i64 a0_3, .string a0_4, .int .u64 a0_5, .int .u64 a0_6, .bool a0_7] 37 (0, 0))) ∧ Aside0 (Below w.heap.size w wc))
                      case first =>
                       have H := HC46.out; clear HC46
                       by_cases c47 : a0_0 = 12
                       ·rw [if_pos c47] at H; have c47b0 : (a0_0 == 12) = true := beq_iff_eq.mpr c47; have c47b1 : (a0_0 != 12) = false := bne_eq_false_iff_eq.mpr c47; clear c47
                        (first | rw [c47b0] | (simp only [i64_w, i32_w]; rw [c47b0]) | skip)
                        have H' := Aside0.mk H; clear H; go_wp2
                        go_meet
                        case rel => exact ⟨_, (false), (by first | rfl | (simp; done) | (simp [*]; done)), H', ⟨by have := HJ1.out; have := HJ7.out; have := HJ11.out; have := HJ13.out; have := HJ21.out; have := HJ25.out; have := HJ29.out; have := HJ33.out; have := HJ37.out; have := HJ41.out; first | omega | exact Nat.le_refl _⟩, ⟨bK BK133.out⟩, ⟨bH HB.out⟩⟩
                       ·rw [if_neg c47] at H; have c47b0 : (a0_0 == 12) = false := beq_eq_false_iff_ne.mpr c47; have c47b1 : (a0_0 != 12) = true := bne_iff_ne.mpr c47
                        (first | rw [c47b0] | (simp only [i64_w, i32_w]; rw [c47b0]) | skip)
                        have H' := Aside0.mk H; clear H; go_wp2
                        go_meet
                        case rel => exact ⟨_, ((a0_0 != 13)), (by first | rfl | (simp; done) | (simp [*]; done)), H', ⟨by have := HJ1.out; have := HJ7.out; have := HJ11.out; have := HJ13.out; have := HJ21.out; have := HJ25.out; have := HJ29.out; have := HJ33.out; have := HJ37.out; have := HJ41.out; first | omega | exact Nat.le_refl _⟩, ⟨bK BK133.out⟩, ⟨bH HB.out⟩⟩
                      case rest =>
                       clear HC46; (try clear c5b0); (try clear c6); (try clear c10); (try clear c11b0); (try clear c11b1); (try clear c13); (try clear c13b0); (try clear c13b1); (try clear c15b0); (try clear c16); (try clear c17); (try clear c17b0); (try clear c18); (try clear c18b0); (try clear c23); (try clear c24); (try clear c28); (try clear c29); (try clear c29b0); (try clear c29b1); (try clear c31); (try clear c32); (try clear c35); (try clear c36); (try clear c36b0); (try clear c36b1); (try clear c37); (try clear c37b0); (try clear c37b1); (try clear c39); (try clear c40); (try clear c43); (try clear c43b0); (try clear c43b1); (try clear c44); (try clear c47); (try clear c47b0); (try clear c47b1); (try clear hcz20); (try clear hcz25); (try clear hcz33); (try clear hcz41); (try clear hcz45); (try clear hcz4); (try clear hcz9); (try clear hfz20); (try clear hfz25); (try clear hfz33); (try clear hfz41); (try clear hfz45)
                       (try clear hfz45); (try clear hfz4); (try clear hfz9); (try clear hx135_0); (try clear p135); (try clear q135); obtain ⟨kq, x109_45, rfl, HA, HJ45, BK133, HB⟩ := hcut; cases kq with
                       | zero => exact absurd HA.out (by simp [tallboyref15_Check.j11])
                       | succ kj45 =>
                        have H := HA.out; clear HA; simp only [tallboyref15_Check.j11] at H; have HC48 := Aside0.mk H; clear H
                        go_upto_if 109 with (fail)
                        go_cut [5] (fun v5 wc => ∃ (kq : Nat) (x5_47 : Bool), v5 = .bool x5_47 ∧ Aside0 (tallboyref15_Check.j12 kq a0_0 x5_47 a0_0 l0_1 a0_2 a0_3 a0_4 a0_5 a0_6 a0_7 = some r) ∧ Aside0 (kq ≤ kj45) ∧ Aside0 (wc.heap[gb133]? = some (.cells #[.int .i64 a0_0, (.slice A0_1 l0_1.length c0_1), .int .u32 a0_2, .int .i64 a0_3, .string a0_4, .int .u64 a0_5, .int .u64 a0_6, .bool a0_7] 37 (0, 0))) ∧ Aside0 (Below w.heap.size w wc))
                        case first =>
                         have H := HC48.out; clear HC48
                         by_cases c49 : x109_45 = true
                         ·subst c49; rw [if_pos rfl] at H
                          by_cases c50 : x5_41 = true
                          ·subst c50; rw [if_pos rfl] at H; have H' := Aside0.mk H; clear H; obtain ⟨hcz51, hfz51⟩ := d8 BK133; go_wp2
                           go_meet
                           case rel => exact ⟨_, ((a0_6 == 0)), (by first | rfl | (simp; done) | (simp [*]; done)), H', ⟨by have := HJ1.out; have := HJ7.out; have := HJ11.out; have := HJ13.out; have := HJ21.out; have := HJ25.out; have := HJ29.out; have := HJ33.out; have := HJ37.out; have := HJ41.out; have := HJ45.out; first | omega | exact Nat.le_refl _⟩, ⟨bK BK133.out⟩, ⟨bH HB.out⟩⟩
                          ·replace c50 := Bool.eq_false_iff.mpr c50; subst c50; rw [if_neg (show ¬ (false = true) by decide)] at H; have H' := Aside0.mk H; clear H; go_wp2
                           go_meet
                           case rel => exact ⟨_, (false), (by first | rfl | (simp; done) | (simp [*]; done)), H', ⟨by have := HJ1.out; have := HJ7.out; have := HJ11.out; have := HJ13.out; have := HJ21.out; have := HJ25.out; have := HJ29.out; have := HJ33.out; have := HJ37.out; have := HJ41.out; have := HJ45.out; first | omega | exact Nat.le_refl _⟩, ⟨bK BK133.out⟩, ⟨bH HB.out⟩⟩
                         ·replace c49 := Bool.eq_false_iff.mpr c49; subst c49; rw [if_neg (show ¬ (false = true) by decide)] at H; have H' := Aside0.mk H; clear H; go_wp2
                          go_meet
                          case rel => exact ⟨_, (x5_41), (by first | rfl | (simp; done) | (simp [*]; done)), H', ⟨by have := HJ1.out; have := HJ7.out; have := HJ11.out; have := HJ13.out; have := HJ21.out; have := HJ25.out; have := HJ29.out; have := HJ33.out; have := HJ37.out; have := HJ41.out; have := HJ45.out; first | omega | exact Nat.le_refl _⟩, ⟨bK BK133.out⟩, ⟨bH HB.out⟩⟩
                        case rest =>
                         clear HC48; (try clear c5b0); (try clear c6); (try clear c10); (try clear c11b0); (try clear c11b1); (try clear c13); (try clear c13b0); (try clear c13b1); (try clear c15b0); (try clear c16); (try clear c17); (try clear c17b0); (try clear c18); (try clear c18b0); (try clear c23); (try clear c24); (try clear c28); (try clear c29); (try clear c29b0); (try clear c29b1); (try clear c31); (try clear c32); (try clear c35); (try clear c36); (try clear c36b0); (try clear c36b1); (try clear c37); (try clear c37b0); (try clear c37b1); (try clear c39); (try clear c40); (try clear c43); (try clear c43b0); (try clear c43b1); (try clear c44); (try clear c47); (try clear c47b0); (try clear c47b1); (try clear c49); (try clear c50); (try clear hcz20); (try clear hcz25); (try clear hcz33); (try clear hcz41); (try clear hcz45); (try clear hcz4); (try clear hcz51); (try clear hcz9); (try clear hfz20); (try clear hfz25); (try clear hfz33); (try clear hfz41)
                         (try clear hfz41); (try clear hfz45); (try clear hfz4); (try clear hfz51); (try clear hfz9); (try clear hx135_0); (try clear p135); (try clear q135); obtain ⟨kq, x5_47, rfl, HA, HJ47, BK133, HB⟩ := hcut; cases kq with
                         | zero => exact absurd HA.out (by simp [tallboyref15_Check.j12])
                         | succ kj47 =>
                          have H := HA.out; clear HA; simp only [tallboyref15_Check.j12] at H; replace H := Option.bind_eq_some_iff.mp H; obtain ⟨t139, A520, H⟩ := H; (try dsimp only at H); have A52 := Aside0.mk A520; clear A520; have HC53 := Aside0.mk H; clear H
                          go_upto_if 117 with (first | ((with_reducible refine gate_callee (f := 25) rfl ?_); refine goesL_ (some 117) rfl rfl Tryd.func25 (by kernel_rfl) rfl #[.int .i64 a0_0] rfl (by (try simp only [List.map_toArray, List.map_cons, List.map_nil]); first | done | rfl | (simp only [List.length_drop, List.length_take]; rfl)) ?_; (with_reducible refine (tallboyref15_Reads.calls a0_0 t139 _ A52.out).mono ?_); rintro e w' ⟨rfl, ⟨nd, rfl⟩⟩; refine ⟨_, rfl, ?_⟩))
                          (try simp only [Act.put, sA, sB, sC])
                          go_cut [5] (fun v5 wc => ∃ (kq : Nat) (x5_52 : Bool), v5 = .bool x5_52 ∧ Aside0 (tallboyref15_Check.j13 kq x5_52 a0_0 l0_1 a0_2 a0_3 a0_4 a0_5 a0_6 a0_7 = some r) ∧ Aside0 (kq ≤ kj47) ∧ Aside0 (wc.heap[gb133]? = some (.cells #[.int .i64 a0_0, (.slice A0_1 l0_1.length c0_1), .int .u32 a0_2, .int .i64 a0_3, .string a0_4, .int .u64 a0_5, .int .u64 a0_6, .bool a0_7] 37 (0, 0))) ∧ Aside0 (Below w.heap.size w wc))
                          case first =>
                           have H := HC53.out; clear HC53
                           by_cases c54 : t139 = true
                           ·subst c54; rw [if_pos rfl] at H
                            by_cases c55 : x5_47 = true
                            ·subst c55; rw [if_pos rfl] at H; have H' := Aside0.mk H; clear H; obtain ⟨hcz56, hfz56⟩ := d8 BK133; go_wp2
                             go_meet
                             case rel => exact ⟨_, (!a0_7), (by first | rfl | (simp; done) | (simp [*]; done)), H', ⟨by have := HJ1.out; have := HJ7.out; have := HJ11.out; have := HJ13.out; have := HJ21.out; have := HJ25.out; have := HJ29.out; have := HJ33.out; have := HJ37.out; have := HJ41.out; have := HJ45.out; have := HJ47.out; first | omega | exact Nat.le_refl _⟩, ⟨bK BK133.out⟩, ⟨bH HB.out⟩⟩
                            ·replace c55 := Bool.eq_false_iff.mpr c55; subst c55; rw [if_neg (show ¬ (false = true) by decide)] at H; have H' := Aside0.mk H; clear H; go_wp2
                             go_meet
                             case rel => exact ⟨_, (false), (by first | rfl | (simp; done) | (simp [*]; done)), H', ⟨by have := HJ1.out; have := HJ7.out; have := HJ11.out; have := HJ13.out; have := HJ21.out; have := HJ25.out; have := HJ29.out; have := HJ33.out; have := HJ37.out; have := HJ41.out; have := HJ45.out; have := HJ47.out; first | omega | exact Nat.le_refl _⟩, ⟨bK BK133.out⟩, ⟨bH HB.out⟩⟩
                           ·replace c54 := Bool.eq_false_iff.mpr c54; subst c54; rw [if_neg (show ¬ (false = true) by decide)] at H; have H' := Aside0.mk H; clear H; go_wp2
                            go_meet
                            case rel => exact ⟨_, (x5_47), (by first | rfl | (simp; done) | (simp [*]; done)), H', ⟨by have := HJ1.out; have := HJ7.out; have := HJ11.out; have := HJ13.out; have := HJ21.out; have := HJ25.out; have := HJ29.out; have := HJ33.out; have := HJ37.out; have := HJ41.out; have := HJ45.out; have := HJ47.out; first | omega | exact Nat.le_refl _⟩, ⟨bK BK133.out⟩, ⟨bH HB.out⟩⟩
                          case rest =>
                           clear HC53; (try clear c5b0); (try clear c6); (try clear c10); (try clear c11b0); (try clear c11b1); (try clear c13); (try clear c13b0); (try clear c13b1); (try clear c15b0); (try clear c16); (try clear c17); (try clear c17b0); (try clear c18); (try clear c18b0); (try clear c23); (try clear c24); (try clear c28); (try clear c29); (try clear c29b0); (try clear c29b1); (try clear c31); (try clear c32); (try clear c35); (try clear c36); (try clear c36b0); (try clear c36b1); (try clear c37); (try clear c37b0); (try clear c37b1); (try clear c39); (try clear c40); (try clear c43); (try clear c43b0); (try clear c43b1); (try clear c44); (try clear c47); (try clear c47b0); (try clear c47b1); (try clear c49); (try clear c50); (try clear c54); (try clear c55); (try clear hcz20); (try clear hcz25); (try clear hcz33); (try clear hcz41); (try clear hcz45); (try clear hcz4); (try clear hcz51); (try clear hcz56); (try clear hcz9); (try clear hfz20); (try clear hfz25); (try clear hfz33)
                           (try clear hfz33); (try clear hfz41); (try clear hfz45); (try clear hfz4); (try clear hfz51); (try clear hfz56); (try clear hfz9); (try clear hx135_0); (try clear p135); (try clear q135); obtain ⟨kq, x5_52, rfl, HA, HJ52, BK133, HB⟩ := hcut; cases kq with
                           | zero => exact absurd HA.out (by simp [tallboyref15_Check.j13])
                           | succ kj52 =>
                            have H := HA.out; clear HA; simp only [tallboyref15_Check.j13] at H
                            by_cases c57 : x5_52 = true
                            ·subst c57; rw [if_pos rfl] at H
                             by_cases c58 : (a0_4.size : Int) > 2000
                             ·rw [if_pos c58] at H; have c58b0 : decide (2000 < (a0_4.size : Int)) = true := decide_eq_true c58; have c58b1 : decide (2000 < a0_4.size) = true := decide_eq_true (by omega); clear c58; obtain rfl := Option.some.inj H; obtain ⟨hcz59, hfz59⟩ := d8 BK133; go_wp2; go_ret
                              exact ⟨xR, bH HB.out⟩
                             ·rw [if_neg c58] at H; have c58b0 : decide (2000 < (a0_4.size : Int)) = false := decide_eq_false c58; have c58b1 : decide (2000 < a0_4.size) = false := decide_eq_false (by omega); clear c58; obtain rfl := Option.some.inj H; obtain ⟨hcz60, hfz60⟩ := d8 BK133; go_wp2; go_ret
                              exact ⟨xR, bH HB.out⟩
                            ·replace c57 := Bool.eq_false_iff.mpr c57; subst c57; rw [if_neg (show ¬ (false = true) by decide)] at H; obtain rfl := Option.some.inj H; go_wp2; go_ret
                             exact ⟨xR, bH HB.out⟩

end Go.Proofs.YtginfaencjmhgaaDoor.P
